/- Lists of the call's own: slices that it made or appended to, and may write. -/
import Derived.Test.YtehlnkhbbnddmaaLG
import Derived.Laws.IdiomCopy
import Derived.Laws.CopyRow
namespace Go.Proofs.Ytehlnkhbbnddmaa
open Go.RowKit

/-- v is a slice of the call's own, in blocks from B on, and reads as xs. -/
def Own {α : Type} (w : World) (B : Nat) (e : TypeId) (sz : Nat) (enc : α → List Value) (v : Value) (xs : List α) : Prop := w.ownsRow B e sz v xs.length (xs.flatMap enc)
section
variable {α : Type} {w w' : World} {B sz : Nat} {e : TypeId} {enc : α → List Value} {v : Value} {xs : List α}
theorem Own.rdl (h : Own w B e sz enc v xs) (hsz : ∀ a, (enc a).length = sz) : RdL w sz enc v xs := RdL.of_own hsz h
theorem Own.ext (h : Own w B e sz enc v xs) (hx : Ex w w') : Own w' B e sz enc v xs := own_ext h hx
theorem Own.nil_ (w : World) (B : Nat) (e : TypeId) (sz : Nat) (enc : α → List Value) : Own w B e sz enc (.slice none 0 0) [] := own_nil w B e sz
theorem Own.low {B' : Nat} (h : Own w B e sz enc v xs) (hB : B' ≤ B) : Own w B' e sz enc v xs := by
  refine ⟨h.1, ?_⟩
  rcases h.2 with h0 | ⟨g, cap, cur, h1, h2, h3⟩
  · exact .inl h0
  · exact .inr ⟨g, cap, cur, h1, Nat.le_trans hB h2, h3⟩
theorem Own.grown {b : Option Nat} (h : Own w B e sz enc v xs) (hg : w.grownBy w' b) (hne : ∀ k, v.ownBlock = some k → b = some k → False) : Own w' B e sz enc v xs := by
  refine World.ownsRow.kept h hg ?_
  cases hv : v.ownBlock with
  | none => exact .inl rfl
  | some k => exact .inr fun e => hne k hv e.symm
theorem Own.far {g : Nat} (h : Own w B e sz enc v xs) (hw : Wr w w' g) (hne : v.ownBlock = some g → False) : Own w' B e sz enc v xs :=
  h.grown hw.grownBy fun k hk hb => by injection hb with hb; subst hb; exact hne hk
theorem Own.lt {g : Nat} (h : Own w B e sz enc v xs) (hg : v.ownBlock = some g) : g < w.heap.size := (World.ownsRow.lt h g hg).2
theorem Own.ge {g : Nat} (h : Own w B e sz enc v xs) (hg : v.ownBlock = some g) : B ≤ g := (World.ownsRow.lt h g hg).1
theorem Own.cells {g i : Nat} {a : α} (h : Own w B e sz enc v xs) (hsz : ∀ a, (enc a).length = sz) (hg : v.ownBlock = some g) (hi : xs[i]? = some a) : Cells w ((⟨g, 0, none⟩ : Addr).add (i * sz)) (enc a) := fun j u hu => by
  rw [add_of_add]
  exact World.ownsRow.cells h hg _ u (getElem?_flatMap_at hsz xs i a hi j u hu)
theorem Own.shape (h : Own w B e sz enc v xs) : ∃ A c, v = .slice A xs.length c := by
  rcases h.2 with ⟨rfl, h0⟩ | ⟨g, cap, cur, rfl, _⟩
  · exact ⟨none, 0, by rw [h0]⟩
  · exact ⟨_, _, rfl⟩
theorem RdL.shape (h : RdL w sz enc v xs) : ∃ A c, v = .slice A xs.length c := by
  obtain ⟨A, c, rfl, _⟩ := h; exact ⟨A, c, rfl⟩
/-- Bytes as numbers; values. -/
abbrev encN (n : Nat) : List Value := [.int .u8 (n : Int)]
theorem encN_len (n : Nat) : (encN n).length = 1 := rfl
abbrev encV (v : Value) : List Value := [v]
theorem encV_len (v : Value) : (encV v).length = 1 := rfl
abbrev encI (n : Int) : List Value := [.int .i64 n]
theorem encI_len (n : Int) : (encI n).length = 1 := rfl
/-- Two slices of the call's own share no block. -/
def Sep (v u : Value) : Prop := ∀ k, v.ownBlock = some k → u.ownBlock = some k → False
theorem Sep.symm {v u : Value} (h : Sep v u) : Sep u v := fun k a b => h k b a
theorem Sep.nil_ (u : Value) : Sep (.slice none 0 0) u := fun k h => by cases h
theorem Sep.of_new {u : Value} {β : Type} {B' : Nat} {e' : TypeId} {sz' : Nat} {enc' : β → List Value} {ys : List β} (h : Own w B' e' sz' enc' u ys) (hv : ∀ k, v.ownBlock = some k → w.heap.size ≤ k) : Sep v u := fun k h1 h2 => by
  have := hv k h1; have := h.lt h2; omega
theorem Sep.app {v' u : Value} {β : Type} {B' : Nat} {e' : TypeId} {sz' : Nat} {enc' : β → List Value} {ys : List β} (hs : Sep v u) (h : Own w B' e' sz' enc' u ys) (ha : v'.ownBlock = v.ownBlock ∨ v'.ownBlock = some w.heap.size) : Sep v' u := fun k h1 h2 => by
  rcases ha with e | e
  · exact hs k (by rw [← e]; exact h1) h2
  · rw [h1] at e; injection e with e; have := h.lt h2; omega
theorem grown_of {a b c : World} {g : Nat} {r : Option Nat} (hx : Ex a b) (hw : Wr b c g) (hr : r = some g) : a.grownBy c r := by
  subst hr
  exact ⟨hw.os.trans hx.os, hw.tape.trans hx.tape, hw.output.trans hx.output, by rw [hw.size]; exact hx.size, fun k hk hne => (hw.block k fun e => hne (by rw [e])).trans (hx.block k hk)⟩
theorem sep_new {g : Nat} (h : Own w B e sz enc v xs) (hg : g = w.heap.size) (hv : v.ownBlock = some g) : False := by have := h.lt hv; omega
theorem sepb_app {v' : Value} {g : Nat} {t : TypeId} {cs : List Value} (hs : v.ownBlock = some g → False) (h : Blk w g t cs) (ha : v'.ownBlock = v.ownBlock ∨ v'.ownBlock = some w.heap.size) : v'.ownBlock = some g → False := fun h1 => by
  rcases ha with e | e
  · exact hs (by rw [← e]; exact h1)
  · rw [h1] at e; injection e with e; have := h.lt; omega
/-- A block and a slice of the call's own. -/
theorem sep_blk {g : Nat} {t : TypeId} {cs : List Value} (h : Blk w g t cs) (hB : w.heap.size ≤ B) {w2 : World} (h2 : Own w2 B e sz enc v xs) : v.ownBlock = some g → False := fun e => by
  have := h2.ge e; have := h.lt; omega
end

section
variable {P : Program} {ops : Array Oper} {Q : Exit → Act → World → Prop} {n : Nat} {l : List Oper} {S : Slots} {w w' : World} {o : Oper} {d g : Nat}
variable {α : Type} {B sz : Nat} {e : TypeId} {enc : α → List Value} {v : Value} {xs : List α}

theorem Own.idx_ev {T : Nat} {x y : Operand} {k : IntKind} {i : Nat} {a : α} (h : Own w B e sz enc v xs) (hsz : ∀ a, (enc a).length = sz) (ho : o.op = .indexAddr T x y) (hx : ev S x = some v) (hy : ev S y = some (.int k i)) (ht : P.underlying T = some (.slice e)) (hs : sizeP P e = some sz) (hi : xs[i]? = some a) :
    ∃ g, v.ownBlock = some g ∧ B ≤ g ∧ g < w.heap.size ∧ Cells w ((⟨g, 0, none⟩ : Addr).add (i * sz)) (enc a) ∧ ∀ w', Ev P n o S w' (.pointer (some ((⟨g, 0, none⟩ : Addr).add (i * sz)))) := by
  have hlt : i < xs.length := (List.getElem?_eq_some_iff.1 hi).1
  obtain ⟨g, cap, rfl, hB, hg⟩ := own_at h (by omega)
  exact ⟨g, rfl, hB, hg, h.cells hsz rfl hi, fun _ => Ev.idxN ho hx hy ht hs hlt⟩
/-- An element's address in a slice of the call's own. -/
theorem RG.idxO {T : Nat} {x y : Operand} {k : IntKind} {i : Nat} {a : α} (hw : wantS ops S o = some true) (hd : o.dst = some d) (hdn : Nat.blt d n = true) (ho : o.op = .indexAddr T x y) (hx : ev S x = some v) (hy : ev S y = some (.int k i)) (ht : P.underlying T = some (.slice e)) (hs : sizeP P e = some sz)
    (hsz : ∀ a, (enc a).length = sz) (h : Own w B e sz enc v xs) (hi : xs[i]? = some a)
    (kk : ∀ g, v.ownBlock = some g → B ≤ g → (((⟨g, 0, none⟩ : Addr).add (i * sz)).block < w.heap.size) → Cells w ((⟨g, 0, none⟩ : Addr).add (i * sz)) (enc a) → RG P ops Q n l ((d, .pointer (some ((⟨g, 0, none⟩ : Addr).add (i * sz)))) :: S) w) : RG P ops Q n (o :: l) S w := by
  obtain ⟨g, h1, h2, h3, h4, h5⟩ := h.idx_ev (P := P) (n := n) hsz ho hx hy ht hs hi
  exact RG.vl hw hd hdn (h5 w) (kk g h1 h2 (by rw [block_of_add]; exact h3) h4)
theorem AG.idxO {U : List Nat} {row : Rk} {f : Nat} {listed : Array Bool} {T : Nat} {x y : Operand} {k : IntKind} {ix : Nat} {a : α} (w0 : World) (i : Nat) {oi : Oper} (hi : ops[i]? = some oi) (hns : Region.noSelect ops = true) (hf : freeZ ops U listed i false = true) (hw : wantS ops S oi = some true) (hd : oi.dst = some d) (hdn : Nat.blt d n = true)
    (ho : oi.op = .indexAddr T x y) (hx : ev S x = some v) (hy : ev S y = some (.int k ix)) (ht : P.underlying T = some (.slice e)) (hs : sizeP P e = some sz)
    (hsz : ∀ a, (enc a).length = sz) (h : Own w0 B e sz enc v xs) (hix : xs[ix]? = some a)
    (kk : ∀ g, v.ownBlock = some g → B ≤ g → (((⟨g, 0, none⟩ : Addr).add (ix * sz)).block < w0.heap.size) → Cells w0 ((⟨g, 0, none⟩ : Addr).add (ix * sz)) (enc a) → AG P ops Q U row n f (listed.setIfInBounds i true) ((d, .pointer (some ((⟨g, 0, none⟩ : Addr).add (ix * sz)))) :: S) w) : AG P ops Q U row n (f + 1) listed S w := by
  obtain ⟨g, h1, h2, h3, h4, h5⟩ := h.idx_ev (P := P) (n := n) hsz ho hx hy ht hs hix
  exact AG.takeW i hi hns hf hw hd hdn h5 (kk g h1 h2 (by rw [block_of_add]; exact h3) h4)
/-- A store of one cell: the element's j-th. -/
theorem RG.stOw {T k j : Nat} {x y : Operand} {u : Value} {a : α} (b : α) (hw : wantS ops S o = some true) (hd : o.dst = none) (ho : o.op = .store T x y) (hx : ev S x = some (.pointer (some (((⟨g, 0, none⟩ : Addr).add (k * sz)).add j)))) (hy : ev S y = some u)
    (hs : sizeP P T = some 1) (h1 : u.oneCell' = true) (hsz : ∀ a, (enc a).length = sz) (hown : Own w B e sz enc v xs) (hg : v.ownBlock = some g) (hk : xs[k]? = some a) (hj : Nat.blt j sz = true) (he : (enc a).set j u = enc b)
    (kk : ∀ w', Wr w w' g → Own w' B e sz enc v (xs.set k b) → RG P ops Q n l S w') : RG P ops Q n (o :: l) S w := by
  have hlt : k < xs.length := (List.getElem?_eq_some_iff.1 hk).1
  have hj' : j < sz := by simpa [Nat.blt_eq] using hj
  obtain ⟨g', cap, rfl, hB, hgl⟩ := own_at hown (by omega)
  have : g' = g := by simpa [Value.ownBlock] using hg
  subst this
  refine RG.stO2 hw hd ho hx hy hs h1 hown ?_ fun w' hwr h' => kk w' hwr ?_
  · calc k * sz + j < k * sz + sz := by omega
      _ = (k + 1) * sz := by rw [Nat.add_mul]; omega
      _ ≤ _ := Nat.mul_le_mul_right _ hlt
  · unfold Own; exact own_set hsz b k j hj' hk he h'
theorem RG.stOw0 {T k : Nat} {x y : Operand} {u : Value} {a : α} (b : α) (hw : wantS ops S o = some true) (hd : o.dst = none) (ho : o.op = .store T x y) (hx : ev S x = some (.pointer (some ((⟨g, 0, none⟩ : Addr).add (k * sz))))) (hy : ev S y = some u)
    (hs : sizeP P T = some 1) (h1 : u.oneCell' = true) (hsz : ∀ a, (enc a).length = sz) (hown : Own w B e sz enc v xs) (hg : v.ownBlock = some g) (hk : xs[k]? = some a) (hj : Nat.blt 0 sz = true) (he : (enc a).set 0 u = enc b)
    (kk : ∀ w', Wr w w' g → Own w' B e sz enc v (xs.set k b) → RG P ops Q n l S w') : RG P ops Q n (o :: l) S w :=
  RG.stOw (j := 0) b hw hd ho (by rw [add_zero_]; exact hx) hy hs h1 hsz hown hg hk hj he kk
theorem Ev.nilC {x : Operand} {p : Addr} (ho : o.op = .nilCheck x) (hx : ev S x = some (.pointer (some p))) : Ev P n o S w (.pointer (some p)) := fun a ha => by
  simp only [execOp, ho]; rw [ha.eval hx]
  simp
/-- append(own, list...) -/
theorem RG.appO {T by_ : Nat} {z u : Value} {x y : Operand} {c : Call} {us : List α} (hw : wantS ops S o = some true) (hd : o.dst = some d) (hdn : Nat.blt d n = true) (ho : o.op = .call c) (hc : c = { callee := .builtin .append, args := #[x, y], argTypes := #[T, T] })
    (hx : ev S x = some v) (hy : ev S y = some u) (ht : P.underlying T = some (.slice e)) (hi : (P.info? e).map (fun i => (i.zero, i.size, i.bytes)) = some (some z, sz, by_)) (hz : z.cells.size = sz) (hsz0 : Nat.blt 0 sz = true) (henc : ∀ a, (enc a).length = sz) (h1' : ∀ a, (enc a).all (·.oneCell') = true)
    (hown : Own w B e sz enc v xs) (hr : RdL w sz enc u us) (hlen : xs.length + us.length ≤ maxLen) (hby : (xs.length + us.length) * by_ ≤ 140737488355328) (hbase : B ≤ w.heap.size)
    (kk : ∀ v' w', Own w' B e sz enc v' (xs ++ us) → w.grownBy w' v.ownBlock → (v'.ownBlock = v.ownBlock ∨ v'.ownBlock = some w.heap.size) → RG P ops Q n l ((d, v') :: S) w') : RG P ops Q n (o :: l) S w :=
  RG.appLL hw hd hdn ho hc hx hy ht hi hz hsz0 henc h1' hown hr hlen hby hbase kk
/-- make([]T, m) -/
theorem RG.makeO {T by_ m : Nat} {c : Int} {z : Value} (a : α) {x y : Operand} {kx ky : IntKind} (hw : wantS ops S o = some true) (hd : o.dst = some d) (hdn : Nat.blt d n = true) (ho : o.op = .makeSlice T x y) (hx : ev S x = some (.int kx c)) (hy : ev S y = some (.int ky c)) (hc : c = (m : Int))
    (ht : P.underlying T = some (.slice e)) (hi : (P.info? e).map (fun i => (i.zero, i.size, i.bytes)) = some (some z, sz, by_)) (henc : ∀ a, (enc a).length = sz) (hz : z.cells.toList = enc a) (hsz : Nat.blt 0 sz = true) (hm : m * by_ ≤ 281474976710656) (hm2 : m ≤ maxLen)
    (kk : ∀ v w', Ex w w' → Own w' w.heap.size e sz enc v (List.replicate m a) → (∀ k, v.ownBlock = some k → w.heap.size ≤ k) → RG P ops Q n l ((d, v) :: S) w') : RG P ops Q n (o :: l) S w :=
  RG.makeL a hw hd hdn ho hx hy hc ht hi henc hz hsz hm hm2 fun g w' hg hx' hb _ => kk _ w' hx' (by
    unfold Own
    rw [List.length_replicate]
    exact own_blk hb (by omega) hm2 (by rw [length_flatMap_enc henc, List.length_replicate])) (fun k hk => by injection hk with hk; simp at hk; omega)
/-- []T{} -/
theorem RG.build0O {T : Nat} {parts : Array (Nat × Operand)} (hw : wantS ops S o = some true) (hd : o.dst = some d) (hdn : Nat.blt d n = true) (ho : o.op = .buildSlice T 0 parts) (hp : parts = #[]) (ht : P.underlying T = some (.slice e)) (hs : sizeP P e = some sz)
    (kk : ∀ v w', Ex w w' → Own w' w.heap.size e sz enc v [] → (∀ k, v.ownBlock = some k → w.heap.size ≤ k) → RG P ops Q n l ((d, v) :: S) w') : RG P ops Q n (o :: l) S w :=
  RG.build0 hw hd hdn ho hp ht hs fun g w' hg hx' hb => kk _ w' hx' (own_blk hb (by omega) (Nat.zero_le _) (by simp)) (fun k hk => by injection hk with hk; simp at hk; omega)
/-- []T{a, b, ..} -/
theorem RG.litO {T len by_ : Nat} {z : Value} {os : List Operand} {vs : List Value} {parts : Array (Nat × Operand)} (us : List α) (hw : wantS ops S o = some true) (hd : o.dst = some d) (hdn : Nat.blt d n = true) (ho : o.op = .buildSlice T len parts)
    (hp : parts = (os.zipIdx.map fun x => (x.2, x.1)).toArray) (hx : evs S os = some vs) (hlen : vs.length = len) (ht : P.underlying T = some (.slice e)) (hi : (P.info? e).map (fun i => (i.zero, i.size, i.bytes)) = some (some z, sz, by_)) (hz : z.cells.size = sz)
    (hsm : Nat.ble (len * sz) 16777216 = true) (hpos : Nat.beq (len * sz) 0 = false) (hv : vs.all (fun v => Nat.beq v.cells.size sz) = true) (hul : us.length = len) (henc : ∀ a, (enc a).length = sz) (hm : Nat.ble len maxLen = true) (he : (vs.flatMap fun v => v.cells.toList) = us.flatMap enc)
    (kk : ∀ v w', Ex w w' → Own w' w.heap.size e sz enc v us → (∀ k, v.ownBlock = some k → w.heap.size ≤ k) → RG P ops Q n l ((d, v) :: S) w') : RG P ops Q n (o :: l) S w :=
  RG.buildD hw hd hdn ho hp hx hlen ht hi hz hsm hpos hv fun g w' hg hx' hb => kk _ w' hx' (by
    unfold Own
    rw [he] at hb
    subst hul
    exact own_blk hb (by omega) (Nat.le_of_ble_eq_true hm) (by rw [length_flatMap_enc henc])) (fun k hk => by injection hk with hk; simp at hk; omega)
theorem drop_flat1 (henc : ∀ a, (enc a).length = 1) : ∀ (xs : List α) (k : Nat), (xs.drop k).flatMap enc = (xs.flatMap enc).drop k
  | [], k => by simp
  | x :: xs, 0 => rfl
  | x :: xs, k + 1 => by
    have e : (enc x).drop (k + 1) = [] := List.drop_eq_nil_of_le (by rw [henc]; omega)
    rw [List.drop_succ_cons, drop_flat1 henc xs k, List.flatMap_cons, List.drop_append, henc, e]; rfl
/-- copy(own, list), elements of one cell, no more than the slice has. -/
theorem RG.copyO {T : Nat} {u : Value} {x y : Operand} {c : Call} {us : List α} (hw : wantS ops S o = some true) (hd : o.dst = some d) (hdn : Nat.blt d n = true) (ho : o.op = .call c) (hc : c = { callee := .builtin .copy, args := #[x, y], argTypes := #[T, T] })
    (hx : ev S x = some v) (hy : ev S y = some u) (ht : P.underlying T = some (.slice e)) (hi : sizeP P e = some 1) (henc : ∀ a, (enc a).length = 1) (h1' : ∀ a, (enc a).all (·.oneCell') = true)
    (hown : Own w B e 1 enc v xs) (hr : RdL w 1 enc u us) (hlen : us.length ≤ xs.length)
    (kk : ∀ w', Own w' B e 1 enc v (us ++ xs.drop us.length) → w.grownBy w' v.ownBlock → RG P ops Q n l ((d, .int .i64 us.length) :: S) w') : RG P ops Q n (o :: l) S w := by
  obtain ⟨A, cp, rfl, hA⟩ := hr.flat henc
  have hl1 := length_flatMap_enc henc us
  rw [Nat.mul_one] at hl1
  rcases Nat.eq_zero_or_pos us.length with h0 | h0
  · have hus : us = [] := List.eq_nil_of_length_eq_zero h0
    subst hus
    have hv : ∃ D L C, v = .slice D L C := by
      rcases hown.2 with ⟨rfl, _⟩ | ⟨g, cap, cur, rfl, _⟩ <;> exact ⟨_, _, _, rfl⟩
    obtain ⟨D, L, C, rfl⟩ := hv
    refine RG.run (v := .int .i64 0) (w' := w) hw hd hdn (fun a ha => ?_) (kk w hown (World.grownBy.refl w _))
    have := run_copy_none (P := P) w T T o.type e D A L C 0 cp ht hi (by simp)
    simp only [execOp, ho, hc]
    simp [resolve, invoke, builtin, ha.eval hx, ha.eval hy, this, goInt]
  · obtain ⟨ad, rfl, hcs⟩ := hA h0
    obtain ⟨g, cap, cs, rfl, hB, hb, hmc, hcm, hcl, htk⟩ := own_open hown (by omega)
    rw [Nat.mul_one] at hcl htk
    have h1 : ∀ u ∈ us.flatMap enc, u.oneCell' = true := fun b hb => by
      obtain ⟨a, _, hb'⟩ := List.mem_flatMap.1 hb
      exact (List.all_eq_true.1 (h1' a)) b hb'
    have hrun := run_copy_row (P := P) w T T o.type e g 0 xs.length cap ad us.length cp cs.toArray e (us.flatMap enc) ht hi hb (by rw [hl1]; exact (Nat.min_eq_left hlen).symm) hcs (by rw [List.size_toArray]; omega) h1
    rw [hl1] at hrun
    refine RG.run (v := .int .i64 us.length) (w' := w.setRow g ((us.flatMap enc) ++ cs.drop us.length).toArray) hw hd hdn (fun a ha => ?_) (kk _ ⟨?_, .inr ⟨g, cap, _, ?_, hB, setRow_heap w g cs.toArray _ e _ hb, ?_, hcm, ?_, ?_⟩⟩ (wr_setRow _ _ _).grownBy)
    · simp only [execOp, ho, hc]
      simp [resolve, invoke, builtin, ha.eval hx, ha.eval hy, hrun, goInt]
    · rw [length_flatMap_enc henc]
    · rw [List.length_append, List.length_drop, Nat.add_sub_cancel' hlen]
    · rw [List.length_append, List.length_drop, Nat.add_sub_cancel' hlen]; exact hmc
    · simp [hl1]; omega
    · have hx2 := drop_flat1 henc xs us.length
      rw [List.flatMap_append, hx2, ← htk, List.length_append, List.length_drop, Nat.add_sub_cancel' hlen, Nat.mul_one]
      show ((us.flatMap enc) ++ cs.drop us.length).take xs.length = _
      rw [List.take_append, hl1, List.take_of_length_le (by omega), List.drop_take]
end
/-! two ways that meet -/
section
variable {P : Program} {Q : Exit → Act → World → Prop} {n : Nat} {S : Slots} {w : World}
theorem CW.cut2 {α β : Type} {c : Code} (F : Slots) (_ : Sub F S) (I : α → β → Slots) (J : α → β → World → Prop)
    (first : CW P c (Exit.then (fun a' w' => ∃ x y, Fr n (I x y ++ F) a' ∧ J x y w') Q) n S w) (rest : ∀ x y w', J x y w' → QW Q .normal n (I x y ++ F) w') : CW P c Q n S w :=
  CW.cut (γ := α × β) (fun g => I g.1 g.2 ++ F) (fun g => J g.1 g.2) (fun a ha => wp_mono (first a ha) (by
    intro e a w h
    cases e <;> first | exact h | (obtain ⟨x, y, h⟩ := h; exact ⟨(x, y), h⟩))) fun g w' => rest g.1 g.2 w'
theorem QW.meet2 {α β : Type} {F : Slots} {I : α → β → Slots} {J : α → β → World → Prop} (x : α) (y : β) (hS : Sub (I x y) S) (hF : Sub F S) (hJ : J x y w) :
    QW (Exit.then (fun a' w' => ∃ x y, Fr n (I x y ++ F) a' ∧ J x y w') Q) .normal n S w := fun _ ha => ⟨x, y, ha.sub (hS.app hF), hJ⟩
end
end Go.Proofs.Ytehlnkhbbnddmaa
