/- Memory: blocks known whole, slices that read as lists, and the operations that make or write memory. -/
import Derived.Test.YtnhkhpnkhkagaaaDoorLB
import Derived.Great.BuildSlice
import Derived.Deep.Draws
namespace Go.Proofs.YtnhkhpnkhkagaaaDoor
open Go.RowKit

theorem block_of_add (a : Addr) (n : Nat) : (a.add n).block = a.block := by unfold Addr.add; split <;> rfl
theorem add_of_add (a : Addr) (i j : Nat) : (a.add i).add j = a.add (i + j) := by
  unfold Addr.add
  by_cases hi : i = 0 <;> by_cases hj : j = 0 <;> simp [hi, hj, Nat.add_assoc]
theorem add_zero_ (a : Addr) : a.add 0 = a := by simp [Addr.add]
theorem add_at (g i : Nat) : (⟨g, 0, none⟩ : Addr).add i = ⟨g, i, none⟩ := by
  unfold Addr.add; split <;> simp_all

/-- All that was there is as it was. -/
abbrev Ex (w w' : World) : Prop := Below w.heap.size w w'
theorem Ex.rfl_ (w : World) : Ex w w := Below.refl _ _
theorem Ex.tr {a b c : World} (h : Ex a b) (k : Ex b c) : Ex a c := h.trans (k.mono h.size)
theorem Ex.of_drew (w : World) : Ex w w.drew := ⟨rfl, rfl, rfl, Nat.le_refl _, fun _ _ => rfl⟩
theorem Ex.of_alloc (w : World) (o : Obj) : Ex w (w.alloc o) := (Below.refl _ _).alloc (Nat.le_refl _) o
theorem bl_ex {B : Nat} {a b c : World} (h : Below B a b) (k : Ex b c) (hB : B ≤ b.heap.size) : Below B a c := h.trans (k.mono hB)

def Cells (w : World) (p : Addr) (us : List Value) : Prop := ∀ j u, us[j]? = some u → w.cell? (p.add j) = some u
theorem Cells.ext {w w' : World} {p : Addr} {us : List Value} (h : Cells w p us) (hx : Ex w w') (hp : p.block < w.heap.size) : Cells w' p us :=
  fun j u hu => (hx.cell (p := p.add j) (by rw [block_of_add]; exact hp)).trans (h j u hu)
theorem Cells.below {B : Nat} {w w' : World} {p : Addr} {us : List Value} (h : Cells w p us) (hx : Below B w w') (hp : p.block < B) : Cells w' p us :=
  fun j u hu => (hx.cell (p := p.add j) (by rw [block_of_add]; exact hp)).trans (h j u hu)
theorem Cells.grown {w w' : World} {p : Addr} {us : List Value} {row : Option Nat} (h : Cells w p us) (hx : w.grownBy w' row) (hp : p.block < w.heap.size) (hne : some p.block ≠ row) : Cells w' p us :=
  fun j u hu => (World.cell?_of_block (hx.block _ (by rw [block_of_add]; exact hp) (by rw [block_of_add]; exact hne))).trans (h j u hu)
theorem Cells.drop {w : World} {p : Addr} {us : List Value} (h : Cells w p us) (k : Nat) : Cells w (p.add k) (us.drop k) := fun j u hu => by
  rw [add_of_add]; exact h _ u (by rw [← hu, List.getElem?_drop])

/-- A block known whole. -/
def Blk (w : World) (g : Nat) (t : TypeId) (cs : List Value) : Prop := w.heap[g]? = some (.cells cs.toArray t (0, 0))
section
variable {w w' : World} {g : Nat} {t : TypeId} {cs : List Value}
theorem Blk.lt (h : Blk w g t cs) : g < w.heap.size := by
  rcases Nat.lt_or_ge g w.heap.size with hlt | hge
  · exact hlt
  · unfold Blk at h; rw [Array.getElem?_eq_none hge] at h; cases h
theorem Blk.cells (h : Blk w g t cs) : Cells w ⟨g, 0, none⟩ cs := fun j u hu => by
  rw [add_at, cell_of_row w g j cs.toArray t (0, 0) h]; simpa using hu
theorem Blk.cell (h : Blk w g t cs) (i : Nat) : w.cell? ⟨g, i, none⟩ = cs[i]? := by
  rw [cell_of_row w g i cs.toArray t (0, 0) h]; simp
theorem Blk.ext (h : Blk w g t cs) (hx : Ex w w') : Blk w' g t cs := (hx.block g h.lt).trans h
theorem Blk.below {B : Nat} (h : Blk w g t cs) (hx : Below B w w') (hg : g < B) : Blk w' g t cs := (hx.block g hg).trans h
theorem Blk.grown {row : Option Nat} (h : Blk w g t cs) (hb : w.grownBy w' row) (hg : some g ≠ row) : Blk w' g t cs := (hb.block g h.lt hg).trans h
end

/-- Only block g has been written. -/
structure Wr (w w' : World) (g : Nat) : Prop where
  os : w'.os = w.os
  tape : w'.tape = w.tape
  output : w'.output = w.output
  size : w'.heap.size = w.heap.size
  block : ∀ k, k ≠ g → w'.heap[k]? = w.heap[k]?
section
variable {w w' : World} {g : Nat}
theorem Wr.below {B : Nat} {a : World} (h : Below B a w) (k : Wr w w' g) (hg : B ≤ g) : Below B a w' :=
  ⟨k.os.trans h.os, k.tape.trans h.tape, k.output.trans h.output, by rw [k.size]; exact h.size, fun i hi => (k.block i (by omega)).trans (h.block i hi)⟩
theorem Wr.grownBy (k : Wr w w' g) : w.grownBy w' (some g) := ⟨k.os, k.tape, k.output, by rw [k.size]; exact Nat.le_refl _, fun i _ hne => k.block i (fun e => hne (by rw [e]))⟩
theorem Blk.far {h : Nat} {t : TypeId} {cs : List Value} (hb : Blk w h t cs) (k : Wr w w' g) (hne : h ≠ g) : Blk w' h t cs := (k.block h hne).trans hb
theorem Cells.far {p : Addr} {us : List Value} (hc : Cells w p us) (k : Wr w w' g) (hne : p.block ≠ g) : Cells w' p us := fun j u hu =>
  (World.cell?_of_block (k.block _ (by rw [block_of_add]; exact hne))).trans (hc j u hu)
end

/-- A slice that reads as a list: cell by cell, each element by its own encoding of sz cells. -/
def RdL {α : Type} (w : World) (sz : Nat) (enc : α → List Value) (v : Value) (l : List α) : Prop :=
  ∃ A c, v = .slice A l.length c ∧ l.length ≤ c ∧ c ≤ maxLen ∧ (0 < l.length → ∃ ad, A = some ad ∧ ad.block < w.heap.size ∧ ∀ i a, l[i]? = some a → Cells w (ad.add (i * sz)) (enc a))
section
variable {α : Type} {w w' : World} {sz : Nat} {enc : α → List Value} {v : Value} {l : List α}
theorem RdL.keep (h : RdL w sz enc v l) (hs : w.heap.size ≤ w'.heap.size) (hk : ∀ ad, v = .slice (some ad) l.length (match v with | .slice _ _ c => c | _ => 0) → 0 < l.length → ∀ us j, Cells w (ad.add j) us → Cells w' (ad.add j) us) : RdL w' sz enc v l := by
  obtain ⟨A, c, rfl, h1, h2, h3⟩ := h
  refine ⟨A, c, rfl, h1, h2, fun hl => ?_⟩
  obtain ⟨ad, rfl, hb, hc⟩ := h3 hl
  exact ⟨ad, rfl, by omega, fun i a hi => hk ad rfl hl _ _ (hc i a hi)⟩
theorem RdL.ext (h : RdL w sz enc v l) (hx : Ex w w') : RdL w' sz enc v l := by
  obtain ⟨A, c, rfl, h1, h2, h3⟩ := h
  refine ⟨A, c, rfl, h1, h2, fun hl => ?_⟩
  obtain ⟨ad, rfl, hb, hc⟩ := h3 hl
  exact ⟨ad, rfl, Nat.lt_of_lt_of_le hb hx.size, fun i a hi => (hc i a hi).ext hx (by rw [block_of_add]; exact hb)⟩
theorem RdL.nil_ (w : World) : RdL w sz enc (.slice none 0 0) [] := ⟨none, 0, rfl, Nat.le_refl _, by simp [maxLen], fun h => absurd h (by simp)⟩
theorem RdL.open_ (h : RdL w sz enc v l) (hl : 0 < l.length) : ∃ ad c, v = .slice (some ad) l.length c ∧ l.length ≤ c ∧ ad.block < w.heap.size ∧ ∀ i a, l[i]? = some a → Cells w (ad.add (i * sz)) (enc a) := by
  obtain ⟨A, c, rfl, h1, h2, h3⟩ := h
  obtain ⟨ad, rfl, hb, hc⟩ := h3 hl
  exact ⟨ad, c, rfl, h1, hb, hc⟩
theorem getElem?_flatMap_at (hsz : ∀ a, (enc a).length = sz) : ∀ (l : List α) (i : Nat) (a : α), l[i]? = some a → ∀ j u, (enc a)[j]? = some u → (l.flatMap enc)[i * sz + j]? = some u
  | [], i, a, h, _, _, _ => by simp at h
  | b :: l, 0, a, h, j, u, hu => by
    simp only [List.getElem?_cons_zero, Option.some.injEq] at h
    subst h
    have hj : j < (enc b).length := by
      rcases Nat.lt_or_ge j (enc b).length with h | h
      · exact h
      · simp [List.getElem?_eq_none h] at hu
    simp [List.flatMap_cons, List.getElem?_append_left hj, hu]
  | b :: l, i + 1, a, h, j, u, hu => by
    have ih := getElem?_flatMap_at hsz l i a (by simpa using h) j u hu
    rw [List.flatMap_cons, List.getElem?_append_right (by rw [hsz]; rw [Nat.add_mul]; omega)]
    rw [← ih, hsz]; congr 1; rw [Nat.add_mul]; omega
theorem length_flatMap_enc (hsz : ∀ a, (enc a).length = sz) : ∀ l : List α, (l.flatMap enc).length = l.length * sz
  | [] => by simp
  | a :: l => by rw [List.flatMap_cons, List.length_append, hsz, length_flatMap_enc hsz l, List.length_cons, Nat.add_mul]; omega
/-- A row of the call's own reads as the list that it was made of. -/
theorem RdL.of_own {B : Nat} {e : TypeId} (hsz : ∀ a, (enc a).length = sz) (h : w.ownsRow B e sz v l.length (l.flatMap enc)) : RdL w sz enc v l := by
  rcases h.2 with ⟨rfl, h0⟩ | ⟨g, cap, cur, rfl, _, hg, hn, hm, _, _⟩
  · have hl : l = [] := List.eq_nil_of_length_eq_zero h0
    subst hl; exact RdL.nil_ w
  · refine ⟨_, cap, rfl, hn, hm, fun _ => ⟨_, rfl, (Array.getElem?_eq_some_iff.1 hg).1, fun i a hi j u hu => ?_⟩⟩
    rw [add_of_add]
    exact h.cells (g := g) rfl _ u (getElem?_flatMap_at hsz l i a hi j u hu)
theorem RdL.of_blk {g : Nat} {t : TypeId} {cap : Nat} (hsz : ∀ a, (enc a).length = sz) (h : Blk w g t (l.flatMap enc)) (hc : l.length ≤ cap) (hm : cap ≤ maxLen) : RdL w sz enc (.slice (some ⟨g, 0, none⟩) l.length cap) l := by
  refine ⟨_, cap, rfl, hc, hm, fun _ => ⟨_, rfl, h.lt, fun i a hi j u hu => ?_⟩⟩
  rw [add_of_add]
  exact h.cells _ u (getElem?_flatMap_at hsz l i a hi j u hu)
end

/-- What the walk asks of the table of types. -/
def aggD : TypeDesc → Bool
  | .struct _ | .array _ _ => true
  | _ => false
def sizeP (P : Program) (T : TypeId) : Option Nat := (P.info? T).map (·.size)
/-- Where a struct's field lies. -/
def fldOff (P : Program) (T i : Nat) : Option Nat :=
  match P.underlying T with
  | some (.struct fs) => match fs[i]? with
    | some f => match sizeP P f.type with
      | some (_ + 1) => some f.offset
      | _ => none
    | none => none
  | _ => none

section
variable {P : Program} {ops : Array Oper} {Q : Exit → Act → World → Prop} {n : Nat} {l : List Oper} {o : Oper} {S : Slots} {w w' : World} {d : Nat}

theorem run_sizeOf {T k : Nat} (h : sizeP P T = some k) (w : World) : (sizeOf T).run P w = .ok k w := by
  unfold sizeP at h
  cases hi : P.info? T with
  | none => simp [hi] at h
  | some i => simp [hi] at h; subst h; simp [sizeOf, typeInfo, hi]

theorem Ev.fld {T i k : Nat} {x : Operand} {p : Addr} (ho : o.op = .fieldAddr T x i) (hx : ev S x = some (.pointer (some p))) (hf : fldOff P T i = some k) : Ev P n o S w (.pointer (some (p.add k))) := fun a ha => by
  simp only [execOp, ho]; rw [ha.eval hx]
  unfold fldOff at hf
  cases hu : P.underlying T with
  | none => simp [hu] at hf
  | some D =>
    cases D <;> simp [hu] at hf
    case struct fs =>
      cases hg : fs[i]? with
      | none => simp [hg] at hf
      | some f =>
        simp only [hg] at hf
        cases hs : sizeP P f.type with
        | none => simp [hs] at hf
        | some m =>
          cases m with
          | zero => simp [hs] at hf
          | succ m =>
            simp [hs] at hf
            subst hf
            simp [Instr.fieldAt, run_underlying hu, hg, Instr.sureAddr, fieldPlace, run_sizeOf hs]

theorem run_isAgg {T : Nat} {D : TypeDesc} (h : P.underlying T = some D) (w : World) : (isAgg T).run P w = .ok (aggD D) w := by
  cases D <;> simp [isAgg, run_underlying h, aggD]

/-- A load of one cell behind a pointer; of which cell: us[k]. -/
theorem Ev.ld {T : Nat} {D : TypeDesc} {x : Operand} {p : Addr} {v : Value} (ho : o.op = .load T x) (hx : ev S x = some (.pointer (some p))) (ht : P.underlying T = some D) (hD : aggD D = false) (hc : w.cell? p = some v) : Ev P n o S w v := fun a ha => by
  simp only [execOp, ho]; rw [ha.eval hx]
  simp [Instr.loadAt, Instr.sureAddr, loadVar, run_isAgg ht, hD, hc]
theorem Ev.ldAt {T k : Nat} {D : TypeDesc} {x : Operand} {p : Addr} {us : List Value} {v : Value} (ho : o.op = .load T x) (hx : ev S x = some (.pointer (some (p.add k)))) (ht : P.underlying T = some D) (hD : aggD D = false) (hc : Cells w p us) (hu : us[k]? = some v) : Ev P n o S w v :=
  Ev.ld ho hx ht hD (hc k v hu)
theorem Ev.ld0 {T : Nat} {D : TypeDesc} {x : Operand} {p : Addr} {us : List Value} {v : Value} (ho : o.op = .load T x) (hx : ev S x = some (.pointer (some p))) (ht : P.underlying T = some D) (hD : aggD D = false) (hc : Cells w p us) (hu : us[0]? = some v) : Ev P n o S w v :=
  Ev.ld ho hx ht hD (by have := hc 0 v hu; rwa [add_zero_] at this)
/-- A load of a whole struct or array. -/
theorem Ev.ldAgg {T k : Nat} {D : TypeDesc} {x : Operand} {p : Addr} {us : List Value} (ho : o.op = .load T x) (hx : ev S x = some (.pointer (some p))) (ht : P.underlying T = some D) (hD : aggD D = true) (hs : sizeP P T = some k) (hk : us.length = k) (hc : Cells w p us) : Ev P n o S w (.agg us.toArray) := fun a ha => by
  simp only [execOp, ho]; rw [ha.eval hx]
  have hl := run_loadCells_list (P := P) (w := w) p us hc
  rw [hk] at hl
  simp [Instr.loadAt, Instr.sureAddr, loadVar, run_isAgg ht, hD, run_sizeOf hs, hl]

theorem Ev.idx {T e sz m c : Nat} {x y : Operand} {k : IntKind} {ad : Addr} {i : Int} (ho : o.op = .indexAddr T x y) (hx : ev S x = some (.slice (some ad) m c)) (hy : ev S y = some (.int k i)) (ht : P.underlying T = some (.slice e)) (hs : sizeP P e = some sz) (h0 : 0 ≤ i) (h1 : i < m) : Ev P n o S w (.pointer (some (ad.add (i.toNat * sz)))) := fun a ha => by
  simp only [execOp, ho]; rw [ha.eval hx, ha.eval hy]
  simp [Instr.indexAt, asIntOf, run_underlying ht, run_sizeOf hs, h0, h1]
theorem Ev.idxN {T e sz m c : Nat} {x y : Operand} {k : IntKind} {ad : Addr} {i : Nat} (ho : o.op = .indexAddr T x y) (hx : ev S x = some (.slice (some ad) m c)) (hy : ev S y = some (.int k i)) (ht : P.underlying T = some (.slice e)) (hs : sizeP P e = some sz) (h1 : i < m) : Ev P n o S w (.pointer (some (ad.add (i * sz)))) :=
  Ev.idx (i := (i : Int)) ho hx hy ht hs (by omega) (by omega)
/-- An array's element's address. -/
theorem Ev.idxA {T e sz m : Nat} {x y : Operand} {k : IntKind} {ad : Addr} {i : Nat} (ho : o.op = .indexAddr T x y) (hx : ev S x = some (.pointer (some ad))) (hy : ev S y = some (.int k i)) (ht : P.underlying T = some (.array m e)) (hs : sizeP P e = some sz) (h1 : i < m) : Ev P n o S w (.pointer (some (ad.add (i * sz)))) := fun a ha => by
  simp only [execOp, ho]; rw [ha.eval hx, ha.eval hy]
  simp [Instr.indexAt, Instr.sureAddr, asIntOf, run_underlying ht, run_sizeOf hs, h1]

/-- An element's address in a slice that reads as a list. -/
theorem RG.idxL {α : Type} {T e sz : Nat} {enc : α → List Value} {v : Value} {xs : List α} {x y : Operand} {k : IntKind} {i : Nat} {u : α} (hw : wantS ops S o = some true) (hd : o.dst = some d) (hdn : Nat.blt d n = true)
    (ho : o.op = .indexAddr T x y) (hx : ev S x = some v) (hy : ev S y = some (.int k i)) (ht : P.underlying T = some (.slice e)) (hs : sizeP P e = some sz) (hr : RdL w sz enc v xs) (hi : xs[i]? = some u)
    (kk : ∀ p : Addr, p.block < w.heap.size → Cells w p (enc u) → RG P ops Q n l ((d, .pointer (some p)) :: S) w) : RG P ops Q n (o :: l) S w := by
  have hlt : i < xs.length := (List.getElem?_eq_some_iff.1 hi).1
  obtain ⟨ad, c, rfl, hc, hb, hcs⟩ := hr.open_ (by omega)
  exact RG.vl hw hd hdn (Ev.idxN ho hx hy ht hs hlt) (kk _ (by rw [block_of_add]; exact hb) (hcs i u hi))

theorem Ev.lenL {w1 : World} {α : Type} {T e sz : Nat} {enc : α → List Value} {v : Value} {xs : List α} {x : Operand} {c : Call} (ho : o.op = .call c) (hc : c = { callee := .builtin .len, args := #[x], argTypes := #[T] }) (hx : ev S x = some v) (ht : P.underlying T = some (.slice e)) (hr : RdL w1 sz enc v xs) : Ev P n o S w (.int .i64 xs.length) := by
  obtain ⟨A, c', rfl, _⟩ := hr
  exact Ev.lenSlice ho hc hx ht

/-- A new block. -/
theorem new_blk (w : World) (t : TypeId) (cs : Array Value) : Blk (w.alloc (.cells cs t)) w.heap.size t cs.toList := by
  unfold Blk; simpa using heap_alloc_new w (.cells cs t)

theorem RG.box {T : Nat} {x : Operand} {v : Value} (hw : wantS ops S o = some true) (hd : o.dst = some d) (hdn : Nat.blt d n = true) (ho : o.op = .box T x) (hx : ev S x = some v)
    (kk : ∀ g w', g = w.heap.size → Ex w w' → Blk w' g T v.cells.toList → RG P ops Q n l ((d, .pointer (some ⟨g, 0, none⟩)) :: S) w') : RG P ops Q n (o :: l) S w := by
  refine RG.run (w' := w.alloc (.cells v.cells T)) hw hd hdn (fun a ha => ?_) (kk w.heap.size _ rfl (Ex.of_alloc w _) (new_blk w T _))
  simp only [execOp, ho]; rw [ha.eval hx]
  simp [Instr.box, newVar, newRow]

/-- A local variable's block, made and filled at once. -/
theorem storeVar_blk {g T k : Nat} {cs us : List Value} (hg : w.heap[g]? = some (.cells cs.toArray T (0, 0))) (v : Value) (hv : v.cells.toList = us) (hs : sizeP P T = some k) (hl : us.length = k) (hcs : cs.length = k) (h1 : us.all (·.oneCell') = true) :
    (storeVar T ⟨g, 0, none⟩ v).run P w = .ok () (w.setRow g us.toArray) := by
  have hst := run_storeCells_at P g 0 T us 0 cs.toArray w hg (by simp; omega) (fun u hu => (List.all_eq_true.1 h1) u hu)
  have hsz : v.cells.size = k := by rw [← Array.length_toList, hv, hl]
  simp [storeVar, run_sizeOf hs, hsz, hv, hst, hl]
  rw [List.drop_eq_nil_of_le (by omega), List.append_nil]

theorem wr_setRow (w : World) (g : Nat) (cs : Array Value) : Wr w (w.setRow g cs) g := ⟨rfl, rfl, rfl, by simp [World.setRow], fun k hk => setRow_other w g k cs hk⟩
theorem blk_setRow {g : Nat} {t : TypeId} {cs us : List Value} (h : Blk w g t cs) : Blk (w.setRow g us.toArray) g t us := setRow_heap w g cs.toArray us.toArray t (0, 0) h

theorem RG.local_ {T k : Nat} {x : Operand} {v z : Value} {by_ : Nat} {o' : Oper} (hw : wantS ops S o = some true) (hd : o.dst = some d) (hdn : Nat.blt d n = true) (ho : o.op = .alloc T)
    (hw' : ∀ u, wantS ops ((d, u) :: S) o' = some true) (hd' : o'.dst = none) (ho' : o'.op = .store T (.tmp d) x) (hx : ∀ u, ev ((d, u) :: S) x = some v)
    (hi : (P.info? T).map (fun i => (i.zero, i.size, i.bytes)) = some (some z, k, by_)) (hz : z.cells.size = k) (hv : v.cells.size = k) (h1 : v.cells.toList.all (·.oneCell') = true)
    (kk : ∀ g w', g = w.heap.size → Ex w w' → Blk w' g T v.cells.toList → RG P ops Q n l ((d, .pointer (some ⟨g, 0, none⟩)) :: S) w') : RG P ops Q n (o :: o' :: l) S w := by
  obtain ⟨i, hii, hz0, hz1, hz2⟩ := info_parts hi
  have hs : sizeP P T = some k := by simp [sizeP, hii, hz1]
  refine RG.run (v := .pointer (some ⟨w.heap.size, 0, none⟩)) (w' := w.alloc (.cells z.cells T)) hw hd hdn (fun a ha => ?_) ?_
  · simp only [execOp, ho]
    simp [Instr.alloc, zeroValue, typeInfo, hii, hz0, newVar, newRow]
  · have hb := new_blk w T z.cells
    refine RG.run0 (w' := (w.alloc (.cells z.cells T)).setRow w.heap.size v.cells.toList.toArray) (hw' _) hd' (fun a ha => ?_) (kk w.heap.size _ rfl ?_ (blk_setRow hb))
    · simp only [execOp, ho']
      rw [ha.eval (hx _), ha.eval (x := .tmp d) (v := .pointer (some ⟨w.heap.size, 0, none⟩)) (by simp [ev, lk])]
      simp [Instr.storeAt, Instr.sureAddr, storeVar_blk hb v rfl hs (by simpa using hv) (by simpa using hz) h1]
    · exact (wr_setRow _ _ _).below (Ex.of_alloc w _) (Nat.le_refl _)

/-- A store of one cell into a block of the call's own. -/
theorem RG.st {T g k : Nat} {t : TypeId} {x y : Operand} {v : Value} {cs : List Value} (hw : wantS ops S o = some true) (hd : o.dst = none) (ho : o.op = .store T x y) (hx : ev S x = some (.pointer (some ((⟨g, 0, none⟩ : Addr).add k)))) (hy : ev S y = some v)
    (hs : sizeP P T = some 1) (h1 : v.oneCell' = true) (hb : Blk w g t cs) (hk' : Nat.blt k cs.length = true)
    (kk : ∀ w', Wr w w' g → Blk w' g t (cs.set k v) → RG P ops Q n l S w') : RG P ops Q n (o :: l) S w := by
  have hvc : v.cells = #[v] := by cases v <;> first | rfl | simp [Value.oneCell'] at h1
  have hk : k < cs.length := by simpa [Nat.blt_eq] using hk'
  have hst := run_storeCells_at P g k t [v] 0 cs.toArray w hb (by simp; omega) (fun u hu => by simp at hu; subst hu; exact h1)
  refine RG.run0 (w' := w.setRow g (cs.set k v).toArray) hw hd (fun a ha => ?_) (kk _ (wr_setRow _ _ _) (blk_setRow hb))
  simp only [execOp, ho]; rw [ha.eval hx, ha.eval hy]
  rw [add_at]
  simp [Instr.storeAt, Instr.sureAddr, storeVar, run_sizeOf hs, hvc, hst]
  congr 2
  rw [List.set_eq_take_append_cons_drop, if_pos hk]

theorem cells_one {v : Value} (h : v.oneCell' = true) : v.cells = #[v] := by cases v <;> first | rfl | simp [Value.oneCell'] at h

/-- A slice literal whose places are all written. -/
theorem set_seg : ∀ (cs : List Value) (A : Array Value) (off : Nat), off + cs.length ≤ A.size → ∀ i, (((cs.zipIdx i).foldl (fun (B : Array Value) x => B.setIfInBounds (off + x.2 - i) x.1) A).toList = A.toList.take off ++ cs ++ A.toList.drop (off + cs.length))
  | [], A, off, _, i => by simp
  | c :: cs, A, off, h, i => by
    rw [List.zipIdx_cons, List.foldl_cons]
    have ih := set_seg cs (A.setIfInBounds (off + i - i) c) (off + 1) (by simp at h ⊢; omega) (i + 1)
    have e : (fun (B : Array Value) (x : Value × Nat) => B.setIfInBounds (off + 1 + x.2 - (i + 1)) x.1) = fun B x => B.setIfInBounds (off + x.2 - i) x.1 := by
      funext B x; congr 1; omega
    rw [e] at ih
    rw [ih]
    simp only [Array.toList_setIfInBounds, List.length_cons, Nat.add_sub_cancel]
    have hlt : off < A.toList.length := by simp at h ⊢; omega
    rw [List.take_set, List.drop_set, if_pos (by omega), List.set_eq_take_append_cons_drop, if_pos (by simp at hlt ⊢; omega)]
    simp [List.take_take, Nat.add_assoc, Nat.add_comm 1, List.append_assoc]
theorem fill_dense (sz : Nat) : ∀ (vs : List Value) (k : Nat) (A : Array Value), (∀ v ∈ vs, v.cells.size = sz) → (k + vs.length) * sz = A.size →
    Instr.fill (fun i => some (i * sz, sz)) A ((vs.zipIdx k).map fun x => (x.2, x.1)) = some (A.toList.take (k * sz) ++ vs.flatMap (fun v => v.cells.toList)).toArray
  | [], k, A, _, hA => by
    simp only [List.zipIdx_nil, List.map_nil, Instr.fill, List.flatMap_nil, List.append_nil]
    rw [List.take_of_length_le (by simp at hA ⊢; omega)]
  | v :: vs, k, A, hv, hA => by
    have hs := hv v (by simp)
    simp only [List.zipIdx_cons, List.map_cons, Instr.fill]
    have hfit : k * sz + sz ≤ A.size := by
      rw [← hA, List.length_cons]
      calc k * sz + sz = (k + 1) * sz := by rw [Nat.add_mul]; omega
        _ ≤ _ := Nat.mul_le_mul_right _ (by omega)
    rw [if_neg (by simp [hs]; omega)]
    have hz : (v.cells.zipIdx.foldl (fun cs (x : Value × Nat) => cs.setIfInBounds (k * sz + x.2) x.1) A) = (A.toList.take (k * sz) ++ v.cells.toList ++ A.toList.drop (k * sz + sz)).toArray := by
      apply Array.toList_inj.1
      rw [← Array.foldl_toList, Array.toList_zipIdx]
      have := set_seg v.cells.toList A (k * sz) (by simp [hs]; omega) 0
      simpa [hs] using this
    have ih := fill_dense sz vs (k + 1) (A.toList.take (k * sz) ++ v.cells.toList ++ A.toList.drop (k * sz + sz)).toArray (fun u hu => hv u (by simp [hu])) (by
      simp [hs] at hA ⊢
      rw [Nat.min_eq_left (by omega)]
      have : (k + 1 + vs.length) * sz = A.size := by rw [← hA]; congr 1; omega
      omega)
    have hz' : (v.cells.zipIdx.foldl (fun cs x => match x with | (c, j) => cs.setIfInBounds (k * sz + j) c) A) = (A.toList.take (k * sz) ++ v.cells.toList ++ A.toList.drop (k * sz + sz)).toArray := hz
    rw [hz', ih]
    congr 2
    have e : (k + 1) * sz = (A.toList.take (k * sz) ++ v.cells.toList).length := by simp [hs]; rw [Nat.min_eq_left (by omega), Nat.add_mul]; omega
    rw [e]
    simp [List.take_append, List.take_of_length_le, hs]
theorem RG.buildD {T e len sz by_ : Nat} {z : Value} {xs : List Operand} {vs : List Value} {parts : Array (Nat × Operand)} (hw : wantS ops S o = some true) (hd : o.dst = some d) (hdn : Nat.blt d n = true) (ho : o.op = .buildSlice T len parts)
    (hp : parts = (xs.zipIdx.map fun x => (x.2, x.1)).toArray) (hx : evs S xs = some vs) (hlen : vs.length = len) (ht : P.underlying T = some (.slice e)) (hi : (P.info? e).map (fun i => (i.zero, i.size, i.bytes)) = some (some z, sz, by_)) (hz : z.cells.size = sz)
    (hsm : Nat.ble (len * sz) 16777216 = true) (hpos : Nat.beq (len * sz) 0 = false) (hv : vs.all (fun v => Nat.beq v.cells.size sz) = true)
    (kk : ∀ g w', g = w.heap.size → Ex w w' → Blk w' g e (vs.flatMap fun v => v.cells.toList) → RG P ops Q n l ((d, .slice (some ⟨g, 0, none⟩) len len) :: S) w') : RG P ops Q n (o :: l) S w := by
  obtain ⟨i, hii, hz0, hz1, hz2⟩ := info_parts hi
  subst hz1
  have h1 : ¬ len * i.size > 2 ^ 24 := by have := Nat.le_of_ble_eq_true hsm; omega
  have h2 : ¬ len * i.size = 0 := Nat.ne_of_beq_eq_false hpos
  have hall : ∀ v ∈ vs, v.cells.size = i.size := fun v hv' => Nat.eq_of_beq_eq_true ((List.all_eq_true.1 hv) v hv')
  have hf := fill_dense i.size vs 0 ((Array.range (len * i.size)).map (z.cells[· % z.cells.size]!)) hall (by simp [hlen])
  simp only [Nat.zero_mul, List.take_zero, List.nil_append] at hf
  refine RG.run (w' := w.alloc (.cells (vs.flatMap fun v => v.cells.toList).toArray e)) hw hd hdn (fun a ha => ?_) (kk w.heap.size _ rfl (Ex.of_alloc w _) (by simpa using new_blk w e (vs.flatMap fun v => v.cells.toList).toArray))
  simp only [execOp, ho]
  have hpe : (parts.map fun (i, x) => (i, a.eval x)).toList = (vs.zipIdx 0).map fun x => (x.2, x.1) := by
    subst hp
    rw [← ha.evals hx]
    simp only [List.map_toArray, List.zipIdx_map, List.map_map]
    rfl
  have := run_buildSlice (P := P) w T e len (parts.map fun (i, x) => (i, a.eval x)) _ i z ht hii hz0 h1 h2 (by rw [hpe]; exact hf)
  simp only [Sem.run_bind, this, Result.andThen_ok]
  rfl

/-- A struct literal: fields of one cell each. -/
def onesP (P : Program) (T k : Nat) : Bool := match P.underlying T with
  | some (.struct fs) => decide (fs.toList.map (fun f => (f.offset, sizeP P f.type)) = (List.range k).map (fun i => (i, some 1)))
  | _ => false
def evp (S : Slots) : List (Nat × Operand) → Option (List (Nat × Value))
  | [] => some []
  | x :: l => match ev S x.2 with
    | some v => match evp S l with
      | some r => some ((x.1, v) :: r)
      | none => none
    | none => none
theorem Fr.evps {n : Nat} {S : Slots} {a : Act} (h : Fr n S a) : ∀ {l : List (Nat × Operand)} {vs : List (Nat × Value)}, evp S l = some vs → l.map (fun x => (x.1, a.eval x.2)) = vs
  | [], _, e => by simpa [evp] using e
  | x :: l, vs, e => by
    unfold evp at e
    cases hx : ev S x.2 with
    | none => rw [hx] at e; simp at e
    | some v =>
      rw [hx] at e
      cases hl : evp S l with
      | none => rw [hl] at e; simp at e
      | some r =>
        rw [hl] at e
        simp only [Option.some.injEq] at e
        subst e
        rw [List.map_cons, h.eval hx, h.evps hl]
theorem fill_ones (places : List (Nat × Nat)) (k : Nat) (hp : places = (List.range k).map (fun i => (i, 1))) : ∀ (ps : List (Nat × Value)) (zs : List Value), zs.length = k → ps.all (fun p => Nat.blt p.1 k && p.2.oneCell') = true →
    Instr.fill (places.toArray[·]?) zs.toArray ps = some (ps.foldl (fun cs p => cs.set p.1 p.2) zs).toArray
  | [], zs, _, _ => rfl
  | p :: ps, zs, hz, h => by
    simp only [List.all_cons, Bool.and_eq_true, Nat.blt_eq] at h
    obtain ⟨⟨h1, h2⟩, h3⟩ := h
    have hc := cells_one h2
    have hpl : places.toArray[p.1]? = some (p.1, 1) := by subst hp; simp [h1]
    simp only [Instr.fill, hpl, hc]
    rw [if_neg (by simp; omega)]
    have e : (#[p.2].zipIdx.foldl (fun cs x => match x with | (c, j) => cs.setIfInBounds (p.1 + j) c) zs.toArray) = (zs.set p.1 p.2).toArray := by simp
    rw [e]
    exact fill_ones places k hp ps (zs.set p.1 p.2) (by simpa using hz) h3
theorem run_places_ones {fs : List Field} {k : Nat} (h : fs.map (fun f => (f.offset, sizeP P f.type)) = (List.range k).map (fun i => (i, some 1))) (w : World) : ∃ places : List (Nat × Nat), places = (List.range k).map (fun i => (i, 1)) ∧ (fs.mapM fun f => Functor.map (Prod.mk f.offset) (sizeOf f.type)).run P w = .ok places w := by
  have key : ∀ (fs : List Field) (l : List Nat), fs.map (fun f => (f.offset, sizeP P f.type)) = l.map (fun i => (i, some 1)) → (fs.mapM fun f => Functor.map (Prod.mk f.offset) (sizeOf f.type)).run P w = .ok (l.map fun i => (i, 1)) w := by
    intro fs
    induction fs with
    | nil => intro l hl; cases l with
      | nil => simp
      | cons => simp at hl
    | cons f fs ih =>
      intro l hl
      cases l with
      | nil => simp at hl
      | cons i l =>
        simp only [List.map_cons, List.cons.injEq, Prod.mk.injEq] at hl
        obtain ⟨⟨h1, h2⟩, h3⟩ := hl
        simp [List.mapM_cons, run_sizeOf h2, ih l h3, h1]
  exact ⟨_, rfl, key fs _ h⟩
theorem Ev.build1 {T k by_ : Nat} {z : Value} {parts : Array (Nat × Operand)} {ps : List (Nat × Operand)} {vs : List (Nat × Value)} {zs : List Value} (ho : o.op = .build T parts) (hp : parts = ps.toArray) (hx : evp S ps = some vs)
    (hi : (P.info? T).map (fun i => (i.zero, i.size, i.bytes)) = some (some z, k, by_)) (hz : z.cells = zs.toArray) (hk : zs.length = k) (h1 : onesP P T k = true) (ha1 : vs.all (fun p => Nat.blt p.1 k && p.2.oneCell') = true) : Ev P n o S w (.agg (vs.foldl (fun cs p => cs.set p.1 p.2) zs).toArray) := fun a ha => by
  obtain ⟨i, hii, hz0, hz1, hz2⟩ := info_parts hi
  unfold onesP at h1
  cases hu : P.underlying T with
  | none => simp [hu] at h1
  | some D =>
    cases D <;> simp only [hu, Bool.false_eq_true] at h1
    case struct fs =>
      have h1' := of_decide_eq_true h1
      obtain ⟨places, hpl, hrun⟩ := run_places_ones h1' w
      have hf := fill_ones places k hpl vs zs hk ha1
      simp only [List.getElem?_toArray] at hf
      have hpe : parts.toList.map (fun x => (x.1, a.eval x.2)) = vs := by
        subst hp; simpa using ha.evps hx
      simp only [execOp, ho]
      have hmap : (fs.mapM fun (f : Field) => Functor.map (Prod.mk f.offset) (sizeOf f.type)).run P w = .ok places.toArray w := by
        rw [Array.mapM_eq_mapM_toList, Sem.run_map, hrun]; rfl
      simp [Instr.build, run_underlying hu, zeroValue, typeInfo, hii, hz0, hz, hmap, hpe, hf]

theorem RG.buildS {T e len sz by_ : Nat} {z : Value} {parts : Array (Nat × Operand)} {vs : List (Nat × Value)} {cs : List Value} (hw : wantS ops S o = some true) (hd : o.dst = some d) (hdn : Nat.blt d n = true) (ho : o.op = .buildSlice T len parts)
    (hp : ∀ a, Fr n S a → (parts.map fun (i, x) => (i, a.eval x)).toList = vs) (ht : P.underlying T = some (.slice e)) (hi : (P.info? e).map (fun i => (i.zero, i.size, i.bytes)) = some (some z, sz, by_))
    (hsm : Nat.ble (len * sz) 16777216 = true) (hpos : Nat.beq (len * sz) 0 = false)
    (hf : Instr.fill (fun i => some (i * sz, sz)) ((Array.range (len * sz)).map (z.cells[· % z.cells.size]!)) vs = some cs.toArray)
    (kk : ∀ g w', g = w.heap.size → Ex w w' → Blk w' g e cs → RG P ops Q n l ((d, .slice (some ⟨g, 0, none⟩) len len) :: S) w') : RG P ops Q n (o :: l) S w := by
  obtain ⟨i, hii, hz0, hz1, hz2⟩ := info_parts hi
  subst hz1
  have h1 : ¬ len * i.size > 2 ^ 24 := by have := Nat.le_of_ble_eq_true hsm; omega
  have h2 : ¬ len * i.size = 0 := Nat.ne_of_beq_eq_false hpos
  refine RG.run (w' := w.alloc (.cells cs.toArray e)) hw hd hdn (fun a ha => ?_) (kk w.heap.size _ rfl (Ex.of_alloc w _) (new_blk w e cs.toArray))
  simp only [execOp, ho]
  have := run_buildSlice (P := P) w T e len (parts.map fun (i, x) => (i, a.eval x)) cs.toArray i z ht hii hz0 h1 h2 (by rw [hp a ha]; exact hf)
  simp only [Sem.run_bind, this, Result.andThen_ok]
  rfl

/-- append onto a row of the call's own; the source reads as a list of cells. -/
theorem run_append_nothing (base : Nat) (t ty e : TypeId) (i : TypeInfo) (size : Nat) (ht : P.underlying t = some (.slice e)) (hi : P.info? e = some i)
    (v : Value) (m : Nat) (xs : List Value) (hown : w.ownsRow base e size v m xs) (c : Nat) : (Builtin.append_ #[t, t] ty #[v, .slice none 0 c]).run P w = .ok v w := by
  rcases hown.2 with ⟨rfl, rfl⟩ | ⟨g, cap, cur, rfl, _, _, hnc, _⟩
  · simp [Builtin.append_, run_underlying ht, sizeOf, typeInfo, hi, Builtin.lenOf, Builtin.firstCells]
  · simp [Builtin.append_, run_underlying ht, sizeOf, typeInfo, hi, Builtin.lenOf, Builtin.firstCells, hnc, storeCells]
theorem RG.app {T e sz by_ base m k cp : Nat} {z v : Value} {x y : Operand} {c : Call} {xs us : List Value} {A : Option Addr} (hw : wantS ops S o = some true) (hd : o.dst = some d) (hdn : Nat.blt d n = true) (ho : o.op = .call c) (hc : c = { callee := .builtin .append, args := #[x, y], argTypes := #[T, T] })
    (hx : ev S x = some v) (hy : ev S y = some (.slice A k cp)) (ht : P.underlying T = some (.slice e)) (hi : (P.info? e).map (fun i => (i.zero, i.size, i.bytes)) = some (some z, sz, by_)) (hz : z.cells.size = sz) (hsz : Nat.blt 0 sz = true)
    (hown : w.ownsRow base e sz v m xs) (hl : us.length = k * sz) (hu : 0 < k → ∃ ad, A = some ad ∧ Cells w ad us) (h1' : us.all (·.oneCell') = true) (hlen : m + k ≤ maxLen) (hby : (m + k) * by_ ≤ 140737488355328) (hbase : base ≤ w.heap.size)
    (kk : ∀ v' w', w'.ownsRow base e sz v' (m + k) (xs ++ us) → w.grownBy w' v.ownBlock → (v'.ownBlock = v.ownBlock ∨ v'.ownBlock = some w.heap.size) → RG P ops Q n l ((d, v') :: S) w') : RG P ops Q n (o :: l) S w := by
  obtain ⟨i, hii, hz0, hz1, hz2⟩ := info_parts hi
  have hsz' : 0 < sz := by simpa [Nat.blt_eq] using hsz
  have h1 : ∀ u ∈ us, u.oneCell' = true := fun u hu => (List.all_eq_true.1 h1') u hu
  rcases Nat.eq_zero_or_pos k with hk | hk
  · subst hk
    have hus : us = [] := List.eq_nil_of_length_eq_zero (by simpa using hl)
    subst hus
    cases A with
    | none =>
      refine RG.run (v := v) (w' := w) hw hd hdn (fun a ha => ?_) (kk v w (by simpa using hown) (World.grownBy.refl w _) (.inl rfl))
      simp only [execOp, ho, hc]
      simp [resolve, invoke, builtin, ha.eval hx, ha.eval hy, run_append_nothing (P := P) base T o.type e i sz ht hii v m xs hown cp]
    | some ad =>
      obtain ⟨v', w', hrun, h2, h3, _, h5⟩ := run_append_own_at (P := P) w base T o.type e i z sz by_ ht hii hz0 hz1 hz2 hz hsz' v m xs hown ad 0 cp [] (by simp) (by simp) (by simp) hlen hby hbase
      refine RG.run (v := v') (w' := w') hw hd hdn (fun a ha => ?_) (kk v' w' h2 h3 h5)
      simp only [execOp, ho, hc]
      simp [resolve, invoke, builtin, ha.eval hx, ha.eval hy, hrun]
  · obtain ⟨ad, rfl, hcs⟩ := hu hk
    obtain ⟨v', w', hrun, h2, h3, _, h5⟩ := run_append_own_at (P := P) w base T o.type e i z sz by_ ht hii hz0 hz1 hz2 hz hsz' v m xs hown ad k cp us hl hcs h1 hlen hby hbase
    refine RG.run (v := v') (w' := w') hw hd hdn (fun a ha => ?_) (kk v' w' h2 h3 h5)
    simp only [execOp, ho, hc]
    simp [resolve, invoke, builtin, ha.eval hx, ha.eval hy, hrun]

theorem own_ext {base : Nat} {e : TypeId} {sz m : Nat} {v : Value} {xs : List Value} (h : w.ownsRow base e sz v m xs) (hx : Ex w w') : w'.ownsRow base e sz v m xs :=
  h.kept (row := none) ⟨hx.os, hx.tape, hx.output, hx.size, fun k hk _ => hx.block k hk⟩ (by cases v.ownBlock <;> simp)
theorem own_block {base : Nat} {e : TypeId} {sz m : Nat} {v : Value} {xs : List Value} (h : w.ownsRow base e sz v m xs) {B : Nat} {a : World} (hb : Below B a w) (hg : w.grownBy w' v.ownBlock) (hB : B ≤ base) (hs : base ≤ w.heap.size) : Below B a w' :=
  hb.grown hg (by omega) (fun k hk => by have := (h.lt k hk).1; omega)
theorem own_nil (w : World) (base : Nat) (e : TypeId) (sz : Nat) : w.ownsRow base e sz (.slice none 0 0) 0 [] := World.ownsRow_nil w base e sz

theorem RG.call {f : FuncId} {c : Call} {xs : List Operand} {fx : Operand} {vs cap : List Value} {tys : Array TypeId} {Φ : Value → World → Prop} (hw : wantS ops S o = some true) (hd : o.dst = some d) (hdn : Nat.blt d n = true)
    (ho : o.op = .call c) (hc : c = { callee := .value fx, args := xs.toArray, argTypes := tys }) (hf : ev S fx = some (.func (.func f) #[] cap.toArray)) (hx : evs S xs = some vs)
    (he : ∀ args w, (callFunc f args).run P w = .ok (.enter f args) w) (hr : Ret P f (vs ++ cap) w Φ)
    (kk : ∀ v w', Φ v w' → RG P ops Q n l ((d, v) :: S) w') : RG P ops Q n (o :: l) S w := by
  intro a ha
  unfold wpList
  rw [if_pos (ha.wanted hw)]
  refine .inl ?_
  have hrun : (execOp a.eval o).run P w = .ok (.enter f (vs ++ cap).toArray) w := by
    simp only [execOp, ho, hc]
    simp only [resolve, Sem.run_bind]
    rw [ha.eval hf]
    have hm : xs.toArray.map a.eval = vs.toArray := by rw [List.map_toArray, ha.evals hx]
    rw [hm]
    simp [Deferred.ofValue, invoke, he]
  unfold Oper.wp
  rw [hrun]
  simp only [Oper.upon]
  refine Calls.mono hr ?_
  rintro e w' ⟨v, rfl, hp⟩
  show wpList P ops Q l (a.put o.dst v) w'
  rw [hd]
  exact kk v w' hp _ (ha.put hdn)
end
end Go.Proofs.YtnhkhpnkhkagaaaDoor
