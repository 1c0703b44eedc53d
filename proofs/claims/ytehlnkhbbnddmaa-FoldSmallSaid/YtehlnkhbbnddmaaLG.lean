/- Arrays built, indexed; slices of slices; append of what reads as a list. -/
import Derived.Test.YtehlnkhbbnddmaaLF
namespace Go.Proofs.Ytehlnkhbbnddmaa
open Go.RowKit

section
variable {P : Program} {ops : Array Oper} {Q : Exit → Act → World → Prop} {n : Nat} {l : List Oper} {S : Slots} {w w' : World} {o : Oper} {d g : Nat}
/-- An array literal that names every place. -/
theorem Ev.buildA {T e len sz sz' by_ : Nat} {z : Value} {xs : List Operand} {vs : List Value} {parts : Array (Nat × Operand)} (ho : o.op = .build T parts) (hp : parts = (xs.zipIdx.map fun x => (x.2, x.1)).toArray) (hx : evs S xs = some vs) (hlen : vs.length = len)
    (ht : P.underlying T = some (.array len e)) (hs : sizeP P e = some sz) (hi : (P.info? T).map (fun i => (i.zero, i.size, i.bytes)) = some (some z, sz', by_)) (hz : z.cells.size = len * sz) (hv : vs.all (fun v => Nat.beq v.cells.size sz) = true) :
    Ev P n o S w (.agg (vs.flatMap fun v => v.cells.toList).toArray) := fun a ha => by
  obtain ⟨i, hii, hz0, hz1, hz2⟩ := info_parts hi
  have hall : ∀ v ∈ vs, v.cells.size = sz := fun v hv' => Nat.eq_of_beq_eq_true ((List.all_eq_true.1 hv) v hv')
  have hf := fill_dense sz vs 0 z.cells hall (by simp [hlen, hz])
  simp only [Nat.zero_mul, List.take_zero, List.nil_append] at hf
  have hpe : (parts.map fun (i, x) => (i, a.eval x)).toList = (vs.zipIdx 0).map fun x => (x.2, x.1) := by
    subst hp
    rw [← ha.evals hx]
    simp only [List.map_toArray, List.zipIdx_map, List.map_map]
    rfl
  simp only [execOp, ho, Instr.build, Sem.run_bind, zeroValue, typeInfo, run_underlying ht]
  rw [hpe]
  simp [hii, hz0, run_sizeOf hs, hf]
/-- An element of one cell of an array's value. -/
theorem Ev.idxArr {T e len : Nat} {D : TypeDesc} {x y : Operand} {cs : List Value} {k : IntKind} {i : Nat} {v : Value} (ho : o.op = .index T x y) (hx : ev S x = some (.agg cs.toArray)) (hy : ev S y = some (.int k i)) (ht : P.underlying T = some (.array len e)) (hE : P.underlying e = some D) (hD : aggD D = false)
    (hs : sizeP P e = some 1) (h1 : i < len) (hv : cs[i]? = some v) : Ev P n o S w v := fun a ha => by
  simp only [execOp, ho]; rw [ha.eval hx, ha.eval hy]
  have hlt : i < cs.length := (List.getElem?_eq_some_iff.1 hv).1
  have hg : cs[i] = v := (List.getElem?_eq_some_iff.1 hv).2
  simp [Instr.index, asIntOf, run_underlying ht, run_sizeOf hs, h1, part, run_isAgg hE, hD, hlt, hg]
/-- A load behind two steps. -/
theorem Ev.ldAA {T j k : Nat} {D : TypeDesc} {x : Operand} {p : Addr} {us : List Value} {v : Value} (ho : o.op = .load T x) (hx : ev S x = some (.pointer (some ((p.add j).add k)))) (ht : P.underlying T = some D) (hD : aggD D = false) (hc : Cells w p us) (hu : us[j + k]? = some v) : Ev P n o S w v :=
  Ev.ldAt ho (by rw [← add_of_add]; exact hx) ht hD hc hu

/-- x[lo:hi] of what reads as a list. -/
def bnd (S : Slots) (x : Option Operand) (L : Nat) (dflt : Nat) : Prop := (x = none ∧ L = dflt) ∨ ∃ y k i, x = some y ∧ ev S y = some (.int k i) ∧ i = (L : Int)
theorem slice_ev {α : Type} {T e sz L H : Nat} {enc : α → List Value} {v : Value} {xs : List α} {x : Operand} {lo hi : Option Operand} (w0 : World) (ho : o.op = .slice T x lo hi none) (hx : ev S x = some v)
    (ht : P.underlying T = some (.slice e)) (hs : sizeP P e = some sz) (hr : RdL w0 sz enc v xs) (hl : bnd S lo L 0) (hh : bnd S hi H xs.length) (h1 : L ≤ H) (h2 : H ≤ xs.length) :
    ∃ v', (∀ w, Ev P n o S w v') ∧ RdL w0 sz enc v' ((xs.take H).drop L) := by
  obtain ⟨A, c, rfl, hc1, hc2, hc3⟩ := hr
  have hlen : ((xs.take H).drop L).length = H - L := by rw [List.length_drop, List.length_take, Nat.min_eq_left h2]
  refine ⟨.slice (if c = L then A else A.map (·.add (L * sz))) (H - L) (c - L), fun w a ha => ?_, ?_⟩
  · have key : (Instr.sliceBounds true xs.length c (lo.map a.eval) (hi.map a.eval) none).run P w = .ok (L, H, c) w := by
      rcases hl with ⟨rfl, rfl⟩ | ⟨yl, kl, il, rfl, hyl, rfl⟩ <;> rcases hh with ⟨rfl, rfl⟩ | ⟨yh, kh, ih, rfl, hyh, rfl⟩
      · simp [Instr.sliceBounds]
      · simp [Instr.sliceBounds, Instr.sliceBound, asIntOf, ha.eval hyh, show H ≤ c by omega]
      · simp [Instr.sliceBounds, Instr.sliceBound, asIntOf, ha.eval hyl, h1]
      · simp [Instr.sliceBounds, Instr.sliceBound, asIntOf, ha.eval hyl, ha.eval hyh, h1, show H ≤ c by omega]
    simp only [execOp, ho]; rw [ha.eval hx]
    simp only [Instr.sliceAt, Instr.slice, Option.map_none, Sem.run_bind, run_underlying ht, Result.andThen, key, run_sizeOf hs, Sem.run_pure]
  · refine ⟨_, c - L, by rw [hlen], by rw [hlen]; omega, by omega, fun hpos => ?_⟩
    rw [hlen] at hpos
    obtain ⟨ad, rfl, hbk, hcs⟩ := hc3 (by omega)
    rw [if_neg (by omega)]
    refine ⟨ad.add (L * sz), rfl, by rw [block_of_add]; exact hbk, fun i a hi => ?_⟩
    rw [List.getElem?_drop, List.getElem?_take] at hi
    split at hi
    · have := hcs _ _ hi
      rw [add_of_add, ← Nat.add_mul]; exact this
    · cases hi
theorem RG.sliceL {α : Type} {T e sz L H : Nat} {enc : α → List Value} {v : Value} {xs : List α} {x : Operand} {lo hi : Option Operand} (w0 : World) (hw : wantS ops S o = some true) (hd : o.dst = some d) (hdn : Nat.blt d n = true) (ho : o.op = .slice T x lo hi none) (hx : ev S x = some v)
    (ht : P.underlying T = some (.slice e)) (hs : sizeP P e = some sz) (hr : RdL w0 sz enc v xs) (hl : bnd S lo L 0) (hh : bnd S hi H xs.length) (h1 : L ≤ H) (h2 : H ≤ xs.length)
    (kk : ∀ v', RdL w0 sz enc v' ((xs.take H).drop L) → RG P ops Q n l ((d, v') :: S) w) : RG P ops Q n (o :: l) S w := by
  obtain ⟨v', hv', hr'⟩ := slice_ev (P := P) (n := n) w0 ho hx ht hs hr hl hh h1 h2
  exact RG.vl hw hd hdn (hv' w) (kk v' hr')
/-- The same in a region that draws. -/
theorem AG.sliceL {U : List Nat} {row : Rk} {f : Nat} {listed : Array Bool} {α : Type} {T e sz L H : Nat} {enc : α → List Value} {v : Value} {xs : List α} {x : Operand} {lo hi : Option Operand} (w0 : World) (i : Nat) {oi : Oper} (hi' : ops[i]? = some oi) (hns : Region.noSelect ops = true) (hf : freeZ ops U listed i false = true) (hw : wantS ops S oi = some true) (hd : oi.dst = some d) (hdn : Nat.blt d n = true) (ho : oi.op = .slice T x lo hi none) (hx : ev S x = some v)
    (ht : P.underlying T = some (.slice e)) (hs : sizeP P e = some sz) (hr : RdL w0 sz enc v xs) (hl : bnd S lo L 0) (hh : bnd S hi H xs.length) (h1 : L ≤ H) (h2 : H ≤ xs.length)
    (kk : ∀ v', RdL w0 sz enc v' ((xs.take H).drop L) → AG P ops Q U row n f (listed.setIfInBounds i true) ((d, v') :: S) w) : AG P ops Q U row n (f + 1) listed S w := by
  obtain ⟨v', hv', hr'⟩ := slice_ev (P := P) (n := n) w0 ho hx ht hs hr hl hh h1 h2
  exact AG.takeW i hi' hns hf hw hd hdn (fun w' => hv' w') (kk v' hr')
theorem cells_flat {α : Type} {sz : Nat} {enc : α → List Value} {ad : Addr} (hsz : ∀ a, (enc a).length = sz) : ∀ (xs : List α) (i0 : Nat), (∀ i a, xs[i]? = some a → Cells w (ad.add ((i0 + i) * sz)) (enc a)) → Cells w (ad.add (i0 * sz)) (xs.flatMap enc)
  | [], _, _ => fun j u h => by simp at h
  | x :: xs, i0, h => fun j u hu => by
    rw [List.flatMap_cons] at hu
    by_cases hj : j < (enc x).length
    · rw [List.getElem?_append_left hj] at hu
      have := h 0 x rfl j u hu
      simpa using this
    · rw [List.getElem?_append_right (by omega)] at hu
      have := cells_flat hsz xs (i0 + 1) (fun i a hi => by have := h (i + 1) a (by simpa using hi); rwa [show i0 + (i + 1) = i0 + 1 + i from by omega] at this) (j - (enc x).length) u hu
      rw [add_of_add] at this ⊢
      rw [show i0 * sz + j = (i0 + 1) * sz + (j - (enc x).length) from by rw [hsz] at hj ⊢; rw [Nat.add_mul]; omega]
      exact this
theorem RdL.flat {α : Type} {sz : Nat} {enc : α → List Value} {v : Value} {xs : List α} (hsz : ∀ a, (enc a).length = sz) (h : RdL w sz enc v xs) : ∃ A c, v = .slice A xs.length c ∧ (0 < xs.length → ∃ ad, A = some ad ∧ Cells w ad (xs.flatMap enc)) := by
  obtain ⟨A, c, rfl, h1, h2, h3⟩ := h
  refine ⟨A, c, rfl, fun hl => ?_⟩
  obtain ⟨ad, rfl, hb, hc⟩ := h3 hl
  refine ⟨ad, rfl, ?_⟩
  have := cells_flat (w := w) (ad := ad) hsz xs 0 (fun i a hi => by rw [Nat.zero_add]; exact hc i a hi)
  rwa [Nat.zero_mul, add_zero_] at this
/-- append(own, list...) -/
theorem RG.appL {α : Type} {T e sz by_ base m : Nat} {enc : α → List Value} {z v u : Value} {x y : Operand} {c : Call} {xs : List Value} {us : List α} (hw : wantS ops S o = some true) (hd : o.dst = some d) (hdn : Nat.blt d n = true) (ho : o.op = .call c) (hc : c = { callee := .builtin .append, args := #[x, y], argTypes := #[T, T] })
    (hx : ev S x = some v) (hy : ev S y = some u) (ht : P.underlying T = some (.slice e)) (hi : (P.info? e).map (fun i => (i.zero, i.size, i.bytes)) = some (some z, sz, by_)) (hz : z.cells.size = sz) (hsz : Nat.blt 0 sz = true) (henc : ∀ a, (enc a).length = sz) (h1' : ∀ a, (enc a).all (·.oneCell') = true)
    (hown : w.ownsRow base e sz v m xs) (hr : RdL w sz enc u us) (hlen : m + us.length ≤ maxLen) (hby : (m + us.length) * by_ ≤ 140737488355328) (hbase : base ≤ w.heap.size)
    (kk : ∀ v' w', w'.ownsRow base e sz v' (m + us.length) (xs ++ us.flatMap enc) → w.grownBy w' v.ownBlock → (v'.ownBlock = v.ownBlock ∨ v'.ownBlock = some w.heap.size) → RG P ops Q n l ((d, v') :: S) w') : RG P ops Q n (o :: l) S w := by
  obtain ⟨A, cp, rfl, hA⟩ := hr.flat henc
  exact RG.app hw hd hdn ho hc hx hy ht hi hz hsz hown (length_flatMap_enc henc us) hA (List.all_eq_true.2 fun b hb => by
    obtain ⟨a, _, hb'⟩ := List.mem_flatMap.1 hb
    exact (List.all_eq_true.1 (h1' a)) b hb') hlen hby hbase kk
/-- []T{} -/
theorem RG.build0 {T e sz : Nat} {parts : Array (Nat × Operand)} (hw : wantS ops S o = some true) (hd : o.dst = some d) (hdn : Nat.blt d n = true) (ho : o.op = .buildSlice T 0 parts) (hp : parts = #[]) (ht : P.underlying T = some (.slice e)) (hs : sizeP P e = some sz)
    (kk : ∀ g w', g = w.heap.size → Ex w w' → Blk w' g e [] → RG P ops Q n l ((d, .slice (some ⟨g, 0, none⟩) 0 0) :: S) w') : RG P ops Q n (o :: l) S w := by
  refine RG.run (w' := w.alloc (.cells #[] e)) hw hd hdn (fun a ha => ?_) (kk w.heap.size _ rfl (Ex.of_alloc w _) (new_blk w e #[]))
  subst hp
  simp only [execOp, ho, Instr.buildSlice, Sem.run_bind, run_underlying ht]
  simp [run_sizeOf hs, Instr.fill, newRow, Array.range_zero']
theorem made_list {α : Type} {z : Value} {sz m : Nat} {enc : α → List Value} {a : α} (henc : ∀ a, (enc a).length = sz) (hz : z.cells.toList = enc a) (hsz : 0 < sz) : (madeCells z.cells (m * sz)).toList = (List.replicate m a).flatMap enc := by
  have hzs : z.cells.size = sz := by rw [← Array.length_toList, hz, henc]
  apply List.ext_getElem?
  intro i
  by_cases hi : i < m * sz
  · have hmod : i % sz < sz := Nat.mod_lt _ hsz
    have hq : i / sz < m := (Nat.div_lt_iff_lt_mul hsz).2 hi
    have hu : (enc a)[i % sz]? = some z.cells[i % sz]! := by
      rw [← hz, Array.getElem?_toList, getElem!_pos z.cells _ (by omega), Array.getElem?_eq_getElem (by omega)]
    have := getElem?_flatMap_at henc (List.replicate m a) (i / sz) a (by simp [hq]) (i % sz) _ hu
    rw [Nat.div_add_mod' i sz] at this
    rw [this]
    simp [madeCells, hi, hzs]
  · rw [List.getElem?_eq_none (by simp [madeCells]; omega), List.getElem?_eq_none (by rw [length_flatMap_enc henc, List.length_replicate]; omega)]
theorem RG.makeL {α : Type} {T e sz by_ m : Nat} {c : Int} {z : Value} {enc : α → List Value} (a : α) {x y : Operand} {kx ky : IntKind} (hw : wantS ops S o = some true) (hd : o.dst = some d) (hdn : Nat.blt d n = true) (ho : o.op = .makeSlice T x y) (hx : ev S x = some (.int kx c)) (hy : ev S y = some (.int ky c)) (hc : c = (m : Int))
    (ht : P.underlying T = some (.slice e)) (hi : (P.info? e).map (fun i => (i.zero, i.size, i.bytes)) = some (some z, sz, by_)) (henc : ∀ a, (enc a).length = sz) (hz : z.cells.toList = enc a) (hsz : Nat.blt 0 sz = true) (hm : m * by_ ≤ 281474976710656) (hm2 : m ≤ maxLen)
    (kk : ∀ g w', g = w.heap.size → Ex w w' → Blk w' g e ((List.replicate m a).flatMap enc) → RdL w' sz enc (.slice (some ⟨g, 0, none⟩) m m) (List.replicate m a) → RG P ops Q n l ((d, .slice (some ⟨g, 0, none⟩) m m) :: S) w') : RG P ops Q n (o :: l) S w := by
  subst hc
  obtain ⟨i, hii, hz0, hz1, hz2⟩ := info_parts hi
  have hb : (i.bytes : Int) * (m : Int) ≤ 281474976710656 := by
    rw [hz2, ← Int.natCast_mul, Nat.mul_comm]; omega
  have h63 : (m : Int) ≤ 9223372036854775807 := by simp [maxLen] at hm2; omega
  have hr := run_make (P := P) w T e i z ht hii hz0 kx ky m m (by omega) (Int.le_refl _) hb h63
  simp only [Int.toNat_natCast, hz1] at hr
  have hbk : Blk (w.alloc (.cells (madeCells z.cells (m * sz)) e)) w.heap.size e ((List.replicate m a).flatMap enc) := by
    have := new_blk w e (madeCells z.cells (m * sz))
    rwa [made_list henc hz (by simpa [Nat.blt_eq] using hsz)] at this
  refine RG.run (w' := w.alloc (.cells (madeCells z.cells (m * sz)) e)) hw hd hdn (fun a ha => ?_) (kk w.heap.size _ rfl (Ex.of_alloc w _) hbk ?_)
  · simp only [execOp, ho]; rw [ha.eval hx, ha.eval hy]
    simp [hr]
  · have := RdL.of_blk (cap := (List.replicate m a).length) henc hbk (Nat.le_refl _) (by rw [List.length_replicate]; exact hm2)
    rwa [List.length_replicate] at this
theorem own_blk {B m sz : Nat} {e : TypeId} {cs : List Value} (h : Blk w g e cs) (hB : B ≤ g) (hm : m ≤ maxLen) (hc : cs.length = m * sz) : w.ownsRow B e sz (.slice (some ⟨g, 0, none⟩) m m) m cs :=
  ⟨hc, .inr ⟨g, m, cs.toArray, rfl, hB, h, Nat.le_refl _, hm, by simpa using hc, by simp [← hc]⟩⟩
/-- A row of the call's own, as a block. -/
theorem own_open {B m sz : Nat} {e : TypeId} {v : Value} {xs : List Value} (h : w.ownsRow B e sz v m xs) (hm : 0 < m) : ∃ g cap cs, v = .slice (some ⟨g, 0, none⟩) m cap ∧ B ≤ g ∧ Blk w g e cs ∧ m ≤ cap ∧ cap ≤ maxLen ∧ cs.length = cap * sz ∧ cs.take (m * sz) = xs := by
  rcases h.2 with ⟨_, h0⟩ | ⟨g, cap, cur, rfl, hb, hg, h1, h2, h3, h4⟩
  · omega
  · exact ⟨g, cap, cur.toList, rfl, hb, by unfold Blk; simpa using hg, h1, h2, by simpa using h3, h4⟩
/-- The same, of whatever address. -/
theorem own_at {B m sz : Nat} {e : TypeId} {v : Value} {xs : List Value} (h : w.ownsRow B e sz v m xs) (hm : 0 < m) : ∃ g cap, v = .slice (some ⟨g, 0, none⟩) m cap ∧ B ≤ g ∧ g < w.heap.size := by
  obtain ⟨g, cap, cs, rfl, hB, hb, _⟩ := own_open h hm
  exact ⟨g, cap, rfl, hB, hb.lt⟩
theorem own_new {B m sz g : Nat} {e : TypeId} {v : Value} {xs : List Value} (h : w.ownsRow B e sz v m xs) (hg : g = w.heap.size) : v.ownBlock ≠ some g := fun e => by have := (h.lt g e).2; omega
theorem sep_app {v v' : Value} {g : Nat} (ha : v'.ownBlock = v.ownBlock ∨ v'.ownBlock = some w.heap.size) (hs : v.ownBlock ≠ some g) (hl : g < w.heap.size) : v'.ownBlock ≠ some g := by
  rcases ha with e | e <;> rw [e]
  · exact hs
  · intro h; injection h with h; omega
/-- A store into a row of the call's own. -/
theorem RG.stO {T g k m cap B sz : Nat} {e : TypeId} {x y : Operand} {v : Value} {xs : List Value} (hw : wantS ops S o = some true) (hd : o.dst = none) (ho : o.op = .store T x y) (hx : ev S x = some (.pointer (some ((⟨g, 0, none⟩ : Addr).add k)))) (hy : ev S y = some v)
    (hs : sizeP P T = some 1) (h1 : v.oneCell' = true) (hown : w.ownsRow B e sz (.slice (some ⟨g, 0, none⟩) m cap) m xs) (hk : k < m * sz)
    (kk : ∀ w', Wr w w' g → w'.ownsRow B e sz (.slice (some ⟨g, 0, none⟩) m cap) m (xs.set k v) → RG P ops Q n l S w') : RG P ops Q n (o :: l) S w := by
  have hm : 0 < m := Nat.pos_of_ne_zero fun h0 => by rw [h0, Nat.zero_mul] at hk; omega
  obtain ⟨g', cap', cs, he, hB, hb, hmc, hcm, hcl, htk⟩ := own_open hown hm
  injection he with he1 _ he2
  injection he1 with he1
  injection he1 with he1
  subst he1 he2
  have hkc : k < cs.length := by
    rw [hcl]; exact Nat.lt_of_lt_of_le hk (Nat.mul_le_mul_right _ hmc)
  refine RG.st hw hd ho hx hy hs h1 hb (by rw [Nat.blt_eq]; exact hkc) fun w' hwr hb' => kk w' hwr ⟨?_, .inr ⟨g, cap, (cs.set k v).toArray, rfl, hB, hb', hmc, hcm, by simpa using hcl, ?_⟩⟩
  · rw [List.length_set]; exact hown.1
  · show (cs.set k v).take (m * sz) = _
    rw [List.take_set, htk]
theorem RG.stO2 {T g k j m cap B sz : Nat} {e : TypeId} {x y : Operand} {v : Value} {xs : List Value} (hw : wantS ops S o = some true) (hd : o.dst = none) (ho : o.op = .store T x y) (hx : ev S x = some (.pointer (some (((⟨g, 0, none⟩ : Addr).add k).add j)))) (hy : ev S y = some v)
    (hs : sizeP P T = some 1) (h1 : v.oneCell' = true) (hown : w.ownsRow B e sz (.slice (some ⟨g, 0, none⟩) m cap) m xs) (hk : k + j < m * sz)
    (kk : ∀ w', Wr w w' g → w'.ownsRow B e sz (.slice (some ⟨g, 0, none⟩) m cap) m (xs.set (k + j) v) → RG P ops Q n l S w') : RG P ops Q n (o :: l) S w :=
  RG.stO hw hd ho (by rw [← add_of_add]; exact hx) hy hs h1 hown hk kk
theorem RdL.of_take {α : Type} {g cap sz : Nat} {t : TypeId} {cs : List Value} {enc : α → List Value} {xs : List α} (hsz : ∀ a, (enc a).length = sz) (h : Blk w g t cs) (ht : cs.take (xs.length * sz) = xs.flatMap enc) (hc : xs.length ≤ cap) (hm : cap ≤ maxLen) : RdL w sz enc (.slice (some ⟨g, 0, none⟩) xs.length cap) xs := by
  refine ⟨_, cap, rfl, hc, hm, fun _ => ⟨_, rfl, h.lt, fun i a hi j u hu => ?_⟩⟩
  rw [add_of_add]
  have hq := getElem?_flatMap_at hsz xs i a hi j u hu
  rw [← ht, List.getElem?_take] at hq
  split at hq
  · exact h.cells _ u hq
  · cases hq
/-- A store behind two steps. -/
theorem RG.st2 {T g k j : Nat} {t : TypeId} {x y : Operand} {v : Value} {cs : List Value} (hw : wantS ops S o = some true) (hd : o.dst = none) (ho : o.op = .store T x y) (hx : ev S x = some (.pointer (some (((⟨g, 0, none⟩ : Addr).add k).add j)))) (hy : ev S y = some v)
    (hs : sizeP P T = some 1) (h1 : v.oneCell' = true) (hb : Blk w g t cs) (hk' : Nat.blt (k + j) cs.length = true)
    (kk : ∀ w', Wr w w' g → Blk w' g t (cs.set (k + j) v) → RG P ops Q n l S w') : RG P ops Q n (o :: l) S w :=
  RG.st hw hd ho (by rw [← add_of_add]; exact hx) hy hs h1 hb hk' kk
theorem set_flat {α : Type} {sz : Nat} {enc : α → List Value} (hsz : ∀ a, (enc a).length = sz) (b : α) (v : Value) (j : Nat) (hj : j < sz) : ∀ (xs : List α) (k : Nat) (a : α), xs[k]? = some a → (enc a).set j v = enc b → (xs.flatMap enc).set (k * sz + j) v = (xs.set k b).flatMap enc
  | [], k, a, h, _ => by simp at h
  | x :: xs, 0, a, h, he => by
    simp only [List.getElem?_cons_zero, Option.some.injEq] at h
    subst h
    rw [List.flatMap_cons, List.set_cons_zero, List.flatMap_cons, Nat.zero_mul, Nat.zero_add, List.set_append_left _ _ (by rw [hsz]; exact hj), he]
  | x :: xs, k + 1, a, h, he => by
    have ih := set_flat hsz b v j hj xs k a (by simpa using h) he
    rw [List.flatMap_cons, List.set_cons_succ, List.flatMap_cons, List.set_append_right _ _ (by rw [hsz, Nat.add_mul]; omega), hsz, show (k + 1) * sz + j - sz = k * sz + j from by rw [Nat.add_mul]; omega, ih]
/-! rows of the call's own, known as lists -/
theorem own_empty {α : Type} {B sz : Nat} {e : TypeId} {v : Value} {enc : α → List Value} (h : w.ownsRow B e sz v 0 []) : w.ownsRow B e sz v ([] : List α).length (([] : List α).flatMap enc) := h
theorem RG.appLL {α : Type} {T e sz by_ base : Nat} {enc : α → List Value} {z v u : Value} {x y : Operand} {c : Call} {xs us : List α} (hw : wantS ops S o = some true) (hd : o.dst = some d) (hdn : Nat.blt d n = true) (ho : o.op = .call c) (hc : c = { callee := .builtin .append, args := #[x, y], argTypes := #[T, T] })
    (hx : ev S x = some v) (hy : ev S y = some u) (ht : P.underlying T = some (.slice e)) (hi : (P.info? e).map (fun i => (i.zero, i.size, i.bytes)) = some (some z, sz, by_)) (hz : z.cells.size = sz) (hsz : Nat.blt 0 sz = true) (henc : ∀ a, (enc a).length = sz) (h1' : ∀ a, (enc a).all (·.oneCell') = true)
    (hown : w.ownsRow base e sz v xs.length (xs.flatMap enc)) (hr : RdL w sz enc u us) (hlen : xs.length + us.length ≤ maxLen) (hby : (xs.length + us.length) * by_ ≤ 140737488355328) (hbase : base ≤ w.heap.size)
    (kk : ∀ v' w', w'.ownsRow base e sz v' (xs ++ us).length ((xs ++ us).flatMap enc) → w.grownBy w' v.ownBlock → (v'.ownBlock = v.ownBlock ∨ v'.ownBlock = some w.heap.size) → RG P ops Q n l ((d, v') :: S) w') : RG P ops Q n (o :: l) S w :=
  RG.appL hw hd hdn ho hc hx hy ht hi hz hsz henc h1' hown hr hlen hby hbase fun v' w' h => kk v' w' (by rw [List.length_append, List.flatMap_append]; exact h)
theorem own_set {α : Type} {B sz : Nat} {e : TypeId} {v u : Value} {enc : α → List Value} {xs : List α} {a : α} (hsz : ∀ a, (enc a).length = sz) (b : α) (k j : Nat) (hj : j < sz) (hk : xs[k]? = some a) (he : (enc a).set j u = enc b)
    (h : w.ownsRow B e sz v xs.length ((xs.flatMap enc).set (k * sz + j) u)) : w.ownsRow B e sz v (xs.set k b).length ((xs.set k b).flatMap enc) := by
  rw [List.length_set, ← set_flat hsz b u j hj xs k a hk he]; exact h
theorem bx_cut (T : List UInt8) (i j : Nat) : (⟨T.toArray⟩ : ByteArray).extract i j = ⟨((T.take j).drop i).toArray⟩ := by
  apply ByteArray.ext
  simp [List.extract_toArray, List.drop_take]
theorem bx_cat (a b : List UInt8) : (⟨a.toArray⟩ : ByteArray) ++ ⟨b.toArray⟩ = ⟨(a ++ b).toArray⟩ := by
  apply ByteArray.ext; simp
/-- append to a slice that is full. -/
theorem RG.appF {α : Type} {T e sz by_ m : Nat} {enc : α → List Value} {z u : Value} {x y : Operand} {c : Call} {b : Addr} {olds : List Value} {us : List α} (hw : wantS ops S o = some true) (hd : o.dst = some d) (hdn : Nat.blt d n = true) (ho : o.op = .call c) (hc : c = { callee := .builtin .append, args := #[x, y], argTypes := #[T, T] })
    (hx : ev S x = some (.slice (some b) m m)) (hy : ev S y = some u) (ht : P.underlying T = some (.slice e)) (hi : (P.info? e).map (fun i => (i.zero, i.size, i.bytes)) = some (some z, sz, by_)) (hz : z.cells.size = sz) (henc : ∀ a, (enc a).length = sz)
    (hl : olds.length = m * sz) (hcs : Cells w b olds) (hr : RdL w sz enc u us) (hpos : 0 < us.length) (hlen : m + us.length ≤ maxLen) (hby : (m + us.length) * by_ ≤ 140737488355328)
    (kk : ∀ v' w', Ex w w' → w'.ownsRow w.heap.size e sz v' (m + us.length) (olds ++ us.flatMap enc) → RG P ops Q n l ((d, v') :: S) w') : RG P ops Q n (o :: l) S w := by
  obtain ⟨A, cp, rfl, hA⟩ := hr.flat henc
  obtain ⟨ad, rfl, hca⟩ := hA hpos
  obtain ⟨i, hii, hz0, hz1, hz2⟩ := info_parts hi
  subst hz1
  subst hz2
  have hlu := length_flatMap_enc henc us
  have hsm : m + us.length ≤ 9223372036854775807 := by simp only [maxLen] at hlen; omega
  have hr := run_append_grow (P := P) (w := w) T o.type e i z ht hii hz0 b m m olds hl hcs ad us.length cp (us.flatMap enc) hlu hca (by omega) (by omega) (growslice_fits (by omega) hby)
  have hlen2 : (olds ++ us.flatMap enc).length = (m + us.length) * i.size := by rw [List.length_append, hl, hlu, Nat.add_mul]
  have hge := grownCap_ge w (m + us.length) m e
  refine RG.run (w' := w.drew.alloc (.cells (olds.toArray ++ (us.flatMap enc).toArray ++ Builtin.zeroCells z.cells (grownCap w (m + us.length) m e - (m + us.length))) e)) hw hd hdn (fun a ha => ?_) (kk _ _ ((Ex.of_drew w).tr (Ex.of_alloc w.drew _)) ⟨hlen2, .inr ⟨w.heap.size, _, _, rfl, Nat.le_refl _, heap_alloc_new w.drew _, hge, grownCap_le_maxLen w _ _ e hlen, ?_, ?_⟩⟩)
  · simp only [execOp, ho, hc]
    simp [resolve, invoke, builtin, ha.eval hx, ha.eval hy, hr]
  · simp only [Array.size_append, List.size_toArray, size_zeroCells, hz, hl, hlu, ← Nat.add_mul]
    congr 1
    omega
  · simp only [Array.toList_append, List.append_assoc]
    rw [← List.append_assoc, ← hlen2]
    exact List.take_left
end
end Go.Proofs.Ytehlnkhbbnddmaa
