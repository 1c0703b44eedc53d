/- Decode as it goes: what it says, the round's result; stores behind a range over a function. -/
import Derived.Test.YtjhgihgggofocaaSK
import Derived.Test.YtjhgihgggofocaaLR
import Derived.Test.YtjhgihgggofocaaSB
namespace Go.Proofs.Ytjhgihgggofocaa
open Go.RowKit
def fixL (l P : List Nat) (M : Mx) : Nat → List Nat
  | 0 => l
  | i + 1 => (fixL l P M i).set (cf P i) (cf (fixL l P M i) (cf P i) ^^^ M i 4)
theorem fixL_len (l P : List Nat) (M : Mx) : ∀ i, (fixL l P M i).length = l.length
  | 0 => rfl
  | i + 1 => by rw [fixL, List.length_set, fixL_len l P M i]
theorem fixL_el {l P : List Nat} {M : Mx} (hl : El l) (hM : EM M) : ∀ i, i ≤ 4 → El (fixL l P M i)
  | 0, _ => hl
  | i + 1, hi => fun a ha => by
    have ih := fixL_el (P := P) hl hM i (by omega)
    rw [fixL] at ha
    rcases List.mem_or_eq_of_mem_set ha with h | h
    · exact ih a h
    · rw [h]; exact xor_lt64 _ _ (ih.cf _) (hM i 4 (by omega) (by omega))
theorem fixL_more {l P : List Nat} {M : Mx} {i a : Nat} (h : P[i]? = some a) : (fixL l P M i).set a (cf (fixL l P M i) a ^^^ M i 4) = fixL l P M (i + 1) := by rw [fixL, cf_some h]
def freeL (P er : List Nat) : List Nat := P.filter fun a => decide (a ∉ er)
theorem freeL_yes {P er : List Nat} {i a : Nat} (h : P[i]? = some a) (hn : a ∉ er) : freeL (P.take (i + 1)) er = freeL (P.take i) er ++ [a] := by unfold freeL; rw [List.take_add_one, h, Option.toList_some, List.filter_append]; simp [hn]
theorem freeL_no {P er : List Nat} {i a : Nat} (h : P[i]? = some a) (hn : a ∈ er) : freeL (P.take (i + 1)) er = freeL (P.take i) er := by unfold freeL; rw [List.take_add_one, h, Option.toList_some, List.filter_append]; simp [hn]
theorem freeL_len (P er : List Nat) (i : Nat) : (freeL (P.take i) er).length ≤ P.length := by
  have h := List.length_filter_le (fun a => decide (a ∉ er)) (P.take i)
  rw [List.length_take] at h
  unfold freeL; omega
def NoF (l P : List Nat) : Prop := ∃ M, SolvR (eqM l.length P (syL l)) P.length false M
def YesF (l P c : List Nat) : Prop := ∃ M, SolvR (eqM l.length P (syL l)) P.length true M ∧ c = fixL l P M P.length
def okE (n : Nat) (ei : List Int) : Prop := (∀ a ∈ ei, 0 ≤ a ∧ a < n) ∧ ei.Nodup
def erN (ei : List Int) : List Nat := ei.map Int.toNat
/-- What is found: nothing within the bound, or the first places that fit. -/
def Found (l er : List Nat) (e : Int) (c es : List Nat) : Prop :=
  ((∀ P ∈ candL l.length er, NoF l P) ∧ e = 190 ∧ c = [] ∧ es = []) ∨ ∃ pre P rest, candL l.length er = pre ++ P :: rest ∧ (∀ Q ∈ pre, NoF l Q) ∧ YesF l P c ∧ e = 0 ∧ es = freeL P er
def DecP (l : List Nat) (ei : List Int) (e : Int) (c es : List Nat) : Prop :=
  ((isW l = false ∨ ¬ okE l.length ei) ∧ e = 2 ∧ c = [] ∧ es = []) ∨ (isW l = true ∧ okE l.length ei ∧ ((4 < ei.length ∧ e = 190 ∧ c = [] ∧ es = []) ∨ (ei.length ≤ 4 ∧ Found l (erN ei) e c es)))
theorem cand_in {n : Nat} {er P : List Nat} (h : P ∈ candL n er) (her : er.length ≤ 4) (hn : ∀ a ∈ er, a < n) : P.length ≤ 4 ∧ ∀ a ∈ P, a < n := by
  unfold candL at h
  rcases List.mem_append.1 h with h | h
  · rcases List.mem_append.1 h with h | h
    · rw [List.mem_singleton.1 h]; exact ⟨her, hn⟩
    · split at h
      · unfold singL at h
        obtain ⟨i, hi, rfl⟩ := List.mem_map.1 h
        have hi := List.mem_range.1 (List.mem_filter.1 hi).1
        refine ⟨by rw [List.length_append, List.length_singleton]; omega, fun a ha => ?_⟩
        rcases List.mem_append.1 ha with ha | ha
        · exact hn a ha
        · rw [List.mem_singleton.1 ha]; exact hi
      · cases h
  · split at h
    · obtain ⟨i, hi, h⟩ := List.mem_flatMap.1 h
      have hi := List.mem_range.1 hi
      unfold rowP at h
      obtain ⟨j, hj, rfl⟩ := List.mem_map.1 h
      have hj := List.mem_range.1 (List.mem_of_mem_drop hj)
      refine ⟨by show (2 : Nat) ≤ 4; omega, fun a ha => ?_⟩
      rcases List.mem_cons.1 ha with rfl | ha
      · exact hi
      · rw [List.mem_singleton.1 ha]; exact hj
    · cases h
theorem rdl_z {w : World} {u : Value} {ei : List Int} (h : RdL w 1 encI u ei) (h0 : ∀ a ∈ ei, 0 ≤ a) : RdL w 1 encZ u (erN ei) := by
  obtain ⟨A, c, rfl, h1, h2, h3⟩ := h
  have hl : (erN ei).length = ei.length := List.length_map ..
  refine ⟨A, c, by rw [hl], by rw [hl]; exact h1, h2, fun hp => ?_⟩
  obtain ⟨ad, rfl, hb, hc⟩ := h3 (by rw [← hl]; exact hp)
  refine ⟨ad, rfl, hb, fun i a hi => ?_⟩
  unfold erN at hi
  rw [List.getElem?_map] at hi
  obtain ⟨z, hz, rfl⟩ := Option.map_eq_some_iff.1 hi
  have h0' := h0 z (List.mem_of_getElem? hz)
  have := hc i z hz
  rw [show encZ z.toNat = encI z from congrArg (fun x : Int => [Value.int .i64 x]) (by omega)]
  exact this
theorem dup_no {ei : List Int} {i : Nat} {a : Int} (h : ei[i]? = some a) (hm : a ∈ ei.take i) : ¬ ei.Nodup := fun hd => by
  obtain ⟨j, hj⟩ := List.mem_iff_getElem?.1 hm
  have hji : j < i := by
    have := (List.getElem?_eq_some_iff.1 hj).1
    rw [List.length_take] at this; omega
  rw [List.getElem?_take_of_lt hji] at hj
  obtain ⟨h1, h2⟩ := List.getElem?_eq_some_iff.1 hj
  obtain ⟨h3, h4⟩ := List.getElem?_eq_some_iff.1 h
  have := List.pairwise_iff_getElem.1 hd j i h1 h3 hji
  exact this (by rw [h2, h4])
theorem toNat_mem {ei : List Int} {a : Int} (h0 : ∀ x ∈ ei, 0 ≤ x) (ha : 0 ≤ a) (h : a.toNat ∈ erN ei) : a ∈ ei := by
  unfold erN at h
  obtain ⟨x, hx, e⟩ := List.mem_map.1 h
  have := h0 x hx
  have : x = a := by omega
  rw [← this]; exact hx
theorem nodup_more {ei : List Int} {i : Nat} {a : Int} (hd : (ei.take i).Nodup) (h : ei[i]? = some a) (hn : a ∉ ei.take i) : (ei.take (i + 1)).Nodup := by
  rw [List.take_add_one, h, Option.toList_some]
  refine List.nodup_append.2 ⟨hd, by simp, fun x hx y hy => ?_⟩
  rw [List.mem_singleton.1 hy]; rintro rfl; exact hn hx
theorem erN_more {ei : List Int} {i : Nat} {a : Int} (h : ei[i]? = some a) : erN (ei.take (i + 1)) = erN (ei.take i) ++ [a.toNat] := by unfold erN; rw [List.take_add_one, h, Option.toList_some, List.map_append]; rfl
theorem others_wr {A B : World} {g : Nat} {t : TypeId} {cs : List Value} (h : Wr A B g) (hb : Blk A g t cs) : KeepsOthers A B :=
  ⟨by rw [h.size]; exact Nat.le_refl _, fun k o hk ho => by
    have hne : k ≠ g := fun e => by subst e; unfold Blk at hb; rw [hb] at hk; cases hk; cases ho
    exact (h.block k hne).trans hk⟩
theorem Blk.put {A : World} {g l : Nat} {t : TypeId} {cs : List Value} {o : Obj} (o' : Obj) (hb : Blk A g t cs) (h : A.heap[l]? = some o) (hc : o.isCells = false) : Blk (A.putObj l o') g t cs := by
  have hne : g ≠ l := fun e => by subst e; unfold Blk at hb; rw [hb] at h; cases h; cases hc
  exact (World.putObj_heap_other hne).trans hb
theorem Own.put {α : Type} {A : World} {l B sz : Nat} {e : TypeId} {enc : α → List Value} {v : Value} {xs : List α} {o : Obj} (o' : Obj) (ho : Own A B e sz enc v xs) (h : A.heap[l]? = some o) (hc : o.isCells = false) : Own (A.putObj l o') B e sz enc v xs := ho.kc (n0 := 0) (Kc.put o' (Nat.zero_le _) h hc)
theorem RdL.put {α : Type} {A : World} {l sz : Nat} {enc : α → List Value} {v : Value} {xs : List α} {o : Obj} (o' : Obj) (hr : RdL A sz enc v xs) (h : A.heap[l]? = some o) (hc : o.isCells = false) : RdL (A.putObj l o') sz enc v xs := by
  refine hr.keep (by simp) fun ad _ _ us j hcs i u hu => ?_
  have h1 := hcs i u hu
  have hb : ((ad.add j).add i).block ≠ l := fun e => by
    rw [World.cell?, e, h] at h1
    cases o <;> first | (cases hc; done) | (simp at h1)
  exact (World.cell?_of_block (World.putObj_heap_other hb)).trans h1
theorem CW.label {P : Program} {Q : Exit → Act → World → Prop} {n m : Nat} {S : Slots} {w : World} (k : QW Q .normal n S w) : CW P (.label m) Q n S w := fun a ha => wp_label (k a ha)
/-! stores behind a mark -/
section
variable {F : Fence} {k n g : Nat} {P : Program} {ops : Array Oper} {Q : Exit → Act → World → Prop} {ds : List Deferred} {l : List Oper} {S : Slots} {w : World} {o : Oper}
theorem RGI.run0 {w' : World} (hO : Open F) (hw : wantS ops S o = some true) (hd : o.dst = none) (hnd : ∀ c, o.op ≠ .defer c)
    (hr : ∀ a, Fr n S a → (execOp a.eval o).run P w = .ok .skip w') (kk : RGI F k P ops Q ds n l S w') : RGI F k P ops Q ds n (o :: l) S w := by
  intro a ha
  unfold wpListIn
  rw [if_pos (ha.1.wanted hw)]
  refine ⟨fun f _ => hO.fn f, ?_⟩
  rw [Oper.semAt_plain F _ _ hnd]
  have e := hr _ ha.1
  rw [show a.eval = Act.eval { a with defers := [] } from rfl, e]
  show wpListIn F k P ops Q l (a.put o.dst undef) w'
  rw [hd]
  exact kk _ ha
theorem RGI.stAll (hO : Open F) {T m : Nat} {x y : Operand} {v : Value} {cs : List Value} (hw : wantS ops S o = some true) (hd : o.dst = none) (ho : o.op = .store T x y) (hx : ev S x = some (.pointer (some ⟨g, 0, none⟩))) (hy : ev S y = some v)
    (hs : sizeP P T = some m) (hv : v.cells.size = m) (hcs : cs.length = m) (h1 : v.cells.toList.all (·.oneCell') = true) (hb : Blk w g T cs)
    (kk : ∀ w', Wr w w' g → Blk w' g T v.cells.toList → RGI F k P ops Q ds n l S w') : RGI F k P ops Q ds n (o :: l) S w := by
  refine RGI.run0 hO (w' := w.setRow g v.cells.toList.toArray) hw hd (by rw [ho]; intro c h; cases h) (fun a ha => ?_) (kk _ (wr_setRow _ _ _) (blk_setRow hb))
  simp only [execOp, ho]; rw [ha.eval hx, ha.eval hy]
  simp [Instr.storeAt, Instr.sureAddr, storeVar_blk hb v rfl hs (by simpa using hv) hcs h1]
theorem RGI.st1 (hO : Open F) {T : Nat} {t : TypeId} {x y : Operand} {v c : Value} (hw : wantS ops S o = some true) (hd : o.dst = none) (ho : o.op = .store T x y) (hx : ev S x = some (.pointer (some ⟨g, 0, none⟩))) (hy : ev S y = some v)
    (hs : sizeP P T = some 1) (h1 : v.oneCell' = true) (hb : Blk w g t [c])
    (kk : ∀ w', Wr w w' g → Blk w' g t [v] → RGI F k P ops Q ds n l S w') : RGI F k P ops Q ds n (o :: l) S w := by
  have hvc : v.cells = #[v] := by cases v <;> first | rfl | simp [Value.oneCell'] at h1
  have hst := run_storeCells_at P g 0 t [v] 0 #[c] w hb (by simp) (fun u hu => by simp at hu; subst hu; exact h1)
  refine RGI.run0 hO (w' := w.setRow g #[v]) hw hd (by rw [ho]; intro c h; cases h) (fun a ha => ?_) (kk _ (wr_setRow _ _ _) (blk_setRow (us := [v]) hb))
  simp only [execOp, ho]; rw [ha.eval hx, ha.eval hy]
  simp [Instr.storeAt, Instr.sureAddr, storeVar, run_sizeOf hs, hvc, hst]
end
end Go.Proofs.Ytjhgihgggofocaa
