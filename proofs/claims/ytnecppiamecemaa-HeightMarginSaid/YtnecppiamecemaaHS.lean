/- Chapter 21, plain: setups made of numbers, and texts for them. -/
import Derived.Test.YtnecppiamecemaaHI
namespace Go.Proofs.Ytnecppiamecemaa
structure Fm where
  (pl og pi sl lo ga : Int)
abbrev Fm.v (f : Fm) : Value := .agg #[.int .u8 f.pl, .int .u8 f.og, .int .u8 f.pi, .int .u8 f.sl, .int .u8 f.lo, .int .u8 f.ga]
def Fm.Ok (f : Fm) : Prop := (0 ≤ f.pl ∧ f.pl ≤ 255) ∧ (0 ≤ f.og ∧ f.og ≤ 255) ∧ (0 ≤ f.pi ∧ f.pi ≤ 255) ∧ (0 ≤ f.sl ∧ f.sl ≤ 255) ∧ (0 ≤ f.lo ∧ f.lo ≤ 255) ∧ 0 ≤ f.ga ∧ f.ga ≤ 255
def setupOf (f : Fm) : Su := ⟨1 + f.pl % 70, 300 + f.og, 1 + f.pi, f.sl % ((1 + f.pi + 1) / 2), f.lo, f.lo + 1 + f.ga % 50⟩
theorem setup_okay (f : Fm) (h : f.Ok) : Okay (setupOf f) := by
  obtain ⟨⟨a1, a2⟩, ⟨b1, b2⟩, ⟨c1, c2⟩, ⟨d1, d2⟩, ⟨e1, e2⟩, g1, g2⟩ := h
  unfold Okay setupOf
  simp only
  have m0 := Int.emod_nonneg f.sl (show (1 + f.pi + 1) / 2 ≠ 0 by omega)
  have m1 := Int.emod_lt_of_pos f.sl (show 0 < (1 + f.pi + 1) / 2 by omega)
  refine ⟨by omega, by omega, by omega, by omega, by omega, by omega, m0, by omega, by omega, by omega, by omega⟩
/-- What is wrong with a setup or a bar. -/
theorem err_setup (s : Su) (b : Br) (h : ¬ Okay s) : errOf s [b] = 2 := by
  unfold errOf; rw [if_neg (by simp), if_pos h]
theorem err_bar (s : Su) (b : Br) (h : ¬ InB b) : errOf s [b] = 2 := by
  unfold errOf
  rw [if_neg (by simp)]
  by_cases hs : Okay s
  · rw [if_neg (by simpa using hs), if_pos (by simpa using h)]
  · rw [if_pos hs]
theorem err_many (s : Su) : errOf s (List.replicate 401 ⟨0, 0, 0⟩) = 5 := by
  unfold errOf; rw [if_pos (by rw [List.length_replicate]; decide)]
theorem read_bad (s : Su) (b : Br) (h : errOf s [b] = 2) : readOf s [b] = [] := by
  unfold readOf; rw [if_neg (by omega)]
theorem draw_empty (s : Su) : drawErr s [] = 2 := by
  unfold drawErr
  rw [if_neg]
  rintro ⟨h1, h2, _⟩
  obtain ⟨h, _⟩ := h1
  simp at h2
  omega
theorem right_no (s : Su) (w : World) (h : ¬ Okay s) : Ret Try.prog 15 [s.v] w (fun v w' => v = .bool false ∧ Ex w w') :=
  (right_ret s w).mono fun v w' ⟨e, hx⟩ => ⟨by rw [e, decide_eq_false h], hx⟩
theorem right_yes (s : Su) (w : World) (h : Okay s) : Ret Try.prog 15 [s.v] w (fun v w' => v = .bool true ∧ Ex w w') :=
  (right_ret s w).mono fun v w' ⟨e, hx⟩ => ⟨by rw [e, decide_eq_true h], hx⟩
/-- The text for a setup, made of bytes. -/
def pickL (c : UInt8) : UInt8 := ([84, 65, 68, 70, 63] : List UInt8).getD (c.toNat % 5) 84
def wantT (s : Su) (l : List UInt8) : List UInt8 := (List.range s.pl.toNat).map fun k => match l[k]? with | some c => pickL c | none => 84
theorem pick_at (c : UInt8) : ([84, 65, 68, 70, 63] : List UInt8)[((c.toNat : Int) % 5).toNat]? = some (pickL c) := by
  unfold pickL
  rw [show ((c.toNat : Int) % 5).toNat = c.toNat % 5 from by omega]
  rcases (show c.toNat % 5 = 0 ∨ c.toNat % 5 = 1 ∨ c.toNat % 5 = 2 ∨ c.toNat % 5 = 3 ∨ c.toNat % 5 = 4 by omega) with h | h | h | h | h <;> rw [h] <;> rfl
theorem pickL_ok (c : UInt8) : okLetter (pickL c) = true := by
  unfold pickL
  rcases (show c.toNat % 5 = 0 ∨ c.toNat % 5 = 1 ∨ c.toNat % 5 = 2 ∨ c.toNat % 5 = 3 ∨ c.toNat % 5 = 4 by omega) with h | h | h | h | h <;> rw [h] <;> decide
theorem wantT_len (s : Su) (l : List UInt8) : (wantT s l).length = s.pl.toNat := by simp [wantT]
theorem wantT_ok (s : Su) (l : List UInt8) : (wantT s l).all okLetter = true := by
  unfold wantT
  rw [List.all_map, List.all_eq_true]
  intro k _
  simp only [Function.comp]
  cases l[k]? with
  | none => decide
  | some c => exact pickL_ok c
theorem want_err (s : Su) (l : List UInt8) (h : Okay s) : drawErr s (wantT s l) = 0 := (drawErr_ok s _ ⟨h, by rw [wantT_len]; have := h.1; omega, wantT_ok s l⟩).1
/-- The text as far as it has been written. -/
def wtx (s : Su) (l : List UInt8) (k : Nat) : List Value := (List.range s.pl.toNat).map fun j => if j < k then .int .u8 (match l[j]? with | some c => pickL c | none => 84 : UInt8).toNat else .int .u8 0
theorem wtx_len (s : Su) (l : List UInt8) (k : Nat) : (wtx s l k).length = s.pl.toNat := by simp [wtx]
theorem wtx_zero (s : Su) (l : List UInt8) : List.replicate s.pl.toNat (Value.int .u8 0) = wtx s l 0 := by
  apply List.ext_getElem?
  intro i
  unfold wtx
  rw [List.getElem?_map, List.getElem?_replicate]
  by_cases h : i < s.pl.toNat
  · rw [if_pos h, List.getElem?_range h]; simp
  · rw [if_neg h, List.getElem?_eq_none (by simpa using h)]; rfl
theorem wtx_set (s : Su) (l : List UInt8) (k : Nat) (v : Value) (hv : v = .int .u8 (match l[k]? with | some c => pickL c | none => 84 : UInt8).toNat) : (wtx s l k).set (k * 1) v = wtx s l (k + 1) := by
  subst hv
  apply List.ext_getElem?
  intro i
  unfold wtx
  rw [List.getElem?_set, Nat.mul_one, List.length_map, List.length_range, List.getElem?_map, List.getElem?_map]
  by_cases h : k = i
  · subst h
    rw [if_pos rfl]
    by_cases hi : k < s.pl.toNat
    · rw [if_pos hi, List.getElem?_range hi]; simp
    · rw [if_neg hi, List.getElem?_eq_none (by simpa using hi)]; rfl
  · rw [if_neg h]
    by_cases hi : i < s.pl.toNat
    · rw [List.getElem?_range hi]; simp only [Option.map_some]; congr 1
      by_cases h2 : i < k
      · rw [if_pos h2, if_pos (by omega)]
      · rw [if_neg h2, if_neg (by omega)]
    · rw [List.getElem?_eq_none (by simpa using hi)]; rfl
theorem wtx_set2 (s : Su) (l : List UInt8) (k : Nat) (u v : Value) (hv : v = .int .u8 (match l[k]? with | some c => pickL c | none => 84 : UInt8).toNat) : ((wtx s l k).set (k * 1) u).set (k * 1) v = wtx s l (k + 1) := by
  rw [List.set_set]; exact wtx_set s l k v hv
theorem wtx_end (s : Su) (l : List UInt8) : wtx s l s.pl.toNat = (wantT s l).flatMap encB := by
  unfold wtx wantT encB
  rw [← List.map_eq_flatMap, List.map_map]
  exact List.map_congr_left fun j hj => by rw [if_pos (List.mem_range.1 hj)]; rfl
theorem wtx_rd (s : Su) (l : List UInt8) {w : World} {g : Nat} {t : TypeId} (h : Blk w g t (wtx s l s.pl.toNat)) (hp : s.pl ≤ 200) : RdL w 1 encB (.slice (some ⟨g, 0, none⟩) s.pl.toNat s.pl.toNat) (wantT s l) := by
  have e := wantT_len s l
  rw [wtx_end] at h
  have := RdL.of_blk (cap := (wantT s l).length) encB_len h (Nat.le_refl _) (by rw [e]; simp only [maxLen]; omega)
  rwa [e] at this
end Go.Proofs.Ytnecppiamecemaa
