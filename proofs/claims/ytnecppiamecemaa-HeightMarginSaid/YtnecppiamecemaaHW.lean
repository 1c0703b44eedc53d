/- Chapter 21, plain: what HeightMissing asks of its four lists. -/
import Derived.Test.YtnecppiamecemaaHV
namespace Go.Proofs.Ytnecppiamecemaa

theorem set_eq {α : Type} (t : List α) (j : Nat) (x : α) (hj : j < t.length) : t.set j x = t.take j ++ [x] ++ t.drop (j + 1) := by
  rw [List.set_eq_take_append_cons_drop, if_pos hj, List.append_assoc]; rfl
theorem set_two {α : Type} (x y : α) : ∀ (t : List α) (j : Nat), j + 1 < t.length → (t.set j x).set (j + 1) y = t.take j ++ [x, y] ++ t.drop (j + 2)
  | [], j, h => by simp at h
  | [_], j, h => by simp at h
  | a :: b :: t, 0, _ => rfl
  | a :: t, j + 1, h => by
    have := set_two x y t j (by simp at h; omega)
    rw [List.set_cons_succ, List.set_cons_succ, this]; rfl
theorem Reads.at_ {s : Su} {l : List Br} {t : List UInt8} {k : Nat} {b : Br} (h : Reads s l t) (hb : l[k]? = some b) : ∃ (j : Nat) (c : UInt8), plc s b = some (j : Int) ∧ t[j]? = some c ∧ letter s b = c := h.has b (List.mem_of_getElem? hb)
theorem miss_less (s : Su) (l : List Br) (t : List UInt8) (k j : Nat) (b : Br) (hs : Okay s) (h : Reads s l t) (hb : l[k]? = some b) (hj : plc s b = some (j : Int)) (hjt : j < t.length) : errOf s (less l k) = 0 ∧ readOf s (less l k) = t.take j ++ [63] ++ t.drop (j + 1) := by
  have hr := less_reads s l t k j b h hb hj
  exact ⟨hr.err hs, by rw [hr.read hs, set_eq t j 63 hjt]⟩
theorem miss_dup (s : Su) (l : List Br) (t : List UInt8) (k : Nat) (b : Br) (hs : Okay s) (h : Reads s l t) (hl : l.length < 400) (hb : l[k]? = some b) : errOf s (l ++ [b]) = 210 := by
  have hm := List.mem_of_getElem? hb
  refine err210 s _ hs (by rw [List.length_append, List.length_singleton]; omega) (fun x hx => ?_) fun hf => ?_
  · rcases List.mem_append.1 hx with hx | hx
    · exact h.inb x hx
    · simp at hx; subst hx; exact h.inb x hm
  · exact ((fit_snoc s l b).1 hf).2.2 b hm rfl
theorem miss_moved (s : Su) (l : List Br) (t : List UInt8) (k : Nat) (b : Br) (hs : Okay s) (h : Reads s l t) (hb : l[k]? = some b) : errOf s (l.set k ⟨s.og + s.pl * s.pi, b.up, b.dn⟩) = 210 := by
  have hk := (List.getElem?_eq_some_iff.1 hb).1
  have hbi := h.inb b (List.mem_of_getElem? hb)
  obtain ⟨a1, a2, a3, a4, a5, a6, a7, a8, a9, a10, a11⟩ := id hs
  have hkp := kpi s s.pl hs (by omega) (by omega)
  have hg : (l.set k ⟨s.og + s.pl * s.pi, b.up, b.dn⟩)[k]? = some ⟨s.og + s.pl * s.pi, b.up, b.dn⟩ := by rw [List.getElem?_set_self hk]
  refine err210 s _ hs (by rw [List.length_set]; exact h.ll) (fun x hx => ?_) (not_fit0 s _ k _ hg ?_)
  · rcases List.mem_or_eq_of_mem_set hx with hx | rfl
    · exact h.inb x hx
    · unfold InB at hbi ⊢; simp only; omega
  · unfold plc
    simp only
    split
    · rfl
    · have e : s.og + s.pl * s.pi - s.og + s.sl = s.sl + s.pl * s.pi := by omega
      rw [e, Int.add_mul_ediv_right _ _ (show s.pi ≠ 0 by omega)]
      have := Int.ediv_nonneg (a := s.sl) (b := s.pi) (by omega) (by omega)
      rw [if_neg (by omega)]
theorem mkb_at (s : Su) (c : UInt8) (j : Nat) (hs : Okay s) : ((mkb s c j).po - s.og) / s.pi = j := by
  have := hs.2.2.1
  unfold mkb
  simp only
  rw [show s.og + (j : Int) * s.pi - s.og = (j : Int) * s.pi from by omega, Int.mul_ediv_cancel _ (by omega)]
def btw (s : Su) (b : Br) : Br := ⟨b.po + s.sl + 1, s.lo, s.lo⟩
theorem btw_in (s : Su) (b : Br) (hs : Okay s) (h : InB b) (hp : b.po + s.sl + 1 ≤ 1073741824) : InB (btw s b) := by
  obtain ⟨a1, a2, a3, a4, a5, a6, a7, a8, a9, a10, a11⟩ := id hs
  unfold InB btw at *; simp only at *; omega
theorem btw_none (s : Su) (c : UInt8) (j : Nat) (hs : Okay s) (h : 2 * s.sl + 1 ≠ s.pi) : plc s (btw s (mkb s c j)) = none := by
  obtain ⟨a1, a2, a3, a4, a5, a6, a7, a8, a9, a10, a11⟩ := id hs
  unfold plc btw mkb
  simp only
  have e : s.og + (j : Int) * s.pi + s.sl + 1 - s.og + s.sl = (2 * s.sl + 1) + (j : Int) * s.pi := by omega
  rw [e, Int.add_mul_emod_self_right, Int.emod_eq_of_lt (a := 2 * s.sl + 1) (by omega) (by omega)]
  rw [if_pos (.inr (by omega))]
theorem btw_next (s : Su) (c : UInt8) (j : Nat) (hs : Okay s) (h : 2 * s.sl + 1 = s.pi) : plc s (btw s (mkb s c j)) = if (j : Int) + 1 < s.pl then some ((j : Int) + 1) else none := by
  obtain ⟨a1, a2, a3, a4, a5, a6, a7, a8, a9, a10, a11⟩ := id hs
  have hm : (0 : Int) ≤ ((j : Int) + 1) * s.pi := Int.mul_nonneg (by omega) (by omega)
  unfold plc btw mkb
  simp only
  have e : s.og + (j : Int) * s.pi + s.sl + 1 - s.og + s.sl = ((j : Int) + 1) * s.pi := by rw [Int.add_mul]; omega
  rw [e, Int.mul_emod_left, Int.mul_ediv_cancel _ (show s.pi ≠ 0 by omega), if_neg (by omega)]
theorem btw_letter (s : Su) (b : Br) (hs : Okay s) : letter s (btw s b) = 84 := by
  have := hs.2.2.2.2.2.2.2.2.2.1
  unfold letter btw; simp only
  rw [if_neg (by omega), if_neg (by omega), if_neg (by omega), if_neg (by omega)]
theorem miss_far (s : Su) (l : List Br) (t : List UInt8) (k j : Nat) (c : UInt8) (hs : Okay s) (h : Reads s l t) (hl : l.length < 400) (hb : l[k]? = some (mkb s c j)) (hj : (j : Int) < s.pl) (hp : (mkb s c j).po + s.sl + 1 ≤ 1073741824)
    (hn : ¬ (2 * s.sl + 1 = s.pi ∧ (j : Int) + 1 < s.pl ∧ t[j + 1]? = some 63)) : errOf s (less l k ++ [btw s (mkb s c j)]) = 210 := by
  have hsub := less_sub l k
  have hpj := mkb_plc s c j hs hj
  refine err210 s _ hs (by rw [List.length_append, List.length_singleton]; have := hsub.length_le; omega) (fun x hx => ?_) fun hf => ?_
  · rcases List.mem_append.1 hx with hx | hx
    · exact h.inb x (hsub.subset hx)
    · simp at hx; subst hx; exact btw_in s _ hs (h.inb _ (List.mem_of_getElem? hb)) hp
  · obtain ⟨_, h2, h3⟩ := (fit_snoc s _ _).1 hf
    by_cases h1 : 2 * s.sl + 1 = s.pi
    · rw [btw_next s c j hs h1] at h2 h3
      split at h2
      · rename_i hlt
        rw [if_pos hlt] at h3
        have hjt : j + 1 < t.length := by have := h.tl; omega
        have hg := List.getElem?_eq_getElem hjt
        have hc : t[j + 1] ≠ 63 := fun e => hn ⟨h1, hlt, by rw [hg, e]⟩
        obtain ⟨b', hb', he'⟩ := h.all (j + 1) _ hg hc
        rcases less_mem l k _ hb b' hb' with rfl | hm
        · rw [hpj] at he'; injection he' with he'; omega
        · exact h3 b' hm (by rw [he']; congr 1)
      · cases h2
    · rw [btw_none s c j hs h1] at h2; cases h2
theorem miss_next (s : Su) (l : List Br) (t : List UInt8) (k j : Nat) (c : UInt8) (hs : Okay s) (h : Reads s l t) (hl : l.length < 400) (hb : l[k]? = some (mkb s c j)) (hp : (mkb s c j).po + s.sl + 1 ≤ 1073741824)
    (h1 : 2 * s.sl + 1 = s.pi) (h2 : (j : Int) + 1 < s.pl) (h3 : t[j + 1]? = some 63) (hne : ∀ x ∈ l, letter s x ≠ 63) : errOf s (less l k ++ [btw s (mkb s c j)]) = 0 ∧ readOf s (less l k ++ [btw s (mkb s c j)]) = t.take j ++ [63, 84] ++ t.drop (j + 2) := by
  have hpj := mkb_plc s c j hs (by omega)
  have hsub := less_sub l k
  have hjt : j + 1 < t.length := (List.getElem?_eq_some_iff.1 h3).1
  have hr := snoc_reads s (less l k) (t.set j 63) (j + 1) (btw s (mkb s c j)) 84 (less_reads s l t k j _ h hb hpj) (by have := hsub.length_le; omega)
    (btw_in s _ hs (h.inb _ (List.mem_of_getElem? hb)) hp) (by rw [btw_next s c j hs h1, if_pos h2]; rfl) (by rw [List.getElem?_set_ne (by omega), h3]) (btw_letter s _ hs) (by
      rintro ⟨x, hx, e⟩
      obtain ⟨i, c', e1, e2, e3⟩ := (less_reads s l t k j _ h hb hpj).has x hx
      rw [e] at e1; injection e1 with e1
      have : i = j + 1 := by omega
      subst this
      obtain ⟨i', c'', f1, f2, f3⟩ := h.has x (hsub.subset hx)
      rw [e] at f1; injection f1 with f1
      have : i' = j + 1 := by omega
      subst this
      rw [h3] at f2; injection f2 with f2
      exact hne x (hsub.subset hx) (by rw [f3, f2]))
  refine ⟨hr.err hs, ?_⟩
  rw [hr.read hs, set_two 63 84 t j hjt]
end Go.Proofs.Ytnecppiamecemaa
