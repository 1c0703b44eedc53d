/- Plain: framed texts, one letter bent. -/
import Derived.Test.YtgafkbnlhlbmkaaBS
import Derived.Test.YtgafkbnlhlbmkaaLN
namespace Go.Proofs.Ytgafkbnlhlbmkaa
open Go.RowKit
abbrev frm (T : List UInt8) : List UInt8 := [65, 84] ++ T ++ [70, 68]
theorem frm_len (T : List UInt8) : (frm T).length = T.length + 4 := by simp
theorem frm_at (T : List UInt8) : (frm T)[0]? = some 65 ∧ (frm T)[1]? = some 84 ∧ (frm T)[T.length + 2]? = some 70 ∧ (frm T)[T.length + 3]? = some 68 := by
  refine ⟨rfl, rfl, ?_, ?_⟩
  · show ((65 : UInt8) :: 84 :: (T ++ [70, 68]))[T.length + 2]? = _
    simp
  · show ((65 : UInt8) :: 84 :: (T ++ [70, 68]))[T.length + 3]? = _
    simp
theorem frm_all {T : List UInt8} (h : T.all isL = true) : (frm T).all isL = true := by
  rw [List.all_append, List.all_append, h]; rfl
theorem turn_at {G : List UInt8} {i : Nat} (h : i < G.length) : (turnL G)[i]? = (G[G.length - 1 - i]?).map flip := by
  unfold turnL
  rw [List.getElem?_reverse (by simpa using h), List.length_map, List.getElem?_map]
theorem flip_eq {a b : UInt8} : flip a = b ↔ a = flip b := ⟨fun h => by rw [← h, flip_flip], fun h => by rw [h, flip_flip]⟩
theorem bent_no {T : List UInt8} {p : Nat} {c : UInt8} (hT : T.all isL = true) (hl : T.length ≤ 190) (hc : isL c = true) (hp : p = 0 ∨ p = 1 ∨ p = T.length + 2 ∨ p = T.length + 3) (hne : (frm T)[p]? ≠ some c) : unframeB ((frm T).set p c) = ([], false, 200) := by
  obtain ⟨f0, f1, f2, f3⟩ := frm_at T
  have hlen := frm_len T
  have hG : ((frm T).set p c).length = T.length + 4 := by rw [List.length_set]; exact hlen
  have hat : ∀ q, q ≠ p → ((frm T).set p c)[q]? = (frm T)[q]? := fun q h => List.getElem?_set_ne (Ne.symm h)
  have hself : ((frm T).set p c)[p]? = some c := List.getElem?_set_self (by omega)
  have hall : ((frm T).set p c).all isL = true := by
    rw [List.all_eq_true]
    intro x hx
    rcases List.mem_or_eq_of_mem_set hx with h | h
    · exact List.all_eq_true.1 (frm_all hT) x h
    · subst h; exact hc
  have he : errB 0 ((frm T).set p c) = 0 := err_0 (by omega) hall
  generalize (frm T).set p c = G at *
  have n2 : G.length - 2 = T.length + 2 := by omega
  have n1 : G.length - 1 = T.length + 3 := by omega
  refine unf_no he ?_ ?_
  · cases hf : framed G with
    | false => rfl
    | true =>
      obtain ⟨_, g0, g1, g2, g3⟩ := framed_at.1 hf
      rw [n2] at g2; rw [n1] at g3
      exfalso
      rcases hp with rfl | rfl | rfl | rfl
      · exact hne (by rw [f0, ← g0, hself])
      · exact hne (by rw [f1, ← g1, hself])
      · exact hne (by rw [f2, ← g2, hself])
      · exact hne (by rw [f3, ← g3, hself])
  · cases hf : framed (turnL G) with
    | false => rfl
    | true =>
      obtain ⟨_, _, g1, g2, _⟩ := framed_at.1 hf
      rw [turnL_len] at g2
      rw [turn_at (by omega), show G.length - 1 - 1 = T.length + 2 by omega] at g1
      rw [turn_at (by omega), show G.length - 1 - (G.length - 2) = 1 by omega] at g2
      exfalso
      by_cases h1 : p = 1
      · rw [hat (T.length + 2) (by omega), f2] at g1; cases g1
      · rw [hat 1 (fun e => h1 e.symm), f1] at g2; cases g2
theorem frm_up {T : List UInt8} (hT : T.all isL = true) (hl : T.length ≤ 190) : unframeB (frm T) = (T, false, 0) := by
  have he : errB 0 (frm T) = 0 := err_0 (by rw [frm_len]; omega) (frm_all hT)
  obtain ⟨f0, f1, f2, f3⟩ := frm_at T
  have hf : framed (frm T) = true := framed_at.2 ⟨by rw [frm_len]; omega, f0, f1, by rw [frm_len]; exact f2, by rw [frm_len]; exact f3⟩
  rw [unf_up he hf]
  have : inner (frm T) = T := by
    unfold inner
    rw [frm_len, show T.length + 4 - 2 = ([65, 84] ++ T).length by simp, show frm T = ([65, 84] ++ T) ++ [70, 68] from rfl, List.take_left]
    rfl
  rw [this]
theorem frm_dn {T : List UInt8} (hT : T.all isL = true) (hl : T.length ≤ 190) : unframeB (turnL (frm T)) = (T, true, 0) := by
  have he : errB 0 (turnL (frm T)) = 0 := err_0 (by rw [turnL_len, frm_len]; omega) (turn_all (frm_all hT))
  obtain ⟨f0, f1, f2, f3⟩ := frm_at T
  have hf : framed (frm T) = true := framed_at.2 ⟨by rw [frm_len]; omega, f0, f1, by rw [frm_len]; exact f2, by rw [frm_len]; exact f3⟩
  have hn : framed (turnL (frm T)) = false := by
    cases h : framed (turnL (frm T)) with
    | false => rfl
    | true =>
      obtain ⟨_, _, g1, _⟩ := framed_at.1 h
      rw [turn_at (by rw [frm_len]; omega), show (frm T).length - 1 - 1 = T.length + 2 by rw [frm_len]; omega, f2] at g1
      cases g1
  have hup := frm_up hT hl
  rw [unf_up (err_0 (by rw [frm_len]; omega) (frm_all hT)) hf] at hup
  rw [unf_dn he hn (by rw [turn_turn]; exact hf), turn_turn]
  injection hup with hup _
  rw [hup]
theorem Mkd.cells {w : World} {g : Nat} {e : TypeId} {l : List UInt8} (h : Mkd w g e l) : Cells w ⟨g, 0, none⟩ (l.flatMap encB) := by
  obtain ⟨tl, hg⟩ := h
  intro j u hu
  rw [add_at, cell_of_row w g _ _ e _ hg, List.getElem?_toArray, List.getElem?_append_left (List.getElem?_eq_some_iff.1 hu).1]
  exact hu
theorem flat_b {l : List UInt8} {i : Nat} {c : UInt8} (h : l[i]? = some c) : (l.flatMap encB)[i * 1]? = some (.int .u8 c.toNat) := by
  have := getElem?_flatMap_at encB_len l i c h 0 _ rfl
  simpa using this
theorem ltr_s5 {n : Nat} (h : n < 5) : s5[n]? = some (ltr n) := by
  match n, h with
  | 0, _ => rfl
  | 1, _ => rfl
  | 2, _ => rfl
  | 3, _ => rfl
  | 4, _ => rfl
theorem frameB_ok {T : List UInt8} (hT : T.all isL = true) (hl : T.length ≤ 190) : frameB T = (frm T, 0) := by unfold frameB; rw [if_pos (err_0 (by omega) hT)]
theorem ends_of {n p i : Nat} (h : [0, 1, n + 2, n + 3][i]? = some p) : p = 0 ∨ p = 1 ∨ p = n + 2 ∨ p = n + 3 := by
  have := List.mem_of_getElem? h
  simpa using this
end Go.Proofs.Ytgafkbnlhlbmkaa
