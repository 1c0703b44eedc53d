/- Plain: the equations of what was added at some places; the places that are erased. -/
import Derived.Test.YtjhgihgggofocaaSF
namespace Go.Proofs.Ytjhgihgggofocaa
open Go.RowKit
def eqM (n : Nat) (P sL : List Nat) : Mx := fun r c => if c = 4 then cf sL r else if c < P.length then pw ((r + 1) * (n - 1 - cf P c) % 63) else 0
def stO (n : Nat) (P sL : List Nat) (row : Nat) : Mx := fun r c => if r < row then eqM n P sL r c else 0
def stI (n : Nat) (P sL : List Nat) (row j : Nat) : Mx := fun r c => if r < row ∨ r = row ∧ c < j then eqM n P sL r c else 0
theorem stO_zero (n : Nat) (P sL : List Nat) : stO n P sL 0 = fun _ _ => 0 := by funext r c; unfold stO; rw [if_neg (by omega)]
theorem stO_end (n : Nat) (P sL : List Nat) : mc (stO n P sL 4) = mc (eqM n P sL) := mc_ext fun r c hr _ => by unfold stO; rw [if_pos hr]
theorem stI_zero (n : Nat) (P sL : List Nat) (row : Nat) : stI n P sL row 0 = stO n P sL row := by
  funext r c; unfold stI stO
  by_cases h : r < row
  · rw [if_pos (.inl h), if_pos h]
  · rw [if_neg (by omega), if_neg h]
theorem stI_more {n : Nat} {P sL : List Nat} {row j p : Nat} (hP : P.length ≤ 4) (hp : P[j]? = some p) : upd (stI n P sL row j) row j (pw ((row + 1) * (n - 1 - p) % 63)) = stI n P sL row (j + 1) := by
  have hj := (List.getElem?_eq_some_iff.1 hp).1
  have hc := cf_some hp
  funext r c
  unfold upd stI
  by_cases e : r = row ∧ c = j
  · rw [if_pos e, if_pos (by omega)]
    obtain ⟨rfl, rfl⟩ := e
    unfold eqM
    rw [if_neg (by omega), if_pos hj, hc]
  · rw [if_neg e]
    by_cases h : r < row ∨ r = row ∧ c < j
    · rw [if_pos h, if_pos (by omega)]
    · rw [if_neg h, if_neg (by omega)]
theorem stI_end {n : Nat} {P sL : List Nat} {row : Nat} : mc (upd (stI n P sL row P.length) row 4 (cf sL row)) = mc (stO n P sL (row + 1)) := mc_ext fun r c _ hc => by
  unfold upd stI stO
  by_cases e : r = row ∧ c = 4
  · rw [if_pos e, if_pos (by omega)]
    obtain ⟨rfl, rfl⟩ := e
    unfold eqM; rw [if_pos rfl]
  · rw [if_neg e]
    by_cases h : r < row ∨ r = row ∧ c < P.length
    · rw [if_pos h, if_pos (by omega)]
    · rw [if_neg h]
      by_cases h2 : r < row + 1
      · rw [if_pos h2]
        unfold eqM
        rw [if_neg (by omega), if_neg (by omega)]
      · rw [if_neg h2]
theorem pw64 (n : Nat) : pw (n % 63) < 64 := (pw_lt _ (Nat.mod_lt _ (by omega))).2
theorem eqM_el {n : Nat} {P sL : List Nat} (h : El sL) : EM (eqM n P sL) := fun r c _ _ => by
  unfold eqM; split
  · exact h.cf r
  · split
    · exact pw64 _
    · decide
def goneC (er : List Nat) : List Value := (List.range 63).map fun i => .bool (decide (i ∈ er))
theorem goneC_len (er : List Nat) : (goneC er).length = 63 := by simp [goneC]
theorem goneC_at (er : List Nat) {i : Nat} (h : i < 63) : (goneC er)[i]? = some (.bool (decide (i ∈ er))) := by unfold goneC; rw [List.getElem?_map, List.getElem?_range h]; rfl
theorem goneC_nil : List.replicate 63 (Value.bool false) = goneC [] := by
  apply List.ext_getElem?
  intro i
  rcases Nat.lt_or_ge i 63 with h | h
  · rw [goneC_at _ h, List.getElem?_replicate_of_lt h]; simp
  · rw [List.getElem?_eq_none (by simpa using h), List.getElem?_eq_none (by rw [goneC_len]; exact h)]
theorem goneC_set (er : List Nat) (p : Nat) : (goneC er).set (p * 1) (.bool true) = goneC (er ++ [p]) := by
  apply List.ext_getElem?
  intro i
  rcases Nat.lt_or_ge i 63 with h | h
  · rw [List.getElem?_set, goneC_len, goneC_at _ h, goneC_at _ h]
    by_cases e : p * 1 = i
    · rw [if_pos e, if_pos (by omega), decide_eq_true (show i ∈ er ++ [p] by simp; omega)]
    · rw [if_neg e]
      congr 2
      rw [decide_eq_decide]
      simp; omega
  · rw [List.getElem?_eq_none (by rw [List.length_set, goneC_len]; exact h), List.getElem?_eq_none (by rw [goneC_len]; exact h)]
end Go.Proofs.Ytjhgihgggofocaa
