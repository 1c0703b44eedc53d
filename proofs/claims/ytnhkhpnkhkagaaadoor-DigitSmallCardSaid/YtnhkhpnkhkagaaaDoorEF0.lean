/- Append by Check. -/
import Derived.Test.YtnhkhpnkhkagaaaDoorEF
namespace Go.Proofs.YtnhkhpnkhkagaaaDoor
open Go.RowKit
/- Append, told by Check. -/
theorem app_yes {k : Nat} {ws : List Int} {t : List UInt8} (h : (checkR k ws t).2 = 0) : (appendR k ws t).1 = t ++ [(checkR k ws t).1] := by unfold appendR; rw [if_pos h]
theorem app_no {k : Nat} {ws : List Int} {t : List UInt8} (h : ¬ (checkR k ws t).2 = 0) : (appendR k ws t).1 = [] := by unfold appendR; rw [if_neg h]
theorem app_err {k : Nat} {ws : List Int} {t : List UInt8} : (appendR k ws t).2 = (checkR k ws t).2 := by unfold appendR; split <;> simp_all
theorem missR_len (k : Nat) (ws : List Int) (n : Int) : (missR k ws n).1.length ≤ 10000 := by
  unfold missR
  split
  · exact Nat.zero_le _
  · split
    · exact Nat.zero_le _
    · show (missL k ws n.toNat).length ≤ _
      rw [← mO_end, ← mA_end (p := n.toNat - 1) (by rw [if_pos rfl]), ← mB_start, ← mC_start]
      exact mC_len k ws _ 1 _ 0 1 (by omega) (by omega) (by omega) (by omega) (by omega)
end Go.Proofs.YtnhkhpnkhkagaaaDoor
