/- Plain: texts that are rejected. -/
import Derived.Test.YtgafkbnlhlbmkaaBW
import Derived.Test.YtgafkbnlhlbmkaaBFR
namespace Go.Proofs.Ytgafkbnlhlbmkaa
open Go.RowKit
def lng : Nat → List UInt8 → List UInt8
  | 0, t => t
  | n + 1, t => lng n t ++ [84, 65, 68]
theorem lng_len (n : Nat) (t : List UInt8) : (lng n t).length = t.length + 3 * n := by
  induction n with
  | zero => rfl
  | succ n ih => unfold lng; rw [List.length_append, ih]; simp; omega
theorem read_long {t : List UInt8} (h : 200 < t.length) : readB t = ([], [], 3) := by rw [read_err (by rw [errB_long (by omega)]; decide), errB_long (by omega)]
theorem turn_long {t : List UInt8} (h : 200 < t.length) : turnB t = ([], 3) := by unfold turnB; rw [if_neg (by rw [errB_long (by omega)]; decide), errB_long (by omega)]
theorem frame_long {t : List UInt8} (h : 196 < t.length) : frameB t = ([], 3) := by unfold frameB; rw [if_neg (by rw [errB_long (by omega)]; decide), errB_long (by omega)]
theorem unf_long {t : List UInt8} (h : 200 < t.length) : unframeB t = ([], false, 3) := by rw [unf_err (by rw [errB_long (by omega)]; decide), errB_long (by omega)]
theorem read_bad {t : List UInt8} (h : t.length ≤ 200) (ha : t.all isL = false) : readB t = ([], [], 2) := by rw [read_err (by rw [errB_bad (by omega) ha]; decide), errB_bad (by omega) ha]
theorem turn_bad {t : List UInt8} (h : t.length ≤ 200) (ha : t.all isL = false) : turnB t = ([], 2) := by unfold turnB; rw [if_neg (by rw [errB_bad (by omega) ha]; decide), errB_bad (by omega) ha]
theorem frame_bad {t : List UInt8} (h : t.length ≤ 196) (ha : t.all isL = false) : frameB t = ([], 2) := by unfold frameB; rw [if_neg (by rw [errB_bad (by omega) ha]; decide), errB_bad (by omega) ha]
theorem unf_bad {t : List UInt8} (h : t.length ≤ 200) (ha : t.all isL = false) : unframeB t = ([], false, 2) := by rw [unf_err (by rw [errB_bad (by omega) ha]; decide), errB_bad (by omega) ha]
theorem set_bad {t : List UInt8} {i : Nat} {b : UInt8} (hi : i < t.length) (hb : isL b = false) : (t.set i b).all isL = false := by
  rw [List.all_eq_false]
  exact ⟨b, List.mem_of_getElem? (List.getElem?_set_self hi), by rw [hb]; decide⟩
theorem bads {b : UInt8} {i : Nat} (h : ([116, 32, 88, 0, 200] : List UInt8)[i]? = some b) : isL b = false := by
  have := List.mem_of_getElem? h
  have key : ∀ b ∈ ([116, 32, 88, 0, 200] : List UInt8), isL b = false := by decide
  exact key b this
end Go.Proofs.Ytgafkbnlhlbmkaa
