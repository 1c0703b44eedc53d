/- Plain: reading. -/
import Derived.Test.YtgafkbnlhlbmkaaBX
import Derived.Lib.IndexLaws
namespace Go.Proofs.Ytgafkbnlhlbmkaa
open Go.RowKit
abbrev encZ (x : Nat) : List Value := [.int .i64 (x : Int)]
theorem encZ_len (x : Nat) : (encZ x).length = 1 := rfl
def part (t : List UInt8) (k : Nat) : List UInt8 := (t.take (3 * k + 3)).drop (3 * k)
def unc (t : List UInt8) (k : Nat) : Bool := decide (0 ≤ Lib.indexByte (part t k) 63)
def num (c : UInt8) : Nat := (Lib.indexByte s4 c).toNat
def accN (l : List UInt8) : Nat := l.foldl (fun s c => s * 4 + num c) 0
def symB (t : List UInt8) (k : Nat) : UInt8 := if unc t k then 0 else UInt8.ofNat (accN (part t k))
def symsL (t : List UInt8) (n : Nat) : List UInt8 := (List.range n).map (symB t)
def erasL (t : List UInt8) (n : Nat) : List Nat := (List.range n).filter (unc t)
def readB (t : List UInt8) : List UInt8 × List Nat × Int := if errB 0 t = 0 then (if t.length % 3 = 0 then (symsL t (t.length / 3), erasL t (t.length / 3), 0) else ([], [], 2)) else ([], [], errB 0 t)
theorem read_err {t : List UInt8} (h : ¬ errB 0 t = 0) : readB t = ([], [], errB 0 t) := by unfold readB; rw [if_neg h]
theorem read_len {t : List UInt8} (h : errB 0 t = 0) (h3 : ¬ t.length % 3 = 0) : readB t = ([], [], 2) := by unfold readB; rw [if_pos h, if_neg h3]
theorem read_ok {t : List UInt8} (h : errB 0 t = 0) (h3 : t.length % 3 = 0) : readB t = (symsL t (t.length / 3), erasL t (t.length / 3), 0) := by unfold readB; rw [if_pos h, if_pos h3]
theorem syms_len (t : List UInt8) (n : Nat) : (symsL t n).length = n := by simp [symsL]
theorem eras_len (t : List UInt8) (n : Nat) : (erasL t n).length ≤ n := by have := List.length_filter_le (unc t) (List.range n); simpa [erasL] using this
theorem syms_more (t : List UInt8) (n : Nat) : symsL t (n + 1) = symsL t n ++ [symB t n] := by unfold symsL; rw [List.range_succ, List.map_append]; rfl
theorem eras_yes {t : List UInt8} {n : Nat} (h : unc t n = true) : erasL t (n + 1) = erasL t n ++ [n] := by unfold erasL; rw [List.range_succ, List.filter_append]; simp [h]
theorem eras_no {t : List UInt8} {n : Nat} (h : unc t n = false) : erasL t (n + 1) = erasL t n := by unfold erasL; rw [List.range_succ, List.filter_append]; simp [h]
theorem part_len {t : List UInt8} {k : Nat} (h : 3 * k + 3 ≤ t.length) : (part t k).length = 3 := by unfold part; rw [List.length_drop, List.length_take]; omega
theorem part_mem {t : List UInt8} {k : Nat} {c : UInt8} (h : c ∈ part t k) : c ∈ t := List.mem_of_mem_take (List.mem_of_mem_drop h)
/-- A letter that is clear has its number. -/
theorem num_of {c : UInt8} (h : isL c = true) (h2 : c ≠ 63) : Lib.indexByte s4 c = (num c : Int) ∧ num c ≤ 3 := by
  have hc := of_decide_eq_true h
  have h63 : c.toNat ≠ 63 := fun e => h2 (UInt8.toNat_inj.1 e)
  have key : c = 84 ∨ c = 65 ∨ c = 68 ∨ c = 70 := by
    rcases hc with h | h | h | h | h
    · exact .inl (UInt8.toNat_inj.1 h)
    · exact .inr (.inl (UInt8.toNat_inj.1 h))
    · exact .inr (.inr (.inl (UInt8.toNat_inj.1 h)))
    · exact .inr (.inr (.inr (UInt8.toNat_inj.1 h)))
    · exact absurd h h63
  rcases key with rfl | rfl | rfl | rfl <;> exact ⟨by decide +kernel, by decide +kernel⟩
theorem acc_more {l : List UInt8} {j : Nat} {c : UInt8} (h : l[j]? = some c) : accN (l.take (j + 1)) = accN (l.take j) * 4 + num c := by
  rw [List.take_add_one, h, Option.toList_some]
  unfold accN
  rw [List.foldl_append]; rfl
theorem no_unc {t : List UInt8} {k : Nat} (h : ¬ 0 ≤ Lib.indexByte (part t k) 63) : unc t k = false ∧ ∀ c ∈ part t k, c ≠ 63 := by
  refine ⟨decide_eq_false h, fun c hc e => ?_⟩
  subst e
  have hge := Lib.indexByte_ge (part t k) 63
  obtain ⟨i, hi⟩ := List.mem_iff_getElem?.1 hc
  exact Lib.indexByte_none (by omega) i hi
theorem sym_unc {t : List UInt8} {k : Nat} (h : 0 ≤ Lib.indexByte (part t k) 63) : unc t k = true ∧ symB t k = 0 := by
  have : unc t k = true := decide_eq_true h
  exact ⟨this, by unfold symB; rw [this]; rfl⟩
theorem sym_clear {t : List UInt8} {k : Nat} (h : unc t k = false) : symB t k = UInt8.ofNat (accN (part t k)) := by unfold symB; rw [h]; rfl
end Go.Proofs.Ytgafkbnlhlbmkaa
