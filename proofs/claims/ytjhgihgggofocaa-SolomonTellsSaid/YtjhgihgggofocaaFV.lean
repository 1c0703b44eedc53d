/- Chapter 18: check, of one list and of two; powers of whatever sign; roots as far as they have been looked for. -/
import Derived.Test.YtjhgihgggofocaaFB
namespace Go.Proofs.Ytjhgihgggofocaa
theorem check1_ret (u v : Value) (l : List Nat) (w : World) (hu : RdL w 1 encV u [v]) (h : RdL w 1 encN v l) : Ret Try.prog 49 [u] w (fun v w' => v = .int .i64 (errL [l]) ∧ Ex w w') :=
  check_ret u [v] [l] w hu rfl (by simp) fun i v' l' h1 h2 => by
    cases i with
    | zero => simp at h1 h2; subst h1; subst h2; exact h
    | succ i => simp at h1
theorem check2_ret (u v1 v2 : Value) (l1 l2 : List Nat) (w : World) (hu : RdL w 1 encV u [v1, v2]) (h1 : RdL w 1 encN v1 l1) (h2 : RdL w 1 encN v2 l2) : Ret Try.prog 49 [u] w (fun v w' => v = .int .i64 (errL [l1, l2]) ∧ Ex w w') :=
  check_ret u [v1, v2] [l1, l2] w hu rfl (by simp) fun i v' l' e1 e2 => by
    rcases i with _ | _ | i
    · simp at e1 e2; subst e1; subst e2; exact h1
    · simp at e1 e2; subst e1; subst e2; exact h2
    · simp at e1
theorem errL1 {l : List Nat} (h : errL [l] = 0) : l.length ≤ 128 ∧ El l := errL_zero h l (by simp)
theorem errL2 {l m : List Nat} (h : errL [l, m] = 0) : (l.length ≤ 128 ∧ El l) ∧ m.length ≤ 128 ∧ El m := ⟨errL_zero h l (by simp), errL_zero h m (by simp)⟩
theorem errL_ne {ls : List (List Nat)} (h : ¬ errL ls = 0) : errL ls = 2 ∨ errL ls = 3 := by
  unfold errL at *; split at h <;> simp_all
def pwr (a : Nat) (n : Int) : Nat := if n = 0 then 1 else if a = 0 then 0 else pw (lg a * (n % 63).toNat % 63)
def pwE (a : Nat) (n : Int) : Int := if errL [[a]] = 0 then (if a = 0 ∧ n < 0 then 6 else 0) else errL [[a]]
theorem rem63 (n : Int) : ∃ t : Int, Int.tmod n 63 = t ∧ -63 < t ∧ t < 63 ∧ (t + 63) % 63 = n % 63 := by
  refine ⟨_, rfl, ?_⟩
  have h1 := Int.tmod_add_mul_tdiv n 63
  have h2 := Int.tmod_lt_of_pos n (show (0 : Int) < 63 by omega)
  have h3 := Int.lt_tmod_of_pos n (show (0 : Int) < 63 by omega)
  refine ⟨by omega, h2, ?_⟩
  generalize Int.tmod n 63 = t at *
  generalize Int.tdiv n 63 = q at *
  omega
def rootsTo (p : List Nat) (k : Nat) : List Nat := (List.range k).filter fun x => Nat.beq (evl p x) 0
theorem rootsTo_hit {p : List Nat} {k : Nat} (h : evl p k = 0) : rootsTo p (k + 1) = rootsTo p k ++ [k] := by
  unfold rootsTo; rw [List.range_succ, List.filter_append]; simp [h]
theorem rootsTo_miss {p : List Nat} {k : Nat} (h : evl p k ≠ 0) : rootsTo p (k + 1) = rootsTo p k := by
  unfold rootsTo; rw [List.range_succ, List.filter_append]; simp [beq_no h]
theorem rootsTo_len (p : List Nat) (k : Nat) : (rootsTo p k).length ≤ k := by
  have := List.length_filter_le (fun x => Nat.beq (evl p x) 0) (List.range k)
  rw [List.length_range] at this; exact this
end Go.Proofs.Ytjhgihgggofocaa
