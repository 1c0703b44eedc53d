/- Chapter 18, plain: the reference's steps (a seat that has not the whole of layer 18). -/
import Derived.Test.YtjhgihgggofocaaSD
import Derived.Test.YtjhgihgggofocaaLI
namespace Go.Proofs.Ytjhgihgggofocaa
theorem rmA_lt (a b : Nat) (ha : a < 64) : ∀ n, n ≤ 6 → rmA a b n 0 < 4096
  | 0, _ => by show 0 < 4096; omega
  | n + 1, hn => by
    have ih := rmA_lt a b ha n (by omega)
    have hs : a <<< n < 4096 := by
      rw [Nat.shiftLeft_eq]
      have : 2 ^ n ≤ 2 ^ 5 := Nat.pow_le_pow_right (by omega) (by omega)
      calc a * 2 ^ n ≤ 63 * 2 ^ 5 := Nat.mul_le_mul (by omega) this
        _ < 4096 := by decide
    unfold rmA
    simp only
    cases Nat.beq (b >>> n % 2) 1 with
    | true => exact Nat.xor_lt_two_pow (n := 12) ih hs
    | false => exact ih
theorem rmA_hit {a b n : Nat} (h : b >>> n % 2 = 1) : rmA a b (n + 1) 0 = rmA a b n 0 ^^^ a <<< n := by
  rw [rmA]; rw [h]; rfl
theorem rmA_miss {a b n : Nat} (h : b >>> n % 2 ≠ 1) : rmA a b (n + 1) 0 = rmA a b n 0 := by
  rw [rmA]; rw [beq_no h]; rfl
theorem rmB_hit {n p : Nat} (h : p >>> (n + 6) % 2 = 1) : rmB (n + 1) p = rmB n (p ^^^ 67 <<< n) := by rw [rmB, h]; rfl
theorem rmB_miss {n p : Nat} (h : p >>> (n + 6) % 2 ≠ 1) : rmB (n + 1) p = rmB n p := by rw [rmB, beq_no h]; rfl
theorem sh67 {n : Nat} (h : n ≤ 5) : 67 <<< n < 4096 := by
  rw [Nat.shiftLeft_eq]
  have : 2 ^ n ≤ 2 ^ 5 := Nat.pow_le_pow_right (by omega) h
  omega
theorem sh64 {a n : Nat} (ha : a < 64) (h : n ≤ 5) : a <<< n < 4096 := by
  rw [Nat.shiftLeft_eq]
  have : 2 ^ n ≤ 2 ^ 5 := Nat.pow_le_pow_right (by omega) h
  calc a * 2 ^ n ≤ 63 * 2 ^ 5 := Nat.mul_le_mul (by omega) this
    _ < 4096 := by decide
theorem errL_nil (l : List Nat) : errL [l, []] = errL [l] := by unfold errL; simp
theorem errL2_long {p q : List Nat} (h : 128 < p.length ∨ 128 < q.length) : errL [p, q] = 3 := by
  unfold errL; rw [if_pos]
  rcases h with h | h
  · exact ⟨p, by simp, h⟩
  · exact ⟨q, by simp, h⟩
theorem errL2_arg {p q : List Nat} (h1 : p.length ≤ 128) (h2 : q.length ≤ 128) {a : Nat} (h : a ∈ p ∨ a ∈ q) (ha : 64 ≤ a) : errL [p, q] = 2 := by
  have h0 : ∀ l ∈ [p, q], l.length ≤ 128 := fun l hl => by simp at hl; rcases hl with rfl | rfl <;> assumption
  rcases h with h | h
  · exact errL_arg h0 (by simp) h ha
  · exact errL_arg h0 (by simp) h ha
theorem errL2_ok {p q : List Nat} (h1 : p.length ≤ 128) (h2 : q.length ≤ 128) (h3 : El p) (h4 : El q) : errL [p, q] = 0 :=
  errL_zero_iff.2 fun l hl => by simp at hl; rcases hl with rfl | rfl <;> exact ⟨by assumption, by assumption⟩
theorem el_of {p : List Nat} {i : Nat} (hi : p.length ≤ i) (h : ∀ j a, j < i → p[j]? = some a → a < 64) : El p := fun a ha => by
  obtain ⟨j, hj⟩ := List.mem_iff_getElem?.1 ha
  exact h j a (by have := (List.getElem?_eq_some_iff.1 hj).1; omega) hj
theorem el_step {p : List Nat} {i c : Nat} (hc : p[i]? = some c) (hlt : c < 64) (h : ∀ j a, j < i → p[j]? = some a → a < 64) : ∀ j a, j < i + 1 → p[j]? = some a → a < 64 := fun j a hj ha => by
  rcases Nat.lt_or_ge j i with h' | h'
  · exact h j a h' ha
  · obtain rfl : j = i := by omega
    rw [hc] at ha; injection ha with ha; omega
/-- The degree as far as the first i coefficients go. -/
theorem dg_take_hit {p : List Nat} {i c : Nat} (hc : p[i]? = some c) (h0 : c ≠ 0) : dg (p.take (i + 1)) = i + 1 :=
  dg_eq _ i (by rw [cf_take, if_pos (by omega), cf_some hc]; exact h0) fun k hk => by rw [cf_take, if_neg (by omega)]
theorem dg_take_miss {p : List Nat} {i : Nat} (hc : p[i]? = some 0) : dg (p.take (i + 1)) = dg (p.take i) :=
  dg_congr fun k => by
    rw [cf_take, cf_take]
    by_cases h : k < i
    · rw [if_pos h, if_pos (by omega)]
    · rw [if_neg h]
      split
      · obtain rfl : k = i := by omega
        exact cf_some hc
      · rfl
theorem lg_le {a n : Nat} (ha : a < 64) (hn : n ≤ lg a) (h : gp 2 n = a) : n = lg a := by
  have hl := lg_lt a ha
  rw [gp_two n (by omega)] at h
  rw [← h, lg_pw n (by omega)]
theorem lg_ne {a n : Nat} (ha : a < 64) (h0 : a ≠ 0) (hn : n ≤ lg a) (h : gp 2 n ≠ a) : n + 1 ≤ lg a := by
  rcases Nat.eq_or_lt_of_le hn with rfl | h'
  · exact absurd (by rw [gp_two _ (lg_lt a ha), pw_lg a ha h0]) h
  · omega
theorem el2 {a b : Nat} (ha : a < 64) (hb : b < 64) : El [a, b] := El.cons_ ha (el1 hb)
end Go.Proofs.Ytjhgihgggofocaa
