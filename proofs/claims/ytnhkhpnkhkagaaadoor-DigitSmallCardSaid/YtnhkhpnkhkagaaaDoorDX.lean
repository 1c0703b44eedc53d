/- Chapter 16, plain: sums with weights: what is missed. -/
import Derived.Test.YtnhkhpnkhkagaaaDoorDW
namespace Go.Proofs.YtnhkhpnkhkagaaaDoor
theorem tmod10 (x : Int) : x.tmod 10 = 0 ↔ x % 10 = 0 := by rw [← Int.dvd_iff_tmod_eq_zero, Int.dvd_iff_emod_eq_zero]
theorem tmod11 (x : Int) : x.tmod 11 = 0 ↔ x % 11 = 0 := by rw [← Int.dvd_iff_tmod_eq_zero, Int.dvd_iff_emod_eq_zero]
theorem mul_bb {x y : Int} (h1 : -9 ≤ x) (h2 : x ≤ 10) (h3 : -10 ≤ y) (h4 : y ≤ 10) : -100 ≤ x * y ∧ x * y ≤ 100 := by
  rcases Int.le_total 0 x with hx | hx <;> rcases Int.le_total 0 y with hy | hy
  · have := Int.mul_nonneg hx hy
    have := Int.mul_le_mul h2 h4 hy (by omega)
    omega
  · have a := Int.mul_nonneg hx (show 0 ≤ -y by omega)
    have b := Int.mul_le_mul h2 (show -y ≤ 10 by omega) (by omega) (by omega)
    rw [Int.mul_neg] at a b; omega
  · have a := Int.mul_nonneg (show 0 ≤ -x by omega) hy
    have b := Int.mul_le_mul (show -x ≤ 10 by omega) h4 hy (by omega)
    rw [Int.neg_mul] at a b; omega
  · have a := Int.mul_nonneg (show 0 ≤ -x by omega) (show 0 ≤ -y by omega)
    have b := Int.mul_le_mul (show -x ≤ 10 by omega) (show -y ≤ 10 by omega) (by omega) (by omega)
    rw [Int.neg_mul_neg] at a b; omega
theorem chk_dig {k : Nat} {T : List UInt8} {i : Nat} {x : UInt8} (hc : isChk k T = true) (hx : T[i]? = some x) (hi : i + 1 < T.length) : isDig x = true := by
  obtain ⟨A, B, rfl, rfl⟩ := split_at hx
  exact (chk_B hc).2.2.1 (fun e => by subst e; simp at hi)
theorem same_symm (k : Nat) (ws : List Int) (p a b : Nat) : sameD k ws p a b = sameD k ws p b a := by
  unfold sameD
  have e : wt ws p * ((a : Int) - b) = -(wt ws p * ((b : Int) - a)) := by rw [← Int.mul_neg]; congr 1; omega
  split
  · rw [e, decide_eq_decide]; omega
  · split
    · rw [e, decide_eq_decide]; omega
    · rw [decide_eq_decide]; omega
theorem exch_symm {k : Nat} (hk : k = 1 ∨ k = 2) (ws : List Int) (p a b : Nat) : exchD k ws p a b = exchD k ws p b a := by
  unfold exchD
  have e : (wt ws p - wt ws (p + 1)) * ((a : Int) - b) = -((wt ws p - wt ws (p + 1)) * ((b : Int) - a)) := by rw [← Int.mul_neg]; congr 1; omega
  split
  · rw [e, decide_eq_decide]; omega
  · rw [if_pos (by omega), if_pos (by omega), e, decide_eq_decide]; omega
theorem min_max (f : Nat → Nat → Bool) (h : ∀ a b, f a b = f b a) (a b : Nat) : f (min a b) (max a b) = f a b := by
  rcases Nat.le_total a b with hab | hab
  · rw [Nat.min_eq_left hab, Nat.max_eq_right hab]
  · rw [Nat.min_eq_right hab, Nat.max_eq_left hab, h]
theorem has_one {k : Nat} {ws : List Int} {n p a b : Nat} (hr : rightD k ws = true) (h1 : 1 ≤ p) (h2 : p ≤ n) (ha : a < 10) (hb : b < 10) (hab : a ≠ b) : decide ((false, p, min a b, max a b) ∈ missL k ws n) = sameD k ws p a b := by
  rw [Bool.eq_iff_iff, decide_eq_true_eq, mem_missL]
  simp only
  rw [miss_one hr h1 h2 (by omega) (by omega), min_max (sameD k ws p) (same_symm k ws p)]
  simp only [Bool.false_eq_true, if_false]
  constructor
  · exact fun h => h.2.2.2.2
  · exact fun h => ⟨h1, h2, by omega, by omega, h⟩
theorem has_two {k : Nat} {ws : List Int} {n p a b : Nat} (hr : rightD k ws = true) (hk : k = 1 ∨ k = 2) (h1 : 1 ≤ p) (h2 : p + 1 ≤ n) (ha : a < 10) (hb : b < 10) (hab : a ≠ b) : decide ((true, p, min a b, max a b) ∈ missL k ws n) = exchD k ws p a b := by
  rw [Bool.eq_iff_iff, decide_eq_true_eq, mem_missL]
  simp only
  rw [miss_two hr h1 h2 (by omega) (by omega), ← exch_symm hk ws p (min a b), min_max (exchD k ws p) (exch_symm hk ws p)]
  simp only [if_true]
  constructor
  · exact fun h => h.2.2.2.2
  · exact fun h => ⟨h1, by omega, by omega, by omega, h⟩
theorem wt_at1 {ws : List Int} (h1 : 1 ≤ ws.length) (p : Nat) : ws[p % ws.length]? = some (wt ws (p + 1)) := wt_at (p := p + 1) h1 (by omega)
theorem miss_is {k : Nat} {ws : List Int} {n : Nat} (hr : rightD k ws = true) (h1 : 1 ≤ n) (h2 : n ≤ 30) : missR k ws (n : Int) = (missL k ws n, 0) := by
  unfold missR; rw [hr, if_neg (by decide), if_neg (by omega), Int.toNat_natCast]
theorem missL_len (k : Nat) (ws : List Int) {n : Nat} (hn : n ≤ 30) : (missL k ws n).length ≤ 10000 := by
  by_cases h0 : n = 0
  · subst h0; simp [missL, missS]
  · have := mC_len k ws n 1 (n - 1) 0 1 (Nat.le_refl _) (by omega) (by omega) (by omega) hn
    rw [mC_start, mB_start, mA_end (by simp), mO_end] at this
    exact this
theorem same_1 (ws : List Int) (p a b : Nat) : sameD 1 ws p a b = decide ((wt ws p * ((a : Int) - b)).tmod 10 = 0) := by
  unfold sameD; rw [if_pos rfl, decide_eq_decide]; exact (tmod10 _).symm
theorem same_2 (ws : List Int) (p a b : Nat) : sameD 2 ws p a b = decide ((wt ws p * ((a : Int) - b)).tmod 11 = 0) := by
  unfold sameD; rw [if_neg (by decide), if_pos rfl, decide_eq_decide]; exact (tmod11 _).symm
theorem exch_1 (ws : List Int) (p a b : Nat) : exchD 1 ws p a b = decide (((wt ws p - wt ws (p + 1)) * ((a : Int) - b)).tmod 10 = 0) := by
  unfold exchD; rw [if_pos rfl, decide_eq_decide]; exact (tmod10 _).symm
theorem exch_2 (ws : List Int) (p a b : Nat) : exchD 2 ws p a b = decide (((wt ws p - wt ws (p + 1)) * ((a : Int) - b)).tmod 11 = 0) := by
  unfold exchD; rw [if_neg (by decide), if_pos rfl, decide_eq_decide]; exact (tmod11 _).symm
end Go.Proofs.YtnhkhpnkhkagaaaDoor
