/- Chapter 18: contracts of bytes that are no elements, and of 0. -/
import Derived.Test.YtjaledljhiihmaaGB
namespace Go.Proofs.Ytjaledljhiihmaa
theorem errL_big {l : List Nat} {a : Nat} (hl : l.length ≤ 128) (ha : a ∈ l) (h : 64 ≤ a) : errL [l] = 2 := errL_arg (fun x hx => by simp at hx; subst hx; exact hl) (by simp) ha h
section
variable (a b : Nat) (n : Int) (w : World)
theorem Add_bad (ha : a < 256) (hb : b < 256) (h : 64 ≤ a ∨ 64 ≤ b) : Ret Try.prog 14 [.int .u8 (a : Int), .int .u8 (b : Int)] w (fun v w' => v = .tuple #[.int .u8 0, .int .i64 2] ∧ Ex w w') := by
  have e : errL [[a, b]] = 2 := by rcases h with h | h <;> exact errL_big (by simp) (by simp) h
  exact (add_ret a b w ha hb).mono fun v w' ⟨h, hx⟩ => ⟨by rw [h, e, if_neg (by decide)]; rfl, hx⟩
theorem Mul_bad (h : 64 ≤ a ∨ 64 ≤ b) : Ret Try.prog 15 [.int .u8 (a : Int), .int .u8 (b : Int)] w (fun v w' => v = .tuple #[.int .u8 0, .int .i64 2] ∧ Ex w w') := by
  have e : errL [[a, b]] = 2 := by rcases h with h | h <;> exact errL_big (by simp) (by simp) h
  exact (Mul_ret a b w).mono fun v w' ⟨h, hx⟩ => ⟨by rw [h, e, if_neg (by decide)]; rfl, hx⟩
theorem Pow_bad (h : 64 ≤ a) : Ret Try.prog 11 [.int .u8 (a : Int), .int .i64 n] w (fun v w' => v = .tuple #[.int .u8 0, .int .i64 2] ∧ Ex w w') := by
  have e : errL [[a]] = 2 := errL_big (by simp) (by simp) h
  exact (pow_ret a n w).mono fun v w' ⟨h, hx⟩ => ⟨by unfold pwE at h; rw [h, e, if_neg (by decide), if_neg (by decide)]; rfl, hx⟩
theorem Inv_bad (h : 64 ≤ a) : Ret Try.prog 16 [.int .u8 (a : Int)] w (fun v w' => v = .tuple #[.int .u8 0, .int .i64 2] ∧ Ex w w') := by
  have e : errL [[a]] = 2 := errL_big (by simp) (by simp) h
  exact (Inv_ret a w).mono fun v w' ⟨h, hx⟩ => ⟨by unfold pwE at h; rw [h, e, if_neg (by decide), if_neg (by decide)]; rfl, hx⟩
theorem Log_bad (h : 64 ≤ a) : Ret Try.prog 17 [.int .u8 (a : Int)] w (fun v w' => v = .tuple #[.int .i64 0, .int .i64 2] ∧ Ex w w') := by
  have e : errL [[a]] = 2 := errL_big (by simp) (by simp) h
  exact (log_ret a w).mono fun v w' ⟨h, hx⟩ => ⟨by rw [h, e, if_neg (by decide), if_neg (by decide)]; rfl, hx⟩
theorem Pow_z {r e : Int} (hr : r = if n = 0 then 1 else 0) (he : e = if n < 0 then 6 else 0) : Ret Try.prog 11 [.int .u8 0, .int .i64 n] w (fun v w' => v = .tuple #[.int .u8 r, .int .i64 e] ∧ Ex w w') :=
  (pow_ret 0 n w).mono fun v w' ⟨h, hx⟩ => ⟨by
    unfold pwE pwr at h
    have e0 : errL [[0]] = 0 := by decide
    rw [h, e0, if_pos rfl, if_pos rfl, hr, he]
    by_cases h1 : n = 0
    · subst h1; rfl
    · rw [if_neg h1, if_neg h1, if_pos rfl]
      by_cases h2 : n < 0
      · rw [if_pos ⟨rfl, h2⟩, if_pos h2]; rfl
      · rw [if_neg (fun hh => h2 hh.2), if_neg h2]; rfl, hx⟩
theorem Inv_z : Ret Try.prog 16 [.int .u8 0] w (fun v w' => v = .tuple #[.int .u8 0, .int .i64 6] ∧ Ex w w') :=
  (Inv_ret 0 w).mono fun v w' ⟨h, hx⟩ => ⟨by rw [h, show pwE 0 (-1) = 6 from by decide, show (if errL [[0]] = 0 then pwr 0 (-1) else 0) = 0 from by decide]; rfl, hx⟩
theorem Log_z : Ret Try.prog 17 [.int .u8 0] w (fun v w' => v = .tuple #[.int .i64 0, .int .i64 6] ∧ Ex w w') :=
  (log_ret 0 w).mono fun v w' ⟨h, hx⟩ => ⟨by rw [h, show errL [[0]] = 0 from by decide, if_pos rfl, if_pos rfl, if_pos rfl]; rfl, hx⟩
end
end Go.Proofs.Ytjaledljhiihmaa
