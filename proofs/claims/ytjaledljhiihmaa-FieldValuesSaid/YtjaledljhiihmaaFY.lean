/- Chapter 18: contracts of elements; the chapter's examples. -/
import Derived.Test.YtjaledljhiihmaaFF
namespace Go.Proofs.Ytjaledljhiihmaa
theorem errL_els {l : List Nat} (h : l.length ≤ 128) (he : El l) : errL [l] = 0 := errL_zero_iff.2 fun x hx => by simp at hx; subst hx; exact ⟨h, he⟩
theorem errL_els2 {l m : List Nat} (h : l.length ≤ 128) (he : El l) (h' : m.length ≤ 128) (he' : El m) : errL [l, m] = 0 := errL_zero_iff.2 fun x hx => by
  simp at hx; rcases hx with rfl | rfl
  · exact ⟨h, he⟩
  · exact ⟨h', he'⟩
theorem el1 {a : Nat} (ha : a < 64) : El [a] := El.cons_ ha El.nil_
theorem el2 {a b : Nat} (ha : a < 64) (hb : b < 64) : El [a, b] := El.cons_ ha (el1 hb)
theorem Mul_el (a b : Nat) (w : World) (ha : a < 64) (hb : b < 64) : Ret Try.prog 15 [.int .u8 (a : Int), .int .u8 (b : Int)] w (fun v w' => v = .tuple #[.int .u8 (gm a b : Int), .int .i64 0] ∧ Ex w w') :=
  (Mul_ret a b w).mono fun v w' ⟨h, hx⟩ => ⟨by rw [h, if_pos (errL_els (by simp) (el2 ha hb)), errL_els (by simp) (el2 ha hb)], hx⟩
theorem Add_el (a b : Nat) (w : World) (ha : a < 64) (hb : b < 64) : Ret Try.prog 14 [.int .u8 (a : Int), .int .u8 (b : Int)] w (fun v w' => v = .tuple #[.int .u8 ((a ^^^ b : Nat) : Int), .int .i64 0] ∧ Ex w w') :=
  (add_ret a b w (by omega) (by omega)).mono fun v w' ⟨h, hx⟩ => ⟨by rw [h, if_pos (errL_els (by simp) (el2 ha hb)), errL_els (by simp) (el2 ha hb)], hx⟩
theorem Pow_el (a : Nat) (n : Int) (w : World) (ha : a < 64) (h0 : a ≠ 0) : Ret Try.prog 11 [.int .u8 (a : Int), .int .i64 n] w (fun v w' => v = .tuple #[.int .u8 (pwr a n : Int), .int .i64 0] ∧ Ex w w') :=
  (pow_ret a n w).mono fun v w' ⟨h, hx⟩ => ⟨by unfold pwE at h; rw [h, if_pos (errL_els (by simp) (el1 ha)), if_pos (errL_els (by simp) (el1 ha)), if_neg (by omega)], hx⟩
theorem Inv_el (a : Nat) (w : World) (ha : a < 64) (h0 : a ≠ 0) : Ret Try.prog 16 [.int .u8 (a : Int)] w (fun v w' => v = .tuple #[.int .u8 (pwr a (-1) : Int), .int .i64 0] ∧ Ex w w') :=
  (Inv_ret a w).mono fun v w' ⟨h, hx⟩ => ⟨by unfold pwE at h; rw [h, if_pos (errL_els (by simp) (el1 ha)), if_pos (errL_els (by simp) (el1 ha)), if_neg (by omega)], hx⟩
theorem Log_el (a : Nat) (w : World) (ha : a < 64) (h0 : a ≠ 0) : Ret Try.prog 17 [.int .u8 (a : Int)] w (fun v w' => v = .tuple #[.int .i64 (lg a : Int), .int .i64 0] ∧ Ex w w') :=
  (log_ret a w).mono fun v w' ⟨h, hx⟩ => ⟨by rw [h, if_pos (errL_els (by simp) (el1 ha)), if_pos (errL_els (by simp) (el1 ha)), if_neg h0], hx⟩
theorem sameT (u v : Value) (l m : List Nat) (w : World) (hl : RdL w 1 encN u l) (hm : RdL w 1 encN v m) (hlen : l.length ≤ 100000) (h : l = m) : Ret Try.prog 31 [u, v] w (fun v w' => v = .bool true ∧ Ex w w') :=
  (sameB_ret u v l m w hl hm hlen).mono fun v w' ⟨e, hx⟩ => ⟨by rw [e, decide_eq_true h], hx⟩
theorem pwr_nz (a : Nat) (n : Int) (h0 : a ≠ 0) : pwr a n = pw (lg a * (n % 63).toNat % 63) := by
  unfold pwr
  by_cases hn : n = 0
  · subst hn; rw [if_pos rfl]; rfl
  · rw [if_neg hn, if_neg h0]
theorem pwr_lt (a : Nat) (n : Int) (h0 : a ≠ 0) : 1 ≤ pwr a n ∧ pwr a n < 64 := by rw [pwr_nz a n h0]; exact pw_lt _ (Nat.mod_lt _ (by omega))
theorem pwr_add (a : Nat) (m n : Int) (h0 : a ≠ 0) : gm (pwr a m) (pwr a n) = pwr a (m + n) := by
  have hm := pwr_lt a m h0
  have hn := pwr_lt a n h0
  rw [gm_nz _ _ (by omega) (by omega), pwr_nz a m h0, pwr_nz a n h0, pwr_nz a (m + n) h0, lg_pw _ (Nat.mod_lt _ (by omega)), lg_pw _ (Nat.mod_lt _ (by omega)), ← Nat.add_mod, ← Nat.mul_add]
  congr 1
  rw [Nat.mul_mod, Nat.mul_mod (lg a) ((m + n) % 63).toNat]
  congr 2
  have h1 := Int.emod_nonneg m (show (63 : Int) ≠ 0 by omega)
  have h2 := Int.emod_nonneg n (show (63 : Int) ≠ 0 by omega)
  have h3 := Int.emod_nonneg (m + n) (show (63 : Int) ≠ 0 by omega)
  omega
theorem pwr_63 (a : Nat) (h0 : a ≠ 0) : pwr a 63 = 1 := by rw [pwr_nz a 63 h0, show ((63 : Int) % 63).toNat = 0 from rfl, Nat.mul_zero]; rfl
theorem pwr_inv (a : Nat) (h : a < 64) (h0 : a ≠ 0) : gm a (pwr a (-1)) = 1 := by
  have e : pwr a 1 = a := by rw [pwr_nz a 1 h0, show ((1 : Int) % 63).toNat = 1 from rfl, Nat.mul_one, Nat.mod_eq_of_lt (lg_lt a h), pw_lg a h h0]
  have := pwr_add a 1 (-1) h0
  rw [e] at this
  rw [this]; rfl
/-! the examples -/
theorem aw1 : mulE [1, 1] [2, 1] = 0 := by decide
theorem aw2 : tr (pm [1, 1] [2, 1]) = [2, 3, 1] := by decide
theorem aw3 : errL [[2, 3, 1]] = 0 ∧ dg [2, 3, 1] = 3 := by decide
set_option maxRecDepth 10000 in
theorem aw4 : rootsOf [2, 3, 1] = [1, 2] := by decide
theorem aw9 : errL [[2, 3, 1]] = 0 ∧ 0 < dg [2, 3, 1] := by decide
theorem aw5 : divE [0, 0, 1] [1, 1] = 0 := by decide
theorem aw6 {d r : List Nat} (h : IsDiv [0, 0, 1] [1, 1] d r ∧ tr d = d ∧ tr r = r ∧ El d ∧ El r) : d = [1, 1] ∧ r = [1] := by
  obtain ⟨h1, h2, h3, h4, h5⟩ := h
  have e : IsDiv [0, 0, 1] [1, 1] [1, 1] [1] := ⟨fun k => by rw [show pm [1, 1] [1, 1] = [1, 0, 1] from by decide]; rcases k with _ | _ | _ | k <;> first | rfl | simp [cf], by decide⟩
  obtain ⟨f1, f2⟩ := isDiv_uniq (el2 (by omega) (by omega)) h4 (el2 (by omega) (by omega)) h1 e
  exact ⟨by rw [← h2, tr_congr f1]; rfl, by rw [← h3, tr_congr f2]; rfl⟩
theorem aw7 : thrE [0, 1] [5, 4] = 0 := by decide
theorem aw8 {t : List Nat} (h : IsThr [0, 1] [5, 4] t) : t = [5, 1] := by
  refine isThr_uniq (x := [0, 1]) (y := [5, 4]) (el2 (a := 0) (b := 1) (by omega) (by omega)) (by decide) rfl h ⟨el2 (a := 5) (b := 1) (by omega) (by omega), rfl, by decide, fun i a b ha hb => ?_⟩
  rcases i with _ | _ | i
  · simp at ha hb; subst ha; subst hb; rfl
  · simp at ha hb; subst ha; subst hb; rfl
  · simp at ha
end Go.Proofs.Ytjaledljhiihmaa
