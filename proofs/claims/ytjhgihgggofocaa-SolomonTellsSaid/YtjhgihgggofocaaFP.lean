/- Chapter 18, plain: the field of 64 elements, by tables. No program in sight. -/
import Derived.Test.YtjhgihgggofocaaLG
import Derived.KernelRfl
namespace Go.Proofs.Ytjhgihgggofocaa

def pwL : List Nat := [1, 2, 4, 8, 16, 32, 3, 6, 12, 24, 48, 35, 5, 10, 20, 40, 19, 38, 15, 30, 60, 59, 53, 41, 17, 34, 7, 14, 28, 56, 51, 37, 9, 18, 36, 11, 22, 44, 27, 54, 47, 29, 58, 55, 45, 25, 50, 39, 13, 26, 52, 43, 21, 42, 23, 46, 31, 62, 63, 61, 57, 49, 33]
def lgL : List Nat := [0, 0, 1, 6, 2, 12, 7, 26, 3, 32, 13, 35, 8, 48, 27, 18, 4, 24, 33, 16, 14, 52, 36, 54, 9, 45, 49, 38, 28, 41, 19, 56, 5, 62, 25, 11, 34, 31, 17, 47, 15, 23, 53, 51, 37, 44, 55, 40, 10, 61, 46, 30, 50, 22, 39, 43, 29, 60, 42, 21, 20, 59, 57, 58]
def pw (n : Nat) : Nat := pwL.getD n 0
def lg (a : Nat) : Nat := lgL.getD a 0
/-- Product and inverse by the tables. -/
def gm (a b : Nat) : Nat := bif Nat.beq a 0 then 0 else bif Nat.beq b 0 then 0 else pw ((lg a + lg b) % 63)
def gi (a : Nat) : Nat := pw ((63 - lg a) % 63)

theorem all1 {n : Nat} {p : Nat → Bool} (h : (List.range n).all p = true) (a : Nat) (ha : a < n) : p a = true := (List.all_eq_true.1 h) a (List.mem_range.2 ha)
theorem all2 {n m : Nat} {p : Nat → Nat → Bool} (h : ((List.range n).all fun a => (List.range m).all (p a)) = true) (a b : Nat) (ha : a < n) (hb : b < m) : p a b = true := all1 (all1 h a ha) b hb

theorem pw_lt (n : Nat) (h : n < 63) : 1 ≤ pw n ∧ pw n < 64 := by
  have := all1 (n := 63) (p := fun n => Nat.ble 1 (pw n) && Nat.blt (pw n) 64) (by kernel_rfl) n h
  simp only [Bool.and_eq_true, Nat.blt_eq] at this
  exact ⟨Nat.le_of_ble_eq_true this.1, this.2⟩
theorem lg_lt (a : Nat) (h : a < 64) : lg a < 63 := by
  have := all1 (n := 64) (p := fun a => Nat.blt (lg a) 63) (by kernel_rfl) a h
  simpa [Nat.blt_eq] using this
theorem pw_lg (a : Nat) (h : a < 64) (h0 : a ≠ 0) : pw (lg a) = a := by
  have := all1 (n := 64) (p := fun a => Nat.beq a 0 || Nat.beq (pw (lg a)) a) (by kernel_rfl) a h
  simp only [Bool.or_eq_true] at this
  rcases this with h | h
  · exact absurd (Nat.eq_of_beq_eq_true h) h0
  · exact Nat.eq_of_beq_eq_true h
theorem lg_pw (n : Nat) (h : n < 63) : lg (pw n) = n :=
  Nat.eq_of_beq_eq_true (all1 (n := 63) (p := fun n => Nat.beq (lg (pw n)) n) (by kernel_rfl) n h)
theorem gm_zl (b : Nat) : gm 0 b = 0 := rfl
theorem gm_zr (a : Nat) : gm a 0 = 0 := by unfold gm; cases Nat.beq a 0 <;> rfl
theorem gm_nz (a b : Nat) (ha : a ≠ 0) (hb : b ≠ 0) : gm a b = pw ((lg a + lg b) % 63) := by
  unfold gm; rw [beq_no ha, beq_no hb]; rfl
theorem gm_lt (a b : Nat) : gm a b < 64 := by
  by_cases ha : a = 0
  · subst ha; rw [gm_zl]; omega
  · by_cases hb : b = 0
    · subst hb; rw [gm_zr]; omega
    · rw [gm_nz a b ha hb]; exact (pw_lt _ (Nat.mod_lt _ (by omega))).2
theorem gm_comm (a b : Nat) : gm a b = gm b a := by
  by_cases ha : a = 0
  · subst ha; rw [gm_zl, gm_zr]
  · by_cases hb : b = 0
    · subst hb; rw [gm_zl, gm_zr]
    · rw [gm_nz a b ha hb, gm_nz b a hb ha, Nat.add_comm]
theorem gm_ne (a b : Nat) (ha : a ≠ 0) (hb : b ≠ 0) : gm a b ≠ 0 := by
  rw [gm_nz a b ha hb]
  have := (pw_lt ((lg a + lg b) % 63) (Nat.mod_lt _ (by omega))).1
  omega
theorem gm_zero_iff (a b : Nat) : gm a b = 0 ↔ a = 0 ∨ b = 0 := by
  constructor
  · intro h
    rcases Nat.eq_zero_or_pos a with h0 | h0
    · exact .inl h0
    · rcases Nat.eq_zero_or_pos b with h1 | h1
      · exact .inr h1
      · exact absurd h (gm_ne a b (by omega) (by omega))
  · rintro (rfl | rfl)
    · exact gm_zl b
    · exact gm_zr a
theorem lg_gm (a b : Nat) (ha : a ≠ 0) (hb : b ≠ 0) : lg (gm a b) = (lg a + lg b) % 63 := by
  rw [gm_nz a b ha hb, lg_pw _ (Nat.mod_lt _ (by omega))]
theorem gm_assoc (a b c : Nat) : gm (gm a b) c = gm a (gm b c) := by
  by_cases ha : a = 0
  · subst ha; rfl
  · by_cases hb : b = 0
    · subst hb; rw [gm_zr, gm_zl, gm_zr]
    · by_cases hc : c = 0
      · subst hc; rw [gm_zr, gm_zr, gm_zr]
      · rw [gm_nz _ c (gm_ne a b ha hb) hc, gm_nz a _ ha (gm_ne b c hb hc), lg_gm a b ha hb, lg_gm b c hb hc]
        congr 1; omega
theorem gm_one (a : Nat) (h : a < 64) : gm a 1 = a := by
  by_cases ha : a = 0
  · subst ha; rfl
  · rw [gm_nz a 1 ha (by omega), show lg 1 = 0 from rfl, Nat.add_zero, Nat.mod_eq_of_lt (lg_lt a h), pw_lg a h ha]
theorem one_gm (a : Nat) (h : a < 64) : gm 1 a = a := by rw [gm_comm, gm_one a h]
theorem gi_lt (a : Nat) : 1 ≤ gi a ∧ gi a < 64 := pw_lt _ (Nat.mod_lt _ (by omega))
theorem gm_gi (a : Nat) (h : a < 64) (h0 : a ≠ 0) : gm a (gi a) = 1 := by
  have h1 := gi_lt a
  have h2 := lg_lt a h
  rw [gm_nz a _ h0 (by omega)]
  unfold gi
  rw [lg_pw _ (Nat.mod_lt _ (by omega))]
  rw [show (lg a + (63 - lg a) % 63) % 63 = 0 from by omega]
  rfl
theorem xor_lt64 (a b : Nat) (ha : a < 64) (hb : b < 64) : a ^^^ b < 64 := Nat.xor_lt_two_pow (n := 6) ha hb
theorem gm2_xor (b c : Nat) (hb : b < 64) (hc : c < 64) : gm 2 (b ^^^ c) = gm 2 b ^^^ gm 2 c :=
  Nat.eq_of_beq_eq_true (all2 (n := 64) (m := 64) (p := fun b c => Nat.beq (gm 2 (b ^^^ c)) (gm 2 b ^^^ gm 2 c)) (by kernel_rfl) b c hb hc)
theorem pw_succ (n : Nat) (h : n < 62) : pw (n + 1) = gm (pw n) 2 :=
  Nat.eq_of_beq_eq_true (all1 (n := 62) (p := fun n => Nat.beq (pw (n + 1)) (gm (pw n) 2)) (by kernel_rfl) n h)
theorem gm_xor (a b c : Nat) (ha : a < 64) (hb : b < 64) (hc : c < 64) : gm a (b ^^^ c) = gm a b ^^^ gm a c := by
  by_cases h0 : a = 0
  · subst h0; simp [gm_zl]
  · have key : ∀ n, n < 63 → gm (pw n) (b ^^^ c) = gm (pw n) b ^^^ gm (pw n) c := by
      intro n
      induction n with
      | zero => intro _; rw [show pw 0 = 1 from rfl, one_gm _ (xor_lt64 b c hb hc), one_gm b hb, one_gm c hc]
      | succ n ih =>
        intro hn
        rw [pw_succ n (by omega), gm_comm (pw n) 2, gm_assoc, gm_assoc, gm_assoc, ih (by omega), gm2_xor _ _ (gm_lt _ _) (gm_lt _ _)]
    rw [← pw_lg a ha h0]; exact key _ (lg_lt a ha)
theorem xor_gm (a b c : Nat) (ha : a < 64) (hb : b < 64) (hc : c < 64) : gm (b ^^^ c) a = gm b a ^^^ gm c a := by
  rw [gm_comm, gm_xor a b c ha hb hc, gm_comm a b, gm_comm a c]
theorem gm_cancel (a b c : Nat) (ha : a < 64) (hb : b < 64) (hc : c < 64) (h0 : a ≠ 0) (h : gm a b = gm a c) : b = c := by
  have e : gm (gi a) (gm a b) = gm (gi a) (gm a c) := by rw [h]
  rw [← gm_assoc, ← gm_assoc, gm_comm (gi a) a, gm_gi a ha h0, one_gm b hb, one_gm c hc] at e
  exact e
theorem gi_uniq (a b : Nat) (ha : a < 64) (hb : b < 64) (h : gm a b = 1) : b = gi a := by
  have h0 : a ≠ 0 := by rintro rfl; rw [gm_zl] at h; cases h
  exact gm_cancel a b (gi a) ha hb (gi_lt a).2 h0 (by rw [h, gm_gi a ha h0])

/-! The reference's product: of the polynomials, with the rest behind division. -/
def rmA (a b : Nat) : Nat → Nat → Nat
  | 0, p => p
  | n + 1, p => let q := rmA a b n p; bif Nat.beq (b >>> n % 2) 1 then q ^^^ a <<< n else q
def rmB : Nat → Nat → Nat
  | 0, p => p
  | n + 1, p => rmB n (bif Nat.beq (p >>> (n + 6) % 2) 1 then p ^^^ 67 <<< n else p)
theorem rm_gm (a b : Nat) (ha : a < 64) (hb : b < 64) : rmB 6 (rmA a b 6 0) = gm a b :=
  Nat.eq_of_beq_eq_true (all2 (n := 64) (m := 64) (p := fun a b => Nat.beq (rmB 6 (rmA a b 6 0)) (gm a b)) (by kernel_rfl) a b ha hb)
/-- Powers: factors one by one. -/
def gp (a : Nat) : Nat → Nat
  | 0 => 1
  | n + 1 => gm (gp a n) a
theorem gp_lt (a n : Nat) : gp a n < 64 := by cases n with
  | zero => show 1 < 64; omega
  | succ n => exact gm_lt _ _
theorem gp_pw (a n : Nat) (h0 : a ≠ 0) : gp a n = pw (lg a * n % 63) := by
  induction n with
  | zero => rfl
  | succ n ih =>
    have hl := pw_lt (lg a * n % 63) (Nat.mod_lt _ (by omega))
    rw [gp, ih, gm_nz _ a (by omega) h0, lg_pw _ (Nat.mod_lt _ (by omega))]
    congr 1
    rw [Nat.mul_succ]; omega
theorem gp_zero (n : Nat) : gp 0 n = if n = 0 then 1 else 0 := by cases n with
  | zero => rfl
  | succ n => rw [if_neg (by omega)]; exact gm_zr _
theorem gp_two (n : Nat) (h : n < 63) : gp 2 n = pw n := by
  rw [gp_pw 2 n (by omega), show lg 2 = 1 from rfl, Nat.one_mul, Nat.mod_eq_of_lt h]
end Go.Proofs.Ytjhgihgggofocaa
