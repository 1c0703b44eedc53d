/- Check digits: there is just one; which errors are found. -/
import Derived.Test.YtnhkhpnkhkagaaaDoorDP
namespace Go.Proofs.YtnhkhpnkhkagaaaDoor

theorem sumD_app (ws : List Int) : ∀ (a b : List Nat) (p : Nat), sumD ws p (a ++ b) = sumD ws p a + sumD ws (p + a.length) b
  | [], b, p => by simp [sumD]
  | v :: a, b, p => by
    have := sumD_app ws a b (p + 1)
    simp only [List.cons_append, sumD, List.length_cons]
    rw [this, show p + 1 + a.length = p + (a.length + 1) by omega]; omega
theorem luhnD_app : ∀ (a b : List Nat) (p : Nat), luhnD p (a ++ b) = luhnD p a + luhnD (p + a.length) b
  | [], b, p => by simp [luhnD]
  | v :: a, b, p => by
    have := luhnD_app a b (p + 1)
    simp only [List.cons_append, luhnD, List.length_cons]
    rw [this, show p + 1 + a.length = p + (a.length + 1) by omega]; omega
theorem permD_app : ∀ (a b : List Nat) (q p : Nat), permD q p (a ++ b) = permD (permD q p a) (p + a.length) b
  | [], b, q, p => by simp [permD]
  | v :: a, b, q, p => by
    simp only [List.cons_append, permD, List.length_cons]
    rw [permD_app a b _ (p + 1), show p + 1 + a.length = p + (a.length + 1) by omega]
theorem permD_lt : ∀ (vs : List Nat) (q p : Nat), q < 10 → (∀ v ∈ vs, v < 10) → permD q p vs < 10
  | [], q, p, hq, _ => hq
  | v :: vs, q, p, hq, h => permD_lt vs _ _ (tm_lt q hq _ (tn_lt _ (Nat.mod_lt _ (by omega)) v (h v (by simp)))) fun x hx => h x (by simp [hx])
set_option maxRecDepth 10000 in
theorem tm_inj : ∀ x < 10, ∀ x' < 10, ∀ y < 10, tm x y = tm x' y → x = x' := by decide +kernel
set_option maxRecDepth 10000 in
theorem tm_inj2 : ∀ x < 10, ∀ y < 10, ∀ y' < 10, tm x y = tm x y' → y = y' := by decide +kernel
set_option maxRecDepth 10000 in
theorem tn_inj : ∀ i < 8, ∀ x < 10, ∀ y < 10, tn i x = tn i y → x = y := by decide +kernel
theorem tm_zero : ∀ x < 10, tm 0 x = x := by decide +kernel
theorem tn_zero : ∀ x < 10, tn 0 x = x := by decide +kernel
def ivD (y : Nat) : Nat := [0, 4, 3, 2, 1, 5, 6, 7, 8, 9].getD y 0
theorem iv_tm : ∀ y < 10, ∀ z < 10, ivD y < 10 ∧ tm z (ivD y) < 10 ∧ tm (tm z (ivD y)) y = z := by decide +kernel
set_option maxRecDepth 10000 in
theorem tm_swap : ∀ q < 10, ∀ i < 8, ∀ a < 10, ∀ b < 10, tm (tm q (tn i a)) (tn ((i + 1) % 8) b) = tm (tm q (tn i b)) (tn ((i + 1) % 8) a) → a = b := by decide +kernel
theorem permD_inj : ∀ (vs : List Nat) (q q' p : Nat), q < 10 → q' < 10 → (∀ v ∈ vs, v < 10) → permD q p vs = permD q' p vs → q = q'
  | [], q, q', p, _, _, _, h => h
  | v :: vs, q, q', p, hq, hq', hv, h => by
    have ht := tn_lt _ (Nat.mod_lt p (show 8 > 0 by omega)) v (hv v (by simp))
    have := permD_inj vs _ _ _ (tm_lt q hq _ ht) (tm_lt q' hq' _ ht) (fun x hx => hv x (by simp [hx])) h
    exact tm_inj q hq q' hq' _ ht this
theorem permD_sur : ∀ (vs : List Nat) (p z : Nat), z < 10 → (∀ v ∈ vs, v < 10) → ∃ q, q < 10 ∧ permD q p vs = z
  | [], p, z, hz, _ => ⟨z, hz, rfl⟩
  | v :: vs, p, z, hz, hv => by
    have ht := tn_lt _ (Nat.mod_lt p (show 8 > 0 by omega)) v (hv v (by simp))
    obtain ⟨q, hq, h⟩ := permD_sur vs (p + 1) z hz fun x hx => hv x (by simp [hx])
    obtain ⟨_, h1, h2⟩ := iv_tm _ ht q hq
    exact ⟨_, h1, by rw [permD, h2, h]⟩
theorem lu_at (p v : Nat) : lu p v = lu (p % 2) v := by unfold lu; rw [Nat.mod_mod]
theorem lu_inj2 : ∀ p < 2, ∀ a < 10, ∀ b < 10, lu p a % 10 = lu p b % 10 → a = b := by decide +kernel
theorem lu_inj (p : Nat) {a b : Nat} (ha : a < 10) (hb : b < 10) (h : lu p a % 10 = lu p b % 10) : a = b := by
  rw [lu_at p a, lu_at p b] at h; exact lu_inj2 _ (Nat.mod_lt _ (by omega)) a ha b hb h
/-- Digits that Luhn's sum takes for one another. -/
def nineD (a b : Nat) : Prop := (a = 0 ∧ b = 9) ∨ (a = 9 ∧ b = 0) ∨ a = b
instance (a b : Nat) : Decidable (nineD a b) := by unfold nineD; infer_instance
theorem lu_swap2 : ∀ p < 2, ∀ a < 10, ∀ b < 10, ((lu p a + lu (p + 1) b) % 10 = (lu p b + lu (p + 1) a) % 10 ↔ nineD a b) := by decide +kernel
theorem lu_swap (p : Nat) {a b : Nat} (ha : a < 10) (hb : b < 10) : (lu p a + lu (p + 1) b) % 10 = (lu p b + lu (p + 1) a) % 10 ↔ nineD a b := by
  rw [lu_at p a, lu_at p b, lu_at (p + 1) a, lu_at (p + 1) b, ← lu_swap2 (p % 2) (Nat.mod_lt _ (by omega)) a ha b hb, lu_at (p % 2 + 1) a, lu_at (p % 2 + 1) b, show (p % 2 + 1) % 2 = (p + 1) % 2 by omega]

/-! the check digit -/
theorem wt0 (ws : List Int) : wt ws 0 = 1 := rfl
theorem pass_ex {k : Nat} {ws : List Int} (h : rightD k ws = true) (rest : List Nat) (hr : ∀ v ∈ rest, v < 10) : ∃ v, v ≤ mostD k ∧ passD k ws (v :: rest) = true := by
  rcases right_kind h with rfl | rfl | rfl | rfl
  · refine ⟨((10 - sumD ws 1 rest % 10) % 10).toNat, by show _ ≤ 9; omega, ?_⟩
    simp only [passD, sumD, wt0, Int.mul_one]; simp; omega
  · refine ⟨((11 - sumD ws 1 rest % 11) % 11).toNat, by show _ ≤ 10; omega, ?_⟩
    simp only [passD, sumD, wt0, Int.mul_one]; simp; omega
  · refine ⟨(10 - luhnD 1 rest % 10) % 10, by show _ ≤ 9; omega, ?_⟩
    simp only [passD, luhnD, lu]; simp; omega
  · obtain ⟨q, hq, h1⟩ := permD_sur rest 1 0 (by omega) hr
    refine ⟨q, by show _ ≤ 9; omega, ?_⟩
    simp only [passD, permD]; simp
    rw [tn_zero q hq, tm_zero q hq, h1]
theorem pass_un {k : Nat} {ws : List Int} (h : rightD k ws = true) {rest : List Nat} (hr : ∀ v ∈ rest, v < 10) {u v : Nat} (hu : u ≤ mostD k) (hv : v ≤ mostD k) (pu : passD k ws (u :: rest) = true) (pv : passD k ws (v :: rest) = true) : u = v := by
  rcases right_kind h with rfl | rfl | rfl | rfl
  · have hu : u ≤ 9 := hu; have hv : v ≤ 9 := hv
    simp only [passD, sumD, wt0, Int.mul_one] at pu pv; simp at pu pv; omega
  · have hu : u ≤ 10 := hu; have hv : v ≤ 10 := hv
    simp only [passD, sumD, wt0, Int.mul_one] at pu pv; simp at pu pv; omega
  · have hu : u ≤ 9 := hu; have hv : v ≤ 9 := hv
    simp only [passD, luhnD, lu] at pu pv; simp at pu pv; omega
  · have hu : u < 10 := Nat.lt_succ_of_le hu; have hv : v < 10 := Nat.lt_succ_of_le hv
    simp only [passD, permD] at pu pv; simp at pu pv
    rw [tn_zero u hu, tm_zero u hu] at pu
    rw [tn_zero v hv, tm_zero v hv] at pv
    exact permD_inj rest _ _ _ hu hv hr (pu.trans pv.symm)
theorem fstD_of {f : Nat → Bool} : ∀ {n v u : Nat}, v ≤ u → u < v + n → f u = true → (∀ x, v ≤ x → x < v + n → f x = true → x = u) → fstD f v n = u
  | 0, v, u, h1, h2, _, _ => by omega
  | n + 1, v, u, h1, h2, hf, hx => by
    unfold fstD
    by_cases h : f v = true
    · rw [if_pos h]; exact hx v (Nat.le_refl _) (by omega) h
    · rw [if_neg h]
      have : v ≠ u := by rintro rfl; exact h hf
      exact fstD_of (by omega) (by omega) hf fun x a b c => hx x (by omega) (by omega) c
theorem check_pass {k : Nat} {ws : List Int} (h : rightD k ws = true) (x : Nat) {rest : List Nat} (hr : ∀ v ∈ rest, v < 10) :
    checkD k ws (x :: rest) ≤ mostD k ∧ passD k ws (checkD k ws (x :: rest) :: rest) = true ∧ ∀ u, u ≤ mostD k → passD k ws (u :: rest) = true → u = checkD k ws (x :: rest) := by
  obtain ⟨v, hv, hp⟩ := pass_ex h rest hr
  have e : checkD k ws (x :: rest) = v := by
    unfold checkD
    exact fstD_of (Nat.zero_le _) (by omega) (by simpa using hp) fun y _ hy hf => pass_un h hr (by omega) hv (by simpa using hf) hp
  rw [e]
  exact ⟨hv, hp, fun u hu hq => pass_un h hr hu hv hq hp⟩

/-! errors -/
/-- Do two digits at a place come to the same. -/
def sameD (k : Nat) (ws : List Int) (p a b : Nat) : Bool :=
  if k = 1 then decide (wt ws p * ((a : Int) - b) % 10 = 0) else if k = 2 then decide (wt ws p * ((a : Int) - b) % 11 = 0) else decide (a = b)
theorem one_err {k : Nat} {ws : List Int} (h : rightD k ws = true) {pre post : List Nat} {a b : Nat} (hpre : k = 4 → ∀ v ∈ pre, v < 10) (hpost : ∀ v ∈ post, v < 10) (hab : k ≠ 2 → a < 10 ∧ b < 10) (hp : passD k ws (pre ++ a :: post) = true) :
    passD k ws (pre ++ b :: post) = sameD k ws pre.length a b := by
  rcases right_kind h with rfl | rfl | rfl | rfl
  · simp only [passD, sameD, sumD_app, sumD] at hp ⊢; simp at hp ⊢
    rw [Int.mul_sub, Int.mul_comm (wt ws pre.length) a, Int.mul_comm (wt ws pre.length) b]
    generalize (a : Int) * wt ws pre.length = X at *; generalize (b : Int) * wt ws pre.length = Y at *
    omega
  · simp only [passD, sameD, sumD_app, sumD] at hp ⊢; simp at hp ⊢
    rw [Int.mul_sub, Int.mul_comm (wt ws pre.length) a, Int.mul_comm (wt ws pre.length) b]
    generalize (a : Int) * wt ws pre.length = X at *; generalize (b : Int) * wt ws pre.length = Y at *
    omega
  · obtain ⟨ha, hb⟩ := hab (by omega)
    simp only [passD, sameD, luhnD_app, luhnD] at hp ⊢; simp at hp ⊢
    constructor
    · intro hq; exact lu_inj pre.length ha hb (by omega)
    · rintro rfl; exact hp
  · obtain ⟨ha, hb⟩ := hab (by omega)
    simp only [passD, sameD, permD_app, permD, Nat.zero_add] at hp ⊢; simp at hp ⊢
    have hq := permD_lt pre 0 0 (by omega) (hpre rfl)
    have hi := Nat.mod_lt pre.length (show 8 > 0 by omega)
    have ta := tn_lt _ hi a ha
    have tb := tn_lt _ hi b hb
    constructor
    · intro hz
      have := permD_inj post _ _ _ (tm_lt _ hq _ ta) (tm_lt _ hq _ tb) hpost (hp.trans hz.symm)
      exact tn_inj _ hi a ha b hb (tm_inj2 _ hq _ ta _ tb this)
    · rintro rfl; exact hp
/-- Do two neighbours come to the same when they are exchanged. -/
def exchD (k : Nat) (ws : List Int) (p a b : Nat) : Bool :=
  if k = 1 then decide ((wt ws p - wt ws (p + 1)) * ((a : Int) - b) % 10 = 0) else if k = 2 then decide ((wt ws p - wt ws (p + 1)) * ((a : Int) - b) % 11 = 0) else if k = 3 then decide (nineD a b) else decide (a = b)
theorem two_err {k : Nat} {ws : List Int} (h : rightD k ws = true) {pre post : List Nat} {a b : Nat} (hpre : k = 4 → ∀ v ∈ pre, v < 10) (hpost : ∀ v ∈ post, v < 10) (ha : a < 10) (hb : b < 10) (hp : passD k ws (pre ++ a :: b :: post) = true) :
    passD k ws (pre ++ b :: a :: post) = exchD k ws pre.length a b := by
  rcases right_kind h with rfl | rfl | rfl | rfl
  · simp only [passD, exchD, sumD_app, sumD, Nat.zero_add] at hp ⊢; simp at hp ⊢
    rw [Int.mul_sub, Int.sub_mul, Int.sub_mul, Int.mul_comm (wt ws pre.length) a, Int.mul_comm (wt ws pre.length) b, Int.mul_comm (wt ws (pre.length + 1)) a, Int.mul_comm (wt ws (pre.length + 1)) b]
    generalize (a : Int) * wt ws pre.length = X at *; generalize (b : Int) * wt ws pre.length = Y at *
    generalize (a : Int) * wt ws (pre.length + 1) = X' at *; generalize (b : Int) * wt ws (pre.length + 1) = Y' at *
    omega
  · simp only [passD, exchD, sumD_app, sumD, Nat.zero_add] at hp ⊢; simp at hp ⊢
    rw [Int.mul_sub, Int.sub_mul, Int.sub_mul, Int.mul_comm (wt ws pre.length) a, Int.mul_comm (wt ws pre.length) b, Int.mul_comm (wt ws (pre.length + 1)) a, Int.mul_comm (wt ws (pre.length + 1)) b]
    generalize (a : Int) * wt ws pre.length = X at *; generalize (b : Int) * wt ws pre.length = Y at *
    generalize (a : Int) * wt ws (pre.length + 1) = X' at *; generalize (b : Int) * wt ws (pre.length + 1) = Y' at *
    omega
  · simp only [passD, exchD, luhnD_app, luhnD, Nat.zero_add] at hp ⊢; simp at hp ⊢
    rw [← lu_swap pre.length ha hb]; omega
  · simp only [passD, exchD, permD_app, permD, Nat.zero_add] at hp ⊢; simp at hp ⊢
    have hq := permD_lt pre 0 0 (by omega) (hpre rfl)
    have hi := Nat.mod_lt pre.length (show 8 > 0 by omega)
    have hi' := Nat.mod_lt (pre.length + 1) (show 8 > 0 by omega)
    constructor
    · intro hz
      have := permD_inj post _ _ _ (tm_lt _ (tm_lt _ hq _ (tn_lt _ hi a ha)) _ (tn_lt _ hi' b hb)) (tm_lt _ (tm_lt _ hq _ (tn_lt _ hi b hb)) _ (tn_lt _ hi' a ha)) hpost (hp.trans hz.symm)
      rw [show (pre.length + 1) % 8 = (pre.length % 8 + 1) % 8 by omega] at this
      exact tm_swap _ hq _ hi a ha b hb this
    · rintro rfl; exact hp
theorem el_inj : ∀ d : Nat, d < 21 → ∀ w : Nat, w < 11 → 1 ≤ w → ((w : Int) * ((d : Int) - 10)) % 11 = 0 → d = 10 := by decide +kernel
/-- All but sums by 10 tell each digit from any other. -/
theorem same_eq {k : Nat} {ws : List Int} (h : rightD k ws = true) (hk : k ≠ 1) (p : Nat) {a b : Nat} (ha : a ≤ 10) (hb : b ≤ 10) : sameD k ws p a b = decide (a = b) := by
  unfold sameD; rw [if_neg hk]
  by_cases h2 : k = 2
  · subst h2
    rw [if_pos rfl]
    obtain ⟨w1, w2⟩ := wt_b h (.inr rfl) p
    rw [decide_eq_decide]
    constructor
    · intro hz
      have := el_inj (a + 10 - b) (by omega) (wt ws p).toNat (by omega) (by omega) (by rw [Int.toNat_of_nonneg (by omega), show ((a + 10 - b : Nat) : Int) - 10 = (a : Int) - b by omega]; exact hz)
      omega
    · rintro rfl; simp
  · rw [if_neg h2]
theorem same_rfl (k : Nat) (ws : List Int) (p a : Nat) : sameD k ws p a a = true := by
  unfold sameD; split
  · simp
  · split <;> simp
end Go.Proofs.YtnhkhpnkhkagaaaDoor
