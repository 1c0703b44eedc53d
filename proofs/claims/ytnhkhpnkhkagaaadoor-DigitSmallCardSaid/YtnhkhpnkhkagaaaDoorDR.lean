/- Check digits: texts with another character at a place. -/
import Derived.Test.YtnhkhpnkhkagaaaDoorDQ
namespace Go.Proofs.YtnhkhpnkhkagaaaDoor

theorem chs_congr {f g : Nat → Bool} : ∀ (n v : Nat), (∀ x, v ≤ x → x < v + n → f x = g x) → chs f v n = chs g v n
  | 0, _, _ => rfl
  | n + 1, v, h => by unfold chs; rw [h v (Nat.le_refl _) (by omega), chs_congr n (v + 1) fun x a b => h x (by omega) (by omega)]
theorem chs_more (f : Nat → Bool) : ∀ (n v : Nat), chs f v (n + 1) = chs f v n ++ (if f (v + n) then [chr (v + n)] else [])
  | 0, v => by simp [chs]
  | n + 1, v => by
    rw [show chs f v (n + 1 + 1) = if f v then chr v :: chs f (v + 1) (n + 1) else chs f (v + 1) (n + 1) from rfl, chs_more f n (v + 1), show v + 1 + n = v + (n + 1) by omega,
      show chs f v (n + 1) = if f v then chr v :: chs f (v + 1) n else chs f (v + 1) n from rfl]
    by_cases h : f v = true
    · rw [if_pos h, if_pos h]; rfl
    · rw [if_neg h, if_neg h]
theorem chs_none {f : Nat → Bool} : ∀ (n v : Nat), (∀ x, v ≤ x → x < v + n → f x = false) → chs f v n = []
  | 0, _, _ => rfl
  | n + 1, v, h => by unfold chs; rw [h v (Nat.le_refl _) (by omega), chs_none n (v + 1) fun x a b => h x (by omega) (by omega)]; rfl
theorem chs_app (f : Nat → Bool) : ∀ (m n v : Nat), chs f v (m + n) = chs f v m ++ chs f (v + m) n
  | 0, n, v => by simp [chs]
  | m + 1, n, v => by
    rw [show m + 1 + n = (m + n) + 1 by omega]
    rw [show chs f v (m + n + 1) = if f v then chr v :: chs f (v + 1) (m + n) else chs f (v + 1) (m + n) from rfl, show chs f v (m + 1) = if f v then chr v :: chs f (v + 1) m else chs f (v + 1) m from rfl,
      chs_app f m n (v + 1), show v + 1 + m = v + (m + 1) by omega]
    by_cases h : f v = true
    · rw [if_pos h, if_pos h]; rfl
    · rw [if_neg h, if_neg h]
/-- Just one. -/
theorem chs_one {f : Nat → Bool} {u : Nat} : ∀ (n v : Nat), v ≤ u → u < v + n → (∀ x, v ≤ x → x < v + n → f x = decide (x = u)) → chs f v n = [chr u]
  | 0, _, h1, h2, _ => by omega
  | n + 1, v, h1, h2, h => by
    unfold chs
    have hv := h v (Nat.le_refl _) (by omega)
    by_cases e : v = u
    · subst e
      rw [hv, decide_eq_true rfl, if_pos rfl, chs_none n (v + 1) fun x a b => by rw [h x (by omega) (by omega)]; exact decide_eq_false (by omega)]
    · rw [hv, decide_eq_false e, if_neg (by decide)]
      exact chs_one n (v + 1) (by omega) (by omega) fun x a b => h x (by omega) (by omega)
theorem chs_mem (f : Nat → Bool) (c : UInt8) : ∀ (n v : Nat), c ∈ chs f v n ↔ ∃ x, v ≤ x ∧ x < v + n ∧ f x = true ∧ c = chr x
  | 0, v => by simp [chs]; intro x h1 h2; omega
  | n + 1, v => by
    unfold chs
    have ih := chs_mem f c n (v + 1)
    by_cases h : f v = true
    · rw [if_pos h, List.mem_cons, ih]
      constructor
      · rintro (rfl | ⟨x, a, b, e, e'⟩)
        · exact ⟨v, Nat.le_refl _, by omega, h, rfl⟩
        · exact ⟨x, by omega, by omega, e, e'⟩
      · rintro ⟨x, a, b, e, e'⟩
        by_cases hx : x = v
        · subst hx; exact .inl e'
        · exact .inr ⟨x, by omega, by omega, e, e'⟩
    · rw [if_neg h, ih]
      constructor
      · rintro ⟨x, a, b, e, e'⟩; exact ⟨x, by omega, by omega, e, e'⟩
      · rintro ⟨x, a, b, e, e'⟩
        refine ⟨x, ?_, by omega, e, e'⟩
        rcases Nat.lt_or_ge v x with h1 | h1
        · exact h1
        · obtain rfl : x = v := by omega
          exact absurd e h

theorem isDig_chr {v : Nat} (h : v < 10) : isDig (chr v) = true := by
  unfold isDig; rw [chr_toNat (by omega), if_neg (by omega)]; simp; omega
theorem isDig_chr10 : isDig (chr 10) = false := by decide
theorem isEnd_chr {k v : Nat} (h : v ≤ 10) : isEnd k (chr v) = decide (v ≤ mostD k) := by
  unfold isEnd mostD
  by_cases h10 : v = 10
  · subst h10
    rw [isDig_chr10]
    by_cases hk : k = 2
    · subst hk; decide
    · simp [hk]
  · rw [isDig_chr (by omega)]; simp; split <;> omega
theorem dig_chr {c : UInt8} (h : isDig c = true) : chr (valC c) = c := by
  obtain ⟨h1, h2⟩ := valC_dig h
  apply UInt8.toNat_inj.1
  rw [chr_toNat (by omega), if_neg (by omega)]; omega
theorem end_chr {k : Nat} {c : UInt8} (h : isEnd k c = true) : chr (valC c) = c := by
  simp only [isEnd, Bool.or_eq_true, Bool.and_eq_true, decide_eq_true_eq] at h
  rcases h with h | ⟨h, _⟩
  · exact dig_chr h
  · have e : c = 88 := UInt8.toNat_inj.1 h
    subst e; rfl
/-- Is a character in order at an index of A ++ c :: B. -/
theorem chk_put (k : Nat) (A B : List UInt8) (c : UInt8) : isChk k (A ++ c :: B) = (if B = [] then isPay A && isEnd k c else A.all isDig && (isDig c && isChk k (48 :: B))) := by
  rcases List.eq_nil_or_concat B with rfl | ⟨s, d, rfl⟩
  · rw [if_pos rfl, isChk_snoc]
  · rw [List.concat_eq_append, if_neg (by simp), show A ++ c :: (s ++ [d]) = (A ++ c :: s) ++ [d] by simp, show (48 : UInt8) :: (s ++ [d]) = (48 :: s) ++ [d] by simp, isChk_snoc, isChk_snoc]
    have e : isDig 48 = true := by decide
    simp [isPay, e, Bool.and_assoc]
theorem chk_put_dig {k : Nat} {A B : List UInt8} {c d : UInt8} (hd : isDig d = true) (h : isChk k (A ++ c :: B) = true) : isChk k (A ++ d :: B) = true := by
  rw [chk_put] at h ⊢
  split
  · rw [if_pos (by assumption)] at h
    simp only [Bool.and_eq_true] at h ⊢
    exact ⟨h.1, by unfold isEnd; rw [hd]; rfl⟩
  · rw [if_neg (by assumption)] at h
    simp only [Bool.and_eq_true] at h ⊢
    exact ⟨h.1, hd, h.2.2⟩
theorem vals_put (A B : List UInt8) (c : UInt8) : vals (A ++ c :: B) = vals B ++ valC c :: vals A := by simp [vals]
theorem chk_B {k : Nat} {A B : List UInt8} {c : UInt8} (h : isChk k (A ++ c :: B) = true) : (∀ v ∈ vals A, v < 10) ∧ (∀ d ∈ A, isDig d = true) ∧ (B ≠ [] → isDig c = true) ∧ (B = [] → isEnd k c = true ∧ A ≠ []) := by
  rw [chk_put] at h
  split at h
  · simp only [Bool.and_eq_true, isPay_iff] at h
    exact ⟨pay_vals h.1.2, h.1.2, fun e => absurd (by assumption) e, fun _ => ⟨h.2, h.1.1⟩⟩
  · simp only [Bool.and_eq_true, List.all_eq_true] at h
    exact ⟨pay_vals h.1, h.1, fun _ => h.2.1, fun e => absurd e (by assumption)⟩
/-- A text with one unknown character, and one without. -/
theorem zeroQ_at {A B : List UInt8} (hA : (63 : UInt8) ∉ A) : zeroQ (A ++ 63 :: B) = A ++ 48 :: B := by
  induction A with
  | nil => rfl
  | cons a A ih =>
    rw [List.cons_append, zeroQ, if_neg (fun e => hA (by simp [e])), ih fun h => hA (by simp [h])]; rfl
theorem qAt_at {A B : List UInt8} (hA : (63 : UInt8) ∉ A) : qAt (A ++ 63 :: B) = A.length := by
  unfold qAt
  induction A with
  | nil => rfl
  | cons a A ih =>
    have : (a == 63) = false := by simp; exact fun e => hA (by simp [e])
    rw [List.cons_append, List.findIdx_cons, this]
    simp only [cond_false, List.length_cons]
    rw [ih fun h => hA (by simp [h])]
theorem split_q {t : List UInt8} (h : (63 : UInt8) ∈ t) : ∃ A B, t = A ++ 63 :: B ∧ (63 : UInt8) ∉ A := by
  induction t with
  | nil => simp at h
  | cons c t ih =>
    by_cases e : c = 63
    · exact ⟨[], t, by simp [e], by simp⟩
    · obtain ⟨A, B, h1, h2⟩ := ih (by rcases List.mem_cons.1 h with h | h; exact absurd h.symm e; exact h)
      exact ⟨c :: A, B, by simp [h1], by simp [h2]; exact fun h => e h.symm⟩
/-- One ?. -/
theorem one_q {t : List UInt8} (h : t.count 63 = 1) : ∃ A B, t = A ++ 63 :: B ∧ (63 : UInt8) ∉ A ∧ (63 : UInt8) ∉ B := by
  obtain ⟨A, B, rfl, hA⟩ := split_q (List.count_pos_iff.1 (show 0 < t.count 63 by rw [h]; exact Nat.one_pos))
  refine ⟨A, B, rfl, hA, ?_⟩
  rw [List.count_append, List.count_cons_self] at h
  exact fun hB => by have := List.count_pos_iff.2 hB; omega
theorem count_q {A B : List UInt8} (hA : (63 : UInt8) ∉ A) (hB : (63 : UInt8) ∉ B) : (A ++ 63 :: B).count 63 = 1 := by
  rw [List.count_append, List.count_cons_self, List.count_eq_zero_of_not_mem hA, List.count_eq_zero_of_not_mem hB]
theorem test_right {k : Nat} {ws : List Int} {t : List UInt8} (h : rightD k ws = true) (hl : t.length ≤ 31) : testR k ws t = if isChk k t then (passD k ws (vals t), 0) else (false, 161) := by
  unfold testR; rw [h, if_neg (by simp), if_neg (by omega)]
  cases isChk k t <;> rfl
/-- Filling in, told by the tests of all eleven characters. -/
theorem fill_tests {k : Nat} {ws : List Int} {A B : List UInt8} (h : rightD k ws = true) (hl : (A ++ 63 :: B).length ≤ 31) (hA : (63 : UInt8) ∉ A) (hB : (63 : UInt8) ∉ B) (hc : isChk k (A ++ 48 :: B) = true) :
    fillR k ws (A ++ 63 :: B) = (chs (fun v => decide (testR k ws (A ++ chr v :: B) = (true, 0))) 0 11, 0) := by
  unfold fillR
  rw [h, if_neg (by simp), if_neg (by omega), if_neg (by rw [count_q hA hB, zeroQ_at hA, hc]; simp), zeroQ_at hA, qAt_at hA]
  have hp : (A ++ 63 :: B).length - 1 - A.length = B.length := by simp
  rw [hp]
  have hset : ∀ v, (vals (A ++ 48 :: B)).set B.length v = vals B ++ v :: vals A := fun v => by
    rw [vals_put, List.set_append_right _ _ (Nat.le_of_eq (vals_len B)), vals_len, Nat.sub_self]; rfl
  have key : ∀ v, v ≤ 10 → decide (testR k ws (A ++ chr v :: B) = (true, 0)) = (decide (v ≤ if B.length = 0 then mostD k else 9) && passD k ws ((vals (A ++ 48 :: B)).set B.length v)) := by
    intro v hv
    have hlen : (A ++ chr v :: B).length ≤ 31 := by simpa using hl
    rw [test_right h hlen, hset, vals_put, valC_chr hv]
    have hchk : isChk k (A ++ chr v :: B) = decide (v ≤ if B.length = 0 then mostD k else 9) := by
      rw [chk_put] at hc ⊢
      by_cases hb : B = []
      · subst hb
        rw [if_pos rfl] at hc ⊢
        simp only [Bool.and_eq_true] at hc
        rw [hc.1, isEnd_chr hv]; rfl
      · rw [if_neg hb] at hc ⊢
        have hbl : B.length ≠ 0 := fun e => hb (List.eq_nil_of_length_eq_zero e)
        simp only [Bool.and_eq_true] at hc
        rw [hc.1, hc.2.2, if_neg hbl]
        by_cases h10 : v = 10
        · subst h10; rfl
        · rw [isDig_chr (by omega), decide_eq_true (show v ≤ 9 by omega)]; rfl
    rw [hchk]
    cases decide (v ≤ if B.length = 0 then mostD k else 9) <;> simp
  have hm := mostD_le k
  have hm' : (if B.length = 0 then mostD k else 9) ≤ 10 := by split <;> omega
  generalize hM : (if B.length = 0 then mostD k else 9) = M at *
  have e : chs (fun v => decide (testR k ws (A ++ chr v :: B) = (true, 0))) 0 11 = chs (fun v => decide (testR k ws (A ++ chr v :: B) = (true, 0))) 0 (M + 1) := by
    have := chs_app (fun v => decide (testR k ws (A ++ chr v :: B) = (true, 0))) (M + 1) (10 - M) 0
    rw [show M + 1 + (10 - M) = 11 by omega, chs_none (10 - M) (0 + (M + 1)) fun x a b => (key x (by omega)).trans (by rw [decide_eq_false (by omega)]; rfl), List.append_nil] at this
    exact this
  rw [e]
  congr 1
  exact chs_congr _ _ fun x a b => ((key x (by omega)).trans (by rw [decide_eq_true (by omega)]; rfl)).symm
end Go.Proofs.YtnhkhpnkhkagaaaDoor
