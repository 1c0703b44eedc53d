/- Check digits: which errors are listed. -/
import Derived.Test.YtnhkhpnkhkagaaaDoorDR
namespace Go.Proofs.YtnhkhpnkhkagaaaDoor

theorem set_at (x : Nat) : ∀ (n i : Nat), i < n → (List.replicate n 0).set i x = List.replicate i 0 ++ x :: List.replicate (n - i - 1) 0
  | 0, _, h => by omega
  | n + 1, 0, _ => by simp [List.replicate_succ]
  | n + 1, i + 1, h => by
    rw [List.replicate_succ, List.set_cons_succ, set_at x n i (by omega), List.replicate_succ, show n + 1 - (i + 1) - 1 = n - i - 1 by omega]; rfl
theorem set_mid {α : Type} (pre post : List α) (a b : α) (i : Nat) (h : i = pre.length) : (pre ++ a :: post).set i b = pre ++ b :: post := by
  subst h
  rw [List.set_append_right _ _ (Nat.le_refl _), Nat.sub_self]; rfl
theorem rep_lt {n : Nat} : ∀ v ∈ List.replicate n 0, v < 10 := fun v hv => by
  obtain ⟨_, rfl⟩ := List.mem_replicate.1 hv; omega
theorem miss_one {k : Nat} {ws : List Int} (h : rightD k ws = true) {n p a b : Nat} (h1 : 1 ≤ p) (h2 : p ≤ n) (ha : a < 10) (hb : b < 10) : missD k ws n (false, p, a, b) = sameD k ws p a b := by
  have e1 : mis1 n (false, p, a, b) = 0 :: (List.replicate (p - 1) 0 ++ a :: List.replicate (n - p) 0) := by
    show (List.replicate (n + 1) 0).set p a = _
    obtain ⟨q, rfl⟩ : ∃ q, p = q + 1 := ⟨p - 1, by omega⟩
    rw [List.replicate_succ, List.set_cons_succ, set_at a n q (by omega), show n - q - 1 = n - (q + 1) by omega]; rfl
  have hr : ∀ v ∈ List.replicate (p - 1) 0 ++ a :: List.replicate (n - p) 0, v < 10 := fun v hv => by
    simp only [List.mem_append, List.mem_cons] at hv
    rcases hv with hv | rfl | hv
    · exact rep_lt v hv
    · exact ha
    · exact rep_lt v hv
  obtain ⟨hc1, hc2, hc3⟩ := check_pass h 0 hr
  unfold missD
  rw [e1, List.set_cons_zero]
  show passD k ws ((checkD k ws _ :: (List.replicate (p - 1) 0 ++ a :: List.replicate (n - p) 0)).set p b) = _
  rw [← List.cons_append, set_mid _ _ _ _ _ (by simp; omega)]
  rw [← List.cons_append] at hc2
  have := one_err h (b := b) (fun hk v hv => ?_) rep_lt (fun _ => ⟨ha, hb⟩) hc2
  · rw [this]; congr 1; simp; omega
  · rcases List.mem_cons.1 hv with rfl | hv
    · have : mostD k = 9 := by unfold mostD; rw [if_neg (by omega)]
      omega
    · exact rep_lt v hv
theorem miss_two {k : Nat} {ws : List Int} (h : rightD k ws = true) {n p a b : Nat} (h1 : 1 ≤ p) (h2 : p + 1 ≤ n) (ha : a < 10) (hb : b < 10) : missD k ws n (true, p, a, b) = exchD k ws p b a := by
  have e1 : mis1 n (true, p, a, b) = 0 :: (List.replicate (p - 1) 0 ++ b :: a :: List.replicate (n - p - 1) 0) := by
    show ((List.replicate (n + 1) 0).set (p + 1) a).set p b = _
    obtain ⟨q, rfl⟩ : ∃ q, p = q + 1 := ⟨p - 1, by omega⟩
    rw [List.replicate_succ, List.set_cons_succ, set_at a n (q + 1) (by omega), List.set_cons_succ, show n - (q + 1) - 1 = n - (q + 1) - 1 by omega,
      List.replicate_succ', List.append_assoc, List.singleton_append, set_mid _ _ _ _ _ (by simp)]; rfl
  have hr : ∀ v ∈ List.replicate (p - 1) 0 ++ b :: a :: List.replicate (n - p - 1) 0, v < 10 := fun v hv => by
    simp only [List.mem_append, List.mem_cons] at hv
    rcases hv with hv | rfl | rfl | hv
    · exact rep_lt v hv
    · exact hb
    · exact ha
    · exact rep_lt v hv
  obtain ⟨hc1, hc2, hc3⟩ := check_pass h 0 hr
  unfold missD
  rw [e1, List.set_cons_zero]
  show passD k ws (((checkD k ws _ :: (List.replicate (p - 1) 0 ++ b :: a :: List.replicate (n - p - 1) 0)).set (p + 1) b).set p a) = _
  rw [show (checkD k ws (0 :: (List.replicate (p - 1) 0 ++ b :: a :: List.replicate (n - p - 1) 0)) :: (List.replicate (p - 1) 0 ++ b :: a :: List.replicate (n - p - 1) 0))
      = ((checkD k ws (0 :: (List.replicate (p - 1) 0 ++ b :: a :: List.replicate (n - p - 1) 0)) :: List.replicate (p - 1) 0) ++ [b]) ++ a :: List.replicate (n - p - 1) 0 by simp,
    set_mid _ _ _ _ _ (by simp; omega), List.append_assoc, List.singleton_append, set_mid _ _ _ _ _ (by simp; omega)]
  rw [← List.cons_append] at hc2
  have := two_err h (fun hk v hv => ?_) rep_lt hb ha hc2
  · rw [this]; congr 1; simp; omega
  · rcases List.mem_cons.1 hv with rfl | hv
    · have : mostD k = 9 := by unfold mostD; rw [if_neg (by omega)]
      omega
    · exact rep_lt v hv
theorem mem_missL {k : Nat} {ws : List Int} {n : Nat} (m : MissT) : m ∈ missL k ws n ↔ 1 ≤ m.2.1 ∧ m.2.1 ≤ (if m.1 then n - 1 else n) ∧ m.2.2.1 < m.2.2.2 ∧ m.2.2.2 < 10 ∧ missD k ws n m = true := by
  obtain ⟨sw, p, a, b⟩ := m
  have hB : ∀ s x q, (sw, p, a, b) ∈ missB k ws n s q x ↔ sw = s ∧ p = q ∧ a = x ∧ a < b ∧ b < 10 ∧ missD k ws n (sw, p, a, b) = true := by
    intro s x q
    simp only [missB, List.mem_map, List.mem_filter, List.mem_range, Bool.and_eq_true, decide_eq_true_eq, Prod.mk.injEq]
    constructor
    · rintro ⟨y, ⟨h1, h2, h3⟩, rfl, rfl, rfl, rfl⟩; exact ⟨rfl, rfl, rfl, h2, h1, h3⟩
    · rintro ⟨rfl, rfl, rfl, h1, h2, h3⟩; exact ⟨b, ⟨h2, h1, h3⟩, rfl, rfl, rfl, rfl⟩
  have hS : ∀ s, (sw, p, a, b) ∈ missS k ws n s ↔ sw = s ∧ 1 ≤ p ∧ p ≤ (if s then n - 1 else n) ∧ a < b ∧ b < 10 ∧ missD k ws n (sw, p, a, b) = true := by
    intro s
    simp only [missS, missA, List.mem_flatMap, List.mem_range, hB]
    constructor
    · rintro ⟨i, hi, x, hx, rfl, rfl, rfl, h1, h2, h3⟩; exact ⟨rfl, by omega, by omega, h1, h2, h3⟩
    · rintro ⟨rfl, h0, h1, h2, h3, h4⟩; exact ⟨p - 1, by omega, a, by omega, rfl, by omega, rfl, h2, h3, h4⟩
  unfold missL
  rw [List.mem_append, hS, hS]
  cases sw <;> simp
theorem miss_perm (n : Nat) : missL 4 [] n = [] := by
  rw [List.eq_nil_iff_forall_not_mem]
  rintro ⟨sw, p, a, b⟩ hm
  obtain ⟨h1, h2, h3, h4, h5⟩ := (mem_missL _).1 hm
  have hr : rightD 4 [] = true := by decide
  simp only at h1 h2 h3 h4
  cases sw
  · rw [miss_one hr h1 (by simpa using h2) (by omega) h4] at h5
    simp [sameD] at h5; omega
  · rw [miss_two hr h1 (by simp at h2; omega) (by omega) h4] at h5
    simp [exchD] at h5; omega
theorem luhn_b : ∀ a < 10, ((List.range 10).filter fun b => decide (a < b) && decide (nineD b a)) = if a = 0 then [9] else [] := by decide +kernel
theorem miss_luhn (n : Nat) : missL 3 [] n = (List.range (n - 1)).map fun i => (true, i + 1, 0, 9) := by
  have hr : rightD 3 [] = true := by decide
  have e1 : missS 3 [] n false = [] := by
    rw [List.eq_nil_iff_forall_not_mem]
    rintro ⟨sw, p, a, b⟩ hm
    obtain ⟨h1, h2, h3, h4, h5⟩ := (mem_missL (k := 3) (ws := []) (n := n) _).1 (List.mem_append_left _ hm)
    simp only at h1 h2 h3 h4
    have hsw : sw = false := by
      simp only [missS, missA, missB, List.mem_flatMap, List.mem_map, Prod.mk.injEq] at hm
      obtain ⟨_, _, _, _, _, _, h, _⟩ := hm
      exact h.symm
    subst hsw
    rw [miss_one hr h1 (by simpa using h2) (by omega) h4] at h5
    simp [sameD] at h5; omega
  unfold missL
  rw [e1, List.nil_append]
  unfold missS
  rw [if_pos rfl]
  have key : ∀ l : List Nat, (∀ i ∈ l, i < n - 1) → (l.flatMap fun i => missA 3 [] n true (i + 1)) = l.map fun i => (true, i + 1, 0, 9) := by
    intro l
    induction l with
    | nil => intro _; rfl
    | cons i l ih =>
      intro hl
      rw [List.flatMap_cons, ih fun j hj => hl j (by simp [hj]), List.map_cons]
      have hi := hl i (by simp)
      have hA : ∀ a, a < 10 → missB 3 [] n true (i + 1) a = if a = 0 then [(true, i + 1, 0, 9)] else [] := by
        intro a ha
        unfold missB
        rw [show (List.range 10).filter (fun b => decide (a < b) && missD 3 [] n (true, i + 1, a, b)) = (List.range 10).filter (fun b => decide (a < b) && decide (nineD b a)) from
          List.filter_congr fun b hb => by rw [miss_two hr (by omega) (by omega) ha (List.mem_range.1 hb)]; rfl, luhn_b a ha]
        split
        · subst_vars; rfl
        · rfl
      have : missA 3 [] n true (i + 1) = [(true, i + 1, 0, 9)] := by
        unfold missA
        rw [show List.range 10 = [0, 1, 2, 3, 4, 5, 6, 7, 8, 9] from rfl]
        simp only [List.flatMap_cons, List.flatMap_nil]
        rw [hA 0 (by omega), hA 1 (by omega), hA 2 (by omega), hA 3 (by omega), hA 4 (by omega), hA 5 (by omega), hA 6 (by omega), hA 7 (by omega), hA 8 (by omega), hA 9 (by omega)]
        rfl
      rw [this]; rfl
  exact key _ fun i hi => List.mem_range.1 hi
end Go.Proofs.YtnhkhpnkhkagaaaDoor
