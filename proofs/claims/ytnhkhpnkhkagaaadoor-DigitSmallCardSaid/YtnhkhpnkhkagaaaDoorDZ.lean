/- Chapter 16, plain: the reference. -/
import Derived.Test.YtnhkhpnkhkagaaaDoorDY
import Derived.Test.YtnhkhpnkhkagaaaDoorLQ
namespace Go.Proofs.YtnhkhpnkhkagaaaDoor
def trL : List UInt8 := [49, 53, 55, 54, 50, 56, 51, 48, 57, 52]
theorem tr_at : ∀ x < 10, trL[x]? = some (UInt8.ofNat (48 + tn 1 x)) := by decide +kernel
theorem tr_nat {x : Nat} (h : x < 10) : ((UInt8.ofNat (48 + tn 1 x)).toNat : Int) - 48 = (tn 1 x : Nat) := by
  have := tn_lt 1 (by omega) x h
  rw [UInt8.toNat_ofNat_of_lt' (show 48 + tn 1 x < 256 by omega)]; omega
theorem tn_step : ∀ j < 8, ∀ x < 10, tn 1 (tn j x) = tn ((j + 1) % 8) x := by decide +kernel
theorem tn_next (j : Nat) {x : Nat} (h : x < 10) : tn 1 (tn (j % 8) x) = tn ((j + 1) % 8) x := by
  rw [tn_step (j % 8) (Nat.mod_lt _ (by omega)) x h]; congr 1; omega
theorem pr_a : ∀ x < 5, ∀ y < 5, (x + y) % 5 = tm x y := by decide +kernel
theorem pr_b : ∀ x < 5, ∀ y < 10, 5 ≤ y → 5 + (x + y) % 5 = tm x y := by decide +kernel
theorem pr_c : ∀ x < 10, ∀ y < 5, 5 ≤ x → 5 + (x + 5 - y) % 5 = tm x y := by decide +kernel
theorem pr_d : ∀ x < 10, ∀ y < 10, 5 ≤ x → 5 ≤ y → (x + 5 - y) % 5 = tm x y := by decide +kernel
theorem lu_odd {p x : Nat} (h : p % 2 = 1) (hx : x ≤ 9) : lu p x = if 4 < x then x + x - 9 else x + x := by
  unfold lu; rw [if_pos h]; split <;> omega
theorem rright_bad {k : Nat} {ws : List Int} {i : Nat} {x : Int} (hk : k = 1 ∨ k = 2) (hx : ws[i]? = some x) (h : x < 1 ∨ 10 < x ∨ (x = 10 ∧ k = 1)) : false = rightD k ws := by
  symm; rw [Bool.eq_false_iff]
  intro hr
  have := (right_ws hr hk).2.2 x (List.mem_of_getElem? hx)
  split at this <;> omega
theorem rright_ok {k : Nat} {ws : List Int} (hk : k = 1 ∨ k = 2) (h1 : ws.length ≠ 0) (h2 : ws.length ≤ 10) (h : ws.all (okW k) = true) : true = rightD k ws := by
  unfold rightD; rw [if_pos hk, h, decide_eq_true (by omega), decide_eq_true h2]; rfl
theorem okW_of {k : Nat} {x : Int} (h1 : ¬ x < 1) (h2 : ¬ 10 < x) (h3 : ¬ (x = 10 ∧ k = 1)) : okW k x = true := by
  unfold okW; simp; split <;> omega
theorem all_more {α : Type} {l : List α} {f : α → Bool} {i : Nat} {x : α} (hx : l[i]? = some x) (h : (l.take i).all f = true) (hf : f x = true) : (l.take (i + 1)).all f = true := by
  rw [take_more hx, List.all_append, h]; simp [hf]
/-! values of a text -/
def valR (k : Nat) (ws : List Int) (t : List UInt8) : List Nat × Int :=
  if !rightD k ws then ([], 160) else if 31 < t.length then ([], 3) else if !isChk k t then ([], 161) else (vals t, 0)
def okAt (k j : Nat) (c : UInt8) : Bool := if j = 0 then isEnd k c else isDig c
theorem okAt_eq (k j : Nat) (c : UInt8) : okAt k j c = decide ((48 ≤ c.toNat ∧ c.toNat ≤ 57) ∨ (c.toNat = 88 ∧ j = 0 ∧ k = 2)) := by
  unfold okAt
  by_cases h : j = 0
  · rw [if_pos h, isEnd_dec, decide_eq_decide]; omega
  · rw [if_neg h]; unfold isDig
    rw [Bool.eq_iff_iff, Bool.and_eq_true, decide_eq_true_eq, decide_eq_true_eq, decide_eq_true_eq]; omega
theorem chk_short {k : Nat} {t : List UInt8} (h : t.length < 2) : isChk k t = false := by
  rw [Bool.eq_false_iff]
  intro hc
  obtain ⟨s, c, rfl, h1, _⟩ := (isChk_iff k t).1 hc
  have : s.length ≠ 0 := fun e => h1 (List.eq_nil_of_length_eq_zero e)
  simp at h; omega
theorem chk_all {k : Nat} {t : List UInt8} (h2 : 2 ≤ t.length) (h : ∀ j, j < t.length → ∀ c, t[t.length - 1 - j]? = some c → okAt k j c = true) : isChk k t = true := by
  rcases List.eq_nil_or_concat t with rfl | ⟨s, c, rfl⟩
  · simp at h2
  · rw [List.concat_eq_append] at *
    have hl : (s ++ [c]).length = s.length + 1 := by simp
    rw [isChk_snoc, Bool.and_eq_true, isPay_iff]
    refine ⟨⟨fun e => by subst e; simp at h2, fun d hd => ?_⟩, ?_⟩
    · obtain ⟨i, hi, rfl⟩ := List.getElem_of_mem hd
      have := h (s.length - i) (by omega) s[i] (by rw [show (s ++ [c]).length - 1 - (s.length - i) = i by omega, List.getElem?_append_left hi, List.getElem?_eq_getElem hi])
      unfold okAt at this; rw [if_neg (by omega)] at this; exact this
    · have := h 0 (by omega) c (by rw [show (s ++ [c]).length - 1 - 0 = s.length by omega]; simp)
      exact this
theorem chk_not {k : Nat} {t : List UInt8} {j : Nat} {c : UInt8} (hj : j < t.length) (hc : t[t.length - 1 - j]? = some c) (h : okAt k j c = false) : isChk k t = false := by
  rw [Bool.eq_false_iff]
  intro hk
  obtain ⟨s, d, rfl, h1, h2, h3⟩ := (isChk_iff k t).1 hk
  have hl : (s ++ [d]).length = s.length + 1 := by simp
  unfold okAt at h
  by_cases h0 : j = 0
  · subst h0
    rw [show (s ++ [d]).length - 1 - 0 = s.length by omega] at hc
    simp at hc; subst hc
    rw [if_pos rfl, h3] at h; cases h
  · rw [List.getElem?_append_left (by omega)] at hc
    rw [if_neg h0, h2 c (List.mem_of_getElem? hc)] at h; cases h
theorem vals_take {t : List UInt8} {i : Nat} {c : UInt8} (hi : i < t.length) (hc : t[t.length - 1 - i]? = some c) : (vals t).take (i + 1) = (vals t).take i ++ [valC c] := by
  have := vals_at t (t.length - 1 - i) (by omega)
  rw [show t.length - 1 - (t.length - 1 - i) = i by omega] at this
  rw [take_more this]
  congr 2
  rw [List.getElem?_eq_getElem (by omega)] at hc
  injection hc with hc; rw [hc]
/-! the check character, by trying -/
theorem rchk_hit {k : Nat} {ws : List Int} {t : List UInt8} {i : Nat} (hr : rightD k ws = true) (hl : t.length ≤ 30) (hi : i ≤ 10) (h1 : (testR k ws (t ++ [chr i])).1 = true) : checkR k ws t = (chr i, 0) := by
  have hck : isChk k (t ++ [chr i]) = true := by
    rw [test_right hr (by simp; omega)] at h1
    split at h1
    · assumption
    · cases h1
  have hp : isPay t = true := by rw [isChk_snoc, Bool.and_eq_true] at hck; exact hck.1
  obtain ⟨E, hE, hEE⟩ := one_test hr hp hl hi
  rw [hE] at h1
  rw [check_right hr hp hl, ← of_decide_eq_true h1]
theorem rchk_no {k : Nat} {ws : List Int} {t : List UInt8} (hr : rightD k ws = true) (hl : t.length ≤ 30) (h : ∀ i, i < 11 → ¬ ((testR k ws (t ++ [chr i])).2 = 0 ∧ (testR k ws (t ++ [chr i])).1 = true)) : checkR k ws t = (0, 161) := by
  by_cases hp : isPay t = true
  · exfalso
    have hm := mostD_le k
    have hc := checkD_le k ws (vals (t ++ [48]))
    obtain ⟨E, hE, hEE⟩ := one_test hr hp hl (i := checkD k ws (vals (t ++ [48]))) (by omega)
    refine h (checkD k ws (vals (t ++ [48]))) (by omega) ?_
    rw [hE]
    exact ⟨by rcases hEE with ⟨_, h⟩ | ⟨h, _⟩; exact h; omega, decide_eq_true rfl⟩
  · exact check_no_pay hr (by simpa using hp) hl
theorem no_upto {P : Nat → Prop} {i : Nat} (h : ∀ j, j < i → ¬ P j) (hi : ¬ P i) : ∀ j, j < i + 1 → ¬ P j := fun j hj => by
  by_cases e : j = i
  · subst e; exact hi
  · exact h j (by omega)
/-! filling in, by trying -/
theorem q_split {t : List UInt8} {a : Nat} (ha : t[a]? = some 63) (hc : t.count 63 = 1) : ∃ A B, t = A ++ 63 :: B ∧ A.length = a ∧ (63 : UInt8) ∉ A ∧ (63 : UInt8) ∉ B := by
  obtain ⟨A, B, rfl, rfl⟩ := split_at ha
  rw [List.count_append, List.count_cons_self] at hc
  exact ⟨A, B, rfl, rfl, fun h => by have := List.count_pos_iff.2 h; omega, fun h => by have := List.count_pos_iff.2 h; omega⟩
theorem rfill_err {k : Nat} {ws : List Int} {A B : List UInt8} (hr : rightD k ws = true) (hl : (A ++ 63 :: B).length ≤ 31) (hA : (63 : UInt8) ∉ A) (h : (testR k ws (A ++ 48 :: B)).2 ≠ 0) : fillR k ws (A ++ 63 :: B) = ([], (testR k ws (A ++ 48 :: B)).2) := by
  have hl2 : (A ++ 48 :: B).length ≤ 31 := by simpa using hl
  rw [test_right hr hl2] at h ⊢
  by_cases hc : isChk k (A ++ 48 :: B) = true
  · rw [if_pos hc] at h; exact absurd rfl h
  · rw [if_neg hc]
    exact fil_no hr hl (.inr (by rw [zeroQ_at hA]; simpa using hc))
theorem rfill_ok {k : Nat} {ws : List Int} {A B : List UInt8} (hr : rightD k ws = true) (hl : (A ++ 63 :: B).length ≤ 31) (hA : (63 : UInt8) ∉ A) (hB : (63 : UInt8) ∉ B) (h : (testR k ws (A ++ 48 :: B)).2 = 0) :
    fillR k ws (A ++ 63 :: B) = (chs (fun v => decide (testR k ws (A ++ chr v :: B) = (true, 0))) 0 11, 0) := by
  have hl2 : (A ++ 48 :: B).length ≤ 31 := by simpa using hl
  refine fill_tests hr hl hA hB ?_
  rw [test_right hr hl2] at h
  split at h
  · assumption
  · cases h
theorem pair_t {a : Bool × Int} (h2 : a.2 = 0) (h1 : a.1 = true) : decide (a = (true, 0)) = true := decide_eq_true (Prod.ext h1 h2)
theorem pair_f1 {a : Bool × Int} (h : ¬ a.2 = 0) : decide (a = (true, 0)) = false := decide_eq_false fun e => h (by rw [e])
theorem pair_f2 {a : Bool × Int} (h : a.1 = false) : decide (a = (true, 0)) = false := decide_eq_false fun e => by rw [e] at h; cases h
/-! completing values -/
theorem tail_rest {vs : List Nat} (hpos : 0 < vs.length) (h : ∀ x ∈ vs.tail, x < 10) : ∃ a rest, vs = a :: rest ∧ ∀ x ∈ rest, x < 10 := by
  cases vs with
  | nil => simp at hpos
  | cons a rest => exact ⟨a, rest, rfl, h⟩
theorem comp_hit {k : Nat} {ws : List Int} {a v : Nat} {rest : List Nat} (hr : rightD k ws = true) (h : ∀ x ∈ rest, x < 10) (hv : v < 10 ∨ (v < 11 ∧ k = 2)) (hp : passD k ws ((a :: rest).set 0 v) = true) : v = checkD k ws (a :: rest) := by
  refine (check_pass hr a h).2.2 v ?_ hp
  unfold mostD; split <;> omega
theorem comp_no {k : Nat} {ws : List Int} {a : Nat} {rest : List Nat} (hr : rightD k ws = true) (h : ∀ x ∈ rest, x < 10) (hn : ∀ v, v < 11 → ¬ ((v < 10 ∨ k = 2) ∧ passD k ws ((a :: rest).set 0 v) = true)) : False := by
  obtain ⟨h1, h2, _⟩ := check_pass hr a h
  have hm := mostD_or k
  exact hn _ (by omega) ⟨by omega, h2⟩
theorem set_most {k a v : Nat} {rest : List Nat} (h : ∀ x ∈ rest, x < 10) (hv : v < 10 ∨ (v < 11 ∧ k = 2)) : ∀ x ∈ (a :: rest).set 0 v, x ≤ mostD k := fun x hx => by
  rw [List.set_cons_zero] at hx
  rcases List.mem_cons.1 hx with rfl | hx
  · unfold mostD; split <;> omega
  · have := h x hx; have := mostD_ge k; omega
theorem rep_tail {n : Nat} : ∀ x ∈ (List.replicate n 0).tail, x < 10 := fun x hx => rep_lt x (List.mem_of_mem_tail hx)
theorem set_tail {l : List Nat} {i y : Nat} (h : ∀ x ∈ l.tail, x < 10) (hy : y < 10) : ∀ x ∈ (l.set i y).tail, x < 10 := fun x hx => by
  cases l with
  | nil => simp at hx
  | cons a l =>
    cases i with
    | zero => exact h x hx
    | succ i =>
      rw [List.set_cons_succ, List.tail_cons] at hx
      rcases List.mem_or_eq_of_mem_set hx with hx | rfl
      · exact h x hx
      · exact hy
theorem cnt_more {t : List UInt8} {i : Nat} {c : UInt8} (h : t[i]? = some c) : (t.take (i + 1)).count 63 = if c = 63 then (t.take i).count 63 + 1 else (t.take i).count 63 := by
  rw [take_more h, List.count_append, List.count_singleton]
  by_cases e : c = 63
  · subst e; simp
  · rw [if_neg e, if_neg (by simpa using e)]; rfl
theorem byte_eq63 {c : UInt8} (h : (c.toNat : Int) = 63) : c = 63 := UInt8.toNat_inj.1 (by show c.toNat = 63; omega)
theorem byte_ne63 {c : UInt8} (h : ¬ (c.toNat : Int) = 63) : ¬ c = 63 := fun e => h (by rw [e]; rfl)
theorem ok_upto {k i : Nat} {t : List UInt8} {c : UInt8} (h : ∀ j, j < i → ∀ c, t[t.length - 1 - j]? = some c → okAt k j c = true) (hc : t[t.length - 1 - i]? = some c) (hk : okAt k i c = true) : ∀ j, j < i + 1 → ∀ c, t[t.length - 1 - j]? = some c → okAt k j c = true := fun j hj d hd => by
  by_cases e : j = i
  · subst e; rw [hc] at hd; injection hd with hd; rw [← hd]; exact hk
  · exact h j (by omega) d hd
theorem rtest_err {k : Nat} {ws : List Int} {t : List UInt8} (h : (valR k ws t).2 ≠ 0) : testR k ws t = (false, (valR k ws t).2) := by
  unfold valR testR at *
  by_cases h1 : (!rightD k ws) = true
  · rw [if_pos h1, if_pos h1]
  · rw [if_neg h1] at h ⊢; rw [if_neg h1]
    by_cases h2 : 31 < t.length
    · rw [if_pos h2, if_pos h2]
    · rw [if_neg h2] at h ⊢; rw [if_neg h2]
      by_cases h3 : (!isChk k t) = true
      · rw [if_pos h3, if_pos h3]
      · rw [if_neg h3] at h; exact absurd rfl h
theorem valR_ok {k : Nat} {ws : List Int} {t : List UInt8} (h : (valR k ws t).2 = 0) : rightD k ws = true ∧ isChk k t = true ∧ (valR k ws t).1 = vals t ∧ t.length ≤ 31 := by
  unfold valR at *
  by_cases h1 : (!rightD k ws) = true
  · rw [if_pos h1] at h; cases h
  · rw [if_neg h1] at h ⊢
    by_cases h2 : 31 < t.length
    · rw [if_pos h2] at h; cases h
    · rw [if_neg h2] at h ⊢
      by_cases h3 : (!isChk k t) = true
      · rw [if_pos h3] at h; cases h
      · rw [if_neg h3]
        exact ⟨by simpa using h1, by simpa using h3, rfl, by omega⟩
theorem rtest_ok {k : Nat} {ws : List Int} {t : List UInt8} (h : (valR k ws t).2 = 0) (hr : rightD k ws = true) (hc : isChk k t = true) : testR k ws t = (passD k ws (vals t), 0) := test_chk hr (valR_ok h).2.2.2 hc
end Go.Proofs.YtnhkhpnkhkagaaaDoor
