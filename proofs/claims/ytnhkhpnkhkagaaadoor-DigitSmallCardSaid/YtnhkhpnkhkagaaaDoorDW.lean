/- Chapter 16, plain: Luhn's sums, the one check character, what fills in. -/
import Derived.Test.YtnhkhpnkhkagaaaDoorDV
namespace Go.Proofs.YtnhkhpnkhkagaaaDoor
theorem one_char {k : Nat} {ws : List Int} {T : List UInt8} {i : Nat} {x c : UInt8} (hr : rightD k ws = true) (hk : k ≠ 1) (hk2 : k ≠ 2) (hc : isChk k T = true) (hp : passD k ws (vals T) = true) (hl : T.length ≤ 31) (hx : T[i]? = some x) (hd : isDig c = true) (hn : x ≠ c) : testR k ws (T.set i c) = (false, 0) := by
  rw [err_set hr hc hp hl hx hd]
  have hdx := all_dig hc hk2 x (List.mem_of_getElem? hx)
  have : ¬ valC x = valC c := fun e => hn (val_inj hdx hd e)
  rw [same_eq hr hk _ (by have := (valC_dig hdx).1; omega) (by have := (valC_dig hd).1; omega), decide_eq_false this]
theorem nine_iff {x y : UInt8} (hx : isDig x = true) (hy : isDig y = true) : nineD (valC y) (valC x) ↔ (y.toNat = 48 ∧ x.toNat = 57) ∨ (y.toNat = 57 ∧ x.toNat = 48) ∨ x.toNat = y.toNat := by
  have h1 := valC_dig hx; have h2 := valC_dig hy
  unfold nineD; omega
theorem luhn_two {T : List UInt8} {i : Nat} {x y : UInt8} (hc : isChk 3 T = true) (hp : passD 3 [] (vals T) = true) (hl : T.length ≤ 31) (hx : T[i]? = some x) (hy : T[i + 1]? = some y) (hdx : isDig x = true) (hdy : isDig y = true) : testR 3 [] ((T.set i y).set (i + 1) x) = (decide (nineD (valC y) (valC x)), 0) := by
  rw [err_swap (by decide) hc hp hl hx hy hdx hdy]; rfl
def lnL (n : Nat) : List MissT := (List.range (n - 1)).map fun i => (true, i + 1, 0, 9)
theorem lnL_len (n : Nat) : (lnL n).length = n - 1 := by simp [lnL]
theorem lnL_at {n i : Nat} (h : i < (lnL n).length) : (lnL n)[i]? = some (true, i + 1, 0, 9) := by
  rw [lnL_len] at h
  unfold lnL; rw [List.getElem?_map, List.getElem?_range h]; rfl
theorem miss_luhn_is {n : Nat} (h1 : 1 ≤ n) (h2 : n ≤ 30) : missR 3 [] (n : Int) = (lnL n, 0) := by
  unfold missR; rw [show rightD 3 [] = true from by decide, if_neg (by decide), if_neg (by omega), Int.toNat_natCast, miss_luhn]; rfl
/-! the eleven characters -/
def allC : List UInt8 := [48, 49, 50, 51, 52, 53, 54, 55, 56, 57, 88]
theorem all_at {i : Nat} (h : i < 11) : allC[i]? = some (chr i) := by
  have : ∀ i, i < 11 → allC[i]? = some (chr i) := by decide
  exact this i h
theorem all_cut {i : Nat} (h : i < 11) : (⟨allC.toArray⟩ : ByteArray).extract i (i + 1) = ⟨[chr i].toArray⟩ := by
  rw [bx_cut]
  have : ∀ i, i < 11 → ((allC.take (i + 1)).drop i) = [chr i] := by decide
  rw [this i h]
theorem chr_nat {i : Nat} (h : i ≤ 10) : ((chr i).toNat : Int) = if i = 10 then 88 else 48 + (i : Int) := by rw [chr_toNat h]; split <;> omega
theorem mostD_or (k : Nat) : (mostD k = 10 ∧ k = 2) ∨ (mostD k = 9 ∧ k ≠ 2) := by unfold mostD; split <;> omega
/-- A payload with any of the eleven behind it. -/
theorem one_test {k : Nat} {ws : List Int} {D : List UInt8} {i : Nat} (hr : rightD k ws = true) (hp : isPay D = true) (hl : D.length ≤ 30) (hi : i ≤ 10) :
    ∃ E : Int, testR k ws (D ++ [chr i]) = (decide (i = checkD k ws (vals (D ++ [48]))), E) ∧ ((i ≤ mostD k ∧ E = 0) ∨ (mostD k < i ∧ E = 161)) := by
  have hd := ((isPay_iff D).1 hp).2
  obtain ⟨h1, h2, h3⟩ := check_pass hr 0 (pay_vals hd)
  have hv : vals (D ++ [48]) = 0 :: vals D := by rw [vals_snoc, valC48]
  rw [test_right hr (by simp; omega), isChk_snoc, hp, isEnd_chr hi, Bool.true_and, vals_snoc, valC_chr hi, hv]
  by_cases hm : i ≤ mostD k
  · refine ⟨0, ?_, .inl ⟨hm, rfl⟩⟩
    rw [decide_eq_true hm, if_pos rfl]
    congr 1
    rw [Bool.eq_iff_iff, decide_eq_true_eq]
    exact ⟨fun h => h3 i hm h, fun h => by rw [h]; exact h2⟩
  · refine ⟨161, ?_, .inr ⟨by omega, rfl⟩⟩
    rw [decide_eq_false hm, if_neg (by decide), decide_eq_false (by omega)]
theorem check_right {k : Nat} {ws : List Int} {D : List UInt8} (hr : rightD k ws = true) (hp : isPay D = true) (hl : D.length ≤ 30) : checkR k ws D = (chr (checkD k ws (vals (D ++ [48]))), 0) := by
  unfold checkR; rw [hr, if_neg (by decide), if_neg (by omega), hp]; rfl
theorem check_no_pay {k : Nat} {ws : List Int} {D : List UInt8} (hr : rightD k ws = true) (hp : isPay D = false) (hl : D.length ≤ 30) : checkR k ws D = (0, 161) := by
  unfold checkR; rw [hr, if_neg (by decide), if_neg (by omega), hp]; rfl
theorem test_no_chk {k : Nat} {ws : List Int} {D : List UInt8} (hr : rightD k ws = true) (hp : isChk k D = false) (hl : D.length ≤ 31) : testR k ws D = (false, 161) := by rw [test_right hr hl, hp]; rfl
theorem pay_x (D : List UInt8) {c : UInt8} (h : isDig c = false) : isPay (c :: D) = false := by simp [isPay, h]
theorem chk_x (k : Nat) {D : List UInt8} {c : UInt8} (hD : D ≠ []) (h : isDig c = false) : isChk k (c :: D) = false := by
  rw [show c :: D = [] ++ c :: D from rfl, chk_put, if_neg hD, h]; simp
/-! filling in -/
theorem q_not {k : Nat} {T : List UInt8} (hc : isChk k T = true) : (63 : UInt8) ∉ T := fun h => by
  rcases chk_ok hc 63 h with h | h
  · exact absurd h (by decide)
  · exact absurd h (by decide)
theorem fill_set {k : Nat} {ws : List Int} {T : List UInt8} {i : Nat} {x : UInt8} (hr : rightD k ws = true) (hc : isChk k T = true) (hl : T.length ≤ 31) (hx : T[i]? = some x) :
    fillR k ws (T.set i 63) = (chs (fun v => decide (testR k ws (T.set i (chr v)) = (true, 0))) 0 11, 0) := by
  have hq := q_not hc
  obtain ⟨A, B, rfl, rfl⟩ := split_at hx
  have hA : (63 : UInt8) ∉ A := fun h => hq (List.mem_append_left _ h)
  have hB : (63 : UInt8) ∉ B := fun h => hq (List.mem_append_right _ (List.mem_cons_of_mem _ h))
  have e : ∀ c, (A ++ x :: B).set A.length c = A ++ c :: B := fun c => set_mid _ _ _ _ _ rfl
  rw [e, fill_tests hr (by simpa using hl) hA hB (chk_put_dig (by decide) hc)]
  congr 1
  exact chs_congr _ _ fun v _ _ => by rw [e]
theorem val_chr {k : Nat} {T : List UInt8} {x : UInt8} (hc : isChk k T = true) (hx : x ∈ T) : chr (valC x) = x ∧ valC x ≤ 10 := by
  rcases chk_ok hc x hx with h | h
  · exact ⟨dig_chr h, by have := (valC_dig h).1; omega⟩
  · have e : x = 88 := UInt8.toNat_inj.1 h
    subst e; exact ⟨by decide, by decide⟩
theorem set_same {T : List UInt8} {i : Nat} {x : UInt8} (hx : T[i]? = some x) : T.set i x = T := by
  obtain ⟨A, B, rfl, rfl⟩ := split_at hx
  exact set_mid _ _ _ _ _ rfl
/-- Of a system that tells each digit from any other just one fits. -/
theorem fit_one {k : Nat} {ws : List Int} {T : List UInt8} {i : Nat} {x : UInt8} (hr : rightD k ws = true) (hk : k ≠ 1) (hc : isChk k T = true) (hp : passD k ws (vals T) = true) (hl : T.length ≤ 31) (hx : T[i]? = some x) {v : Nat} (hv : v ≤ 10) :
    decide (testR k ws (T.set i (chr v)) = (true, 0)) = decide (v = valC x) := by
  have hxT := List.mem_of_getElem? hx
  obtain ⟨e1, e2⟩ := val_chr hc hxT
  rw [decide_eq_decide]
  constructor
  · intro h
    have hck : isChk k (T.set i (chr v)) = true := by
      rw [test_right hr (by simpa using hl)] at h
      split at h
      · assumption
      · cases h
    rw [test_chk hr (by simpa using hl) hck] at h
    obtain ⟨A, B, rfl, rfl⟩ := split_at hx
    rw [set_mid _ _ _ _ _ rfl] at h hck
    have h1 : passD k ws (vals (A ++ chr v :: B)) = true := congrArg Prod.fst h
    rw [vals_put] at h1 hp
    have := one_err hr (b := valC (chr v)) (fun e => vals_most hc (by omega)) (chk_B hc).1 (fun e => ⟨val_most hc e, val_most hck e⟩) hp
    rw [h1, valC_chr hv, same_eq hr hk _ e2 hv] at this
    exact (of_decide_eq_true this.symm).symm
  · rintro rfl
    rw [e1, set_same hx, test_chk hr hl hc, hp]
theorem fit_self {k : Nat} {ws : List Int} {T : List UInt8} {i : Nat} {x : UInt8} (hr : rightD k ws = true) (hc : isChk k T = true) (hp : passD k ws (vals T) = true) (hl : T.length ≤ 31) (hx : T[i]? = some x) :
    decide (testR k ws (T.set i (chr (valC x))) = (true, 0)) = true := by
  rw [(val_chr hc (List.mem_of_getElem? hx)).1, set_same hx, test_chk hr hl hc, hp]; rfl
theorem fit_len {k : Nat} {ws : List Int} {T : List UInt8} {i : Nat} {x : UInt8} (hr : rightD k ws = true) (hk : k ≠ 1) (hc : isChk k T = true) (hp : passD k ws (vals T) = true) (hl : T.length ≤ 31) (hx : T[i]? = some x) :
    (chs (fun v => decide (testR k ws (T.set i (chr v)) = (true, 0))) 0 11).length = 1 := by
  obtain ⟨e1, e2⟩ := val_chr hc (List.mem_of_getElem? hx)
  rw [chs_one (u := valC x) 11 0 (Nat.zero_le _) (by omega) fun v _ h => fit_one hr hk hc hp hl hx (by omega)]; rfl
theorem fit_a {n j : Nat} (h : n < j) : true = decide (n < j + 1) := (decide_eq_true (show n < j + 1 by omega)).symm
theorem fit_b {j : Nat} {x : UInt8} (hv1 : chr (valC x) = x) (hj : j < 11) (h : ¬ valC x < j) : decide (((chr j).toNat : Int) = (x.toNat : Int)) = decide (valC x < j + 1) := by
  rw [decide_eq_decide]
  constructor
  · intro e
    have : chr j = x := UInt8.toNat_inj.1 (by omega)
    rw [← this, valC_chr (by omega)]; omega
  · intro e
    obtain rfl : valC x = j := by omega
    rw [hv1]
theorem fit_c {f : Nat → Bool} {n j : Nat} (h : f n = true) (hj : f j = false) : decide (n < j) = decide (n < j + 1) := by
  rw [decide_eq_decide]
  have : n ≠ j := fun e => by subst e; rw [h] at hj; cases hj
  omega
theorem ret_nat {P : Program} {f : FuncId} {args : List Value} {w : World} {Φ : Value → World → Prop} {k : IntKind} (a : Int) (h : 0 ≤ a) (hr : Ret P f (.int k ((a.toNat : Nat) : Int) :: args) w Φ) : Ret P f (.int k a :: args) w Φ := by rwa [Int.toNat_of_nonneg h] at hr
end Go.Proofs.YtnhkhpnkhkagaaaDoor
