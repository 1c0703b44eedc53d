/- Chapter 19: words, syndromes, encoding, as plain functions; the field's functions at elements. -/
import Derived.Test.YtjhgihgggofocaaFD
import Derived.Test.YtjhgihgggofocaaFR
import Derived.Test.YtjhgihgggofocaaLZ
namespace Go.Proofs.Ytjhgihgggofocaa
open Go.RowKit
abbrev encZ (x : Nat) : List Value := [.int .i64 (x : Int)]
theorem encZ_len (x : Nat) : (encZ x).length = 1 := rfl
theorem errL_els {p : List Nat} (h : p.length ≤ 128) (he : El p) : errL [p] = 0 := errL_ok (by simpa using h) (by simpa using he)
theorem errL_els2 {p q : List Nat} (h : p.length ≤ 128) (he : El p) (h' : q.length ≤ 128) (he' : El q) : errL [p, q] = 0 := errL_ok (by simpa using ⟨h, h'⟩) (by simpa using ⟨he, he'⟩)
theorem el1 {a : Nat} (h : a < 64) : El [a] := El.cons_ h El.nil_
section
variable (u v : Value) (p q : List Nat) (w : World)
theorem Eval_el (x : Nat) (hl : RdL w 1 encN u p) (h : p.length ≤ 128) (he : El p) (hx : x < 64) : Ret Try.prog 52 [u, .int .u8 (x : Int)] w (fun v w' => v = .tuple #[.int .u8 (evl p x : Int), .int .i64 0] ∧ Ex w w') := by
  have e0 : errL [p, [x]] = 0 := errL_els2 h he (by simp) (el1 hx)
  exact (Eval_ret u p x w hl (by omega)).mono fun v w' ⟨e, hx⟩ => ⟨by rw [e, e0, if_pos rfl], hx⟩
theorem Mul_el (a b : Nat) (ha : a < 64) (hb : b < 64) : Ret Try.prog 31 [.int .u8 (a : Int), .int .u8 (b : Int)] w (fun v w' => v = .tuple #[.int .u8 (gm a b : Int), .int .i64 0] ∧ Ex w w') := by
  have e0 : errL [[a, b]] = 0 := errL_els (by simp) (El.cons_ ha (el1 hb))
  exact (Mul_ret a b w).mono fun v w' ⟨e, hx⟩ => ⟨by rw [e, e0, if_pos rfl], hx⟩
theorem pwr_inv (a : Nat) (h0 : a ≠ 0) (h : a < 64) : pwr a (-1) = gi a := by
  have key : (List.range 64).all (fun a => Nat.beq a 0 || Nat.beq (pwr a (-1)) (gi a)) = true := by decide +kernel
  have := all1 key a h
  rw [Bool.or_eq_true] at this
  rcases this with h1 | h1
  · exact absurd (Nat.eq_of_beq_eq_true h1) h0
  · exact Nat.eq_of_beq_eq_true h1
theorem Inv_el (a : Nat) (h0 : a ≠ 0) (ha : a < 64) : Ret Try.prog 73 [.int .u8 (a : Int)] w (fun v w' => v = .tuple #[.int .u8 (gi a : Int), .int .i64 0] ∧ Ex w w') := by
  have e0 : errL [[a]] = 0 := errL_els (by simp) (el1 ha)
  exact (Inv_ret a w).mono fun v w' ⟨e, hx⟩ => ⟨by rw [e, e0, if_pos rfl, pwr_inv a h0 ha]; unfold pwE; rw [if_pos e0, if_neg (fun h => h0 h.1)], hx⟩
theorem pwr_two (n : Nat) : pwr 2 (n : Int) = pw (n % 63) := by
  have h63 : ((n : Int) % 63).toNat = n % 63 := by omega
  unfold pwr
  split
  · rename_i h
    have : n = 0 := by omega
    subst this; decide +kernel
  · rw [if_neg (by decide), h63, show lg 2 = 1 by decide +kernel, Nat.one_mul, Nat.mod_mod]
theorem Pow_el (n : Nat) : Ret Try.prog 55 [.int .u8 2, .int .i64 (n : Int)] w (fun v w' => v = .tuple #[.int .u8 (pw (n % 63) : Int), .int .i64 0] ∧ Ex w w') := by
  have e0 : errL [[2]] = 0 := errL_els (by simp) (el1 (by omega))
  exact (pow_ret 2 n w).mono fun v w' ⟨e, hx⟩ => ⟨by rw [e, e0, if_pos rfl, pwr_two]; unfold pwE; rw [if_pos e0, if_neg (fun h => absurd h.1 (by decide))], hx⟩
theorem Divide_el (hl : RdL w 1 encN u p) (hm : RdL w 1 encN v q) (h : p.length ≤ 128) (he : El p) (h' : q.length ≤ 128) (he' : El q) (hd : 0 < dg q) : Ret Try.prog 43 [u, v] w (fun v w' => ∃ r1 r2 d r, v = .tuple #[r1, r2, .int .i64 0] ∧ Own w' w.heap.size 5 1 encN r1 d ∧ Own w' w.heap.size 5 1 encN r2 r ∧ Sep r1 r2 ∧ (IsDiv p q d r ∧ tr d = d ∧ tr r = r ∧ El d ∧ El r) ∧ Ex w w') := by
  have e0 : divE p q = 0 := by unfold divE; rw [if_pos (errL_els2 h he h' he'), if_neg (by omega)]
  exact (divide_ret u v p q w hl hm (by omega) (by omega)).mono fun v w' ⟨r1, r2, d, r, e, h1, h2, h3, h4, _, hx⟩ => ⟨r1, r2, d, r, by rw [e, e0], h1, h2, h3, h4 e0, hx⟩
end
/-! words -/
def areE (l : List Nat) : Bool := l.all fun a => decide (a < 64)
theorem areE_el {l : List Nat} : areE l = true ↔ El l := by unfold areE; rw [List.all_eq_true]; exact ⟨fun h a ha => of_decide_eq_true (h a ha), fun h a ha => decide_eq_true (h a ha)⟩
theorem areE_no {l : List Nat} {i a : Nat} (h : l[i]? = some a) (ha : 64 ≤ a) : areE l = false := by
  unfold areE; rw [List.all_eq_false]; exact ⟨a, List.mem_of_getElem? h, by simpa using ha⟩
theorem areE_yes {l : List Nat} (h : ∀ j a, j < l.length → l[j]? = some a → a < 64) : areE l = true := by
  rw [areE_el]; intro a ha
  obtain ⟨j, hj⟩ := List.mem_iff_getElem?.1 ha
  exact h j a (List.getElem?_eq_some_iff.1 hj).1 hj
def isW (l : List Nat) : Bool := decide (4 < l.length) && decide (l.length ≤ 63) && areE l
theorem isW_iff {l : List Nat} : isW l = true ↔ 4 < l.length ∧ l.length ≤ 63 ∧ El l := by
  unfold isW; rw [Bool.and_eq_true, Bool.and_eq_true, decide_eq_true_eq, decide_eq_true_eq, areE_el, and_assoc]
/-- A word's values at 2, 4, 8, 16. -/
def sy (l : List Nat) (r : Nat) : Nat := evl l.reverse (pw (r + 1))
def syL (l : List Nat) : List Nat := [sy l 0, sy l 1, sy l 2, sy l 3]
theorem El.rev {l : List Nat} (h : El l) : El l.reverse := fun a ha => h a (List.mem_reverse.1 ha)
theorem sy_lt {l : List Nat} (h : El l) (r : Nat) : sy l r < 64 := evl_lt _ _ h.rev
abbrev encs4 (l : List Nat) : List Value := l.map fun (n : Nat) => Value.int .u8 (n : Int)
def syC (l : List Nat) (i : Nat) : List Value := (List.range 4).map fun k => .int .u8 ((if k < i then sy l k else 0 : Nat) : Int)
theorem syC_zero (l : List Nat) : List.replicate 4 (Value.int .u8 0) = syC l 0 := by simp [syC, List.range_succ]
theorem syC_four (l : List Nat) : syC l 4 = (syL l).map fun (n : Nat) => Value.int .u8 (n : Int) := by simp [syC, syL, List.range_succ]
theorem syC_len (l : List Nat) (i : Nat) : (syC l i).length = 4 := by simp [syC]
theorem syC_set (l : List Nat) (i : Nat) (h : i < 4) : (syC l i).set (i * 1) (.int .u8 (sy l i : Int)) = syC l (i + 1) := by
  rw [Nat.mul_one]
  match i, h with
  | 0, _ => simp [syC, List.range_succ]
  | 1, _ => simp [syC, List.range_succ]
  | 2, _ => simp [syC, List.range_succ]
  | 3, _ => simp [syC, List.range_succ]
theorem two_shl (i : Nat) (h : i < 4) : 2 <<< i = pw (i + 1) ∧ 2 <<< i < 64 := by
  match i, h with
  | 0, _ => decide +kernel
  | 1, _ => decide +kernel
  | 2, _ => decide +kernel
  | 3, _ => decide +kernel
/-! a list turned in place -/
def rvS (l : List Nat) (i : Nat) : List Nat := (List.range l.length).map fun k => if k < i ∨ l.length - 1 - k < i then cf l (l.length - 1 - k) else cf l k
theorem rvS_len (l : List Nat) (i : Nat) : (rvS l i).length = l.length := by simp [rvS]
theorem rvS_at {l : List Nat} {i k : Nat} (h : k < l.length) : (rvS l i)[k]? = some (if k < i ∨ l.length - 1 - k < i then cf l (l.length - 1 - k) else cf l k) := by
  unfold rvS; rw [List.getElem?_map, List.getElem?_range h]; rfl
theorem rvS_zero (l : List Nat) : rvS l 0 = l := by
  apply List.ext_getElem?
  intro k
  rcases Nat.lt_or_ge k l.length with h | h
  · rw [rvS_at h, if_neg (by omega), getElem?_cf h]
  · rw [List.getElem?_eq_none (by rw [rvS_len]; exact h), List.getElem?_eq_none h]
theorem rvS_end {l : List Nat} {i : Nat} (h : l.length ≤ 2 * i + 1) : rvS l i = l.reverse := by
  apply List.ext_getElem?
  intro k
  rcases Nat.lt_or_ge k l.length with hk | hk
  · rw [rvS_at hk, List.getElem?_reverse hk, getElem?_cf (by omega)]
    by_cases e : k < i ∨ l.length - 1 - k < i
    · rw [if_pos e]
    · rw [if_neg e]; congr 2; omega
  · rw [List.getElem?_eq_none (by rw [rvS_len]; exact hk), List.getElem?_eq_none (by simpa using hk)]
theorem rvS_step {l : List Nat} {i : Nat} (h : 2 * i + 1 < l.length) : ((rvS l i).set i (cf l (l.length - 1 - i))).set (l.length - 1 - i) (cf l i) = rvS l (i + 1) := by
  apply List.ext_getElem?
  intro k
  rcases Nat.lt_or_ge k l.length with hk | hk
  · rw [List.getElem?_set, List.length_set, rvS_len, List.getElem?_set, rvS_len, rvS_at hk, rvS_at hk]
    by_cases e1 : l.length - 1 - i = k
    · rw [if_pos e1, if_pos (by omega), if_pos (by omega), show l.length - 1 - k = i by omega]
    · rw [if_neg e1]
      by_cases e2 : i = k
      · rw [if_pos e2, if_pos (by omega), if_pos (by omega), e2]
      · rw [if_neg e2]
        congr 1
        by_cases e3 : k < i ∨ l.length - 1 - k < i
        · rw [if_pos e3, if_pos (by omega)]
        · rw [if_neg e3, if_neg (by omega)]
  · rw [List.getElem?_eq_none (by rw [List.length_set, List.length_set, rvS_len]; exact hk), List.getElem?_eq_none (by rw [rvS_len]; exact hk)]
/-! encoding -/
def gen5 : List Nat := [48, 17, 29, 30, 1]
structure IsEnc (data c : List Nat) : Prop where
  len : c.length = data.length + 4
  el : El c
  pre : c.take data.length = data
  syn : ∀ r, r < 4 → sy c r = 0
def stE (data r : List Nat) (i : Nat) : List Nat := data ++ (List.range 4).map fun j => if 3 - j < i then cf r (3 - j) else 0
theorem stE_len (data r : List Nat) (i : Nat) : (stE data r i).length = data.length + 4 := by simp [stE]
theorem stE_zero (data r : List Nat) : data ++ List.replicate 4 0 = stE data r 0 := by simp [stE, List.range_succ]
theorem stE_set {data r : List Nat} {i a : Nat} (h : i < 4) (ha : r[i]? = some a) : (stE data r i).set (data.length + 4 - 1 - i) a = stE data r (i + 1) := by
  have hc := cf_some ha
  subst hc
  unfold stE
  rw [List.set_append_right _ _ (by omega)]
  congr 1
  match i, h with
  | 0, _ => rw [show data.length + 4 - 1 - 0 - data.length = 3 by omega]; simp [List.range_succ]
  | 1, _ => rw [show data.length + 4 - 1 - 1 - data.length = 2 by omega]; simp [List.range_succ]
  | 2, _ => rw [show data.length + 4 - 1 - 2 - data.length = 1 by omega]; simp [List.range_succ]
  | 3, _ => rw [show data.length + 4 - 1 - 3 - data.length = 0 by omega]; simp [List.range_succ]
theorem gen5_el : El gen5 := fun a h => by simp [gen5] at h; omega
theorem gen5_dg : dg gen5 = 5 := by decide +kernel
theorem gen5_z (r : Nat) (h : r < 4) : evl gen5 (pw (r + 1)) = 0 := by
  match r, h with
  | 0, _ => decide +kernel
  | 1, _ => decide +kernel
  | 2, _ => decide +kernel
  | 3, _ => decide +kernel
theorem enc_end {data d r : List Nat} (hd : El data) (hq : El d) (hr : El r) (h : IsDiv (data ++ List.replicate 4 0).reverse gen5 d r) (ht : tr r = r) : r.length ≤ 4 ∧ IsEnc data (stE data r r.length) := by
  have hdr : dg r = r.length := dg_of_tr ht
  have hlt := h.lt
  rw [gen5_dg] at hlt
  have hc : ∀ j, (if 3 - j < r.length then cf r (3 - j) else 0) = cf r (3 - j) := fun j => by
    split
    · rfl
    · exact (cf_none (by omega)).symm
  have he : stE data r r.length = data ++ [cf r 3, cf r 2, cf r 1, cf r 0] := by
    unfold stE
    simp only [hc]
    simp [List.range_succ]
  have hel : El [cf r 3, cf r 2, cf r 1, cf r 0] := El.cons_ (hr.cf 3) (El.cons_ (hr.cf 2) (El.cons_ (hr.cf 1) (el1 (hr.cf 0))))
  refine ⟨by omega, stE_len _ _ _, by rw [he]; exact hd.app hel, by rw [he, List.take_left], fun k hk => ?_⟩
  have hk64 := (pw_lt (k + 1) (by omega)).2
  have hp : El (data ++ List.replicate 4 0).reverse := (hd.app fun a ha => by rw [List.eq_of_mem_replicate ha]; decide).rev
  have e : ∀ j, cf (stE data r r.length).reverse j = cf (pm d gen5) j := fun j => by
    have h1 : cf (stE data r r.length).reverse j = cf (data ++ List.replicate 4 0).reverse j ^^^ cf r j := by
      rw [he, List.reverse_append, List.reverse_append]
      show cf ([cf r 0, cf r 1, cf r 2, cf r 3] ++ data.reverse) j = cf ([0, 0, 0, 0] ++ data.reverse) j ^^^ _
      rw [cf_app, cf_app]
      by_cases hj : j < 4
      · rw [if_pos (by simpa using hj), if_pos (by simpa using hj)]
        match j, hj with
        | 0, _ => simp [cf_z]
        | 1, _ => simp [cf_s, cf_z]
        | 2, _ => simp [cf_s, cf_z]
        | 3, _ => simp [cf_s, cf_z]
      · rw [if_neg (by simpa using hj), if_neg (by simpa using hj), cf_none (p := r) (k := j) (by omega), Nat.xor_zero]; rfl
    rw [h1, h.eq j, Nat.xor_assoc, Nat.xor_self, Nat.xor_zero]
  unfold sy
  rw [evl_congr _ e, evl_pm _ hk64 _ _ hq gen5_el, gen5_z k hk, gm_zr]
end Go.Proofs.Ytjhgihgggofocaa
