/- Steps of the walks of chapter 16. -/
import Derived.Test.YtnhkhpnkhkagaaaDoorDS
import Derived.Test.YtnhkhpnkhkagaaaDoorLN
import Derived.Test.YtnhkhpnkhkagaaaDoorLJ
import Derived.Lib.Bytealg
namespace Go.Proofs.YtnhkhpnkhkagaaaDoor
theorem sbytes (a : List UInt8) : (⟨a.toArray⟩ : ByteArray).size = a.length := by simp [ByteArray.size]
theorem binj {a b : List UInt8} : ((⟨a.toArray⟩ : ByteArray) = ⟨b.toArray⟩) ↔ a = b := ⟨fun h => by injection h with h; simpa using h, fun h => by rw [h]⟩
abbrev encZ (n : Nat) : List Value := [.int .i64 (n : Int)]
theorem encZ_len (n : Nat) : (encZ n).length = 1 := rfl
def badW (m n : Int) : Bool := decide (n < 1 ∨ m < n)
theorem badW_eq (m n : Int) : badW m n = decide (n < 1 ∨ m < n) := rfl
theorem any_hit {α : Type} {l : List α} {f : α → Bool} {i : Nat} {x : α} (hx : l[i]? = some x) (h : f x = true) : l.any f = true := List.any_eq_true.2 ⟨x, List.mem_of_getElem? hx, h⟩
theorem take_more {α : Type} {l : List α} {i : Nat} {x : α} (hx : l[i]? = some x) : l.take (i + 1) = l.take i ++ [x] := by rw [List.take_add_one, hx]; rfl
theorem any_miss {α : Type} {l : List α} {f : α → Bool} {i : Nat} {x : α} (hx : l[i]? = some x) (h : (l.take i).any f = false) (hf : f x = false) : (l.take (i + 1)).any f = false := by
  rw [take_more hx, List.any_append, h]; simp [hf]
theorem right_34 {k : Nat} (hk : k = 3 ∨ k = 4) (ws : List Int) : decide ((ws.length : Int) = 0) = rightD k ws := by
  unfold rightD; rw [if_neg (by omega), decide_eq_true hk]; simp
theorem right_no {k : Nat} (hk : k ≠ 1 ∧ k ≠ 2 ∧ k ≠ 3 ∧ k ≠ 4) (ws : List Int) : false = rightD k ws := by
  unfold rightD; rw [if_neg (by omega), decide_eq_false (by omega)]; rfl
theorem right_len {k : Nat} {ws : List Int} (hk : k = 1 ∨ k = 2) (hl : ws.length < 1 ∨ 10 < ws.length) : false = rightD k ws := by
  unfold rightD; rw [if_pos hk]
  rcases hl with h | h
  · rw [decide_eq_false (by omega)]; rfl
  · rw [decide_eq_false (show ¬ ws.length ≤ 10 by omega)]; simp
theorem right_12 {k : Nat} {ws : List Int} {m : Int} (hk : k = 1 ∨ k = 2) (hm : m = if k = 1 then 9 else 10) (h1 : 1 ≤ ws.length) (h2 : ws.length ≤ 10) : (!ws.any (badW m)) = rightD k ws := by
  unfold rightD; rw [if_pos hk, decide_eq_true h1, decide_eq_true h2]
  subst hm
  induction ws with
  | nil => simp at h1
  | cons a l ih =>
    clear ih h1 h2
    have key : ∀ l : List Int, (!l.any (badW (if k = 1 then 9 else 10))) = l.all (okW k) := by
      intro l
      induction l with
      | nil => rfl
      | cons b l ih =>
        rw [List.any_cons, List.all_cons, Bool.not_or, ih]
        congr 1
        unfold badW okW
        generalize (if k = 1 then (9 : Int) else 10) = m
        by_cases h1 : b < 1
        · rw [decide_eq_true (show b < 1 ∨ m < b from .inl h1), decide_eq_false (show ¬ 1 ≤ b by omega)]; rfl
        · rw [decide_eq_true (show 1 ≤ b by omega)]
          by_cases h2 : m < b
          · rw [decide_eq_true (show b < 1 ∨ m < b from .inr h2), decide_eq_false (show ¬ b ≤ m by omega)]; rfl
          · rw [decide_eq_false (show ¬ (b < 1 ∨ m < b) by omega), decide_eq_true (show b ≤ m by omega)]; rfl
    rw [key]; simp
theorem pay_bad {t : List UInt8} {i : Nat} {c : UInt8} (hc : t[i]? = some c) (h : c.toNat < 48 ∨ 57 < c.toNat) : false = isPay t := by
  have : isDig c = false := by unfold isDig; rcases h with h | h <;> simp <;> omega
  symm
  rw [Bool.eq_false_iff]
  intro hp
  have := ((isPay_iff t).1 hp).2 c (List.mem_of_getElem? hc)
  simp_all
theorem pay_more {t : List UInt8} {i : Nat} {c : UInt8} (hc : t[i]? = some c) (h : (t.take i).all isDig = true) (h1 : 48 ≤ c.toNat) (h2 : c.toNat ≤ 57) : (t.take (i + 1)).all isDig = true := by
  rw [take_more hc, List.all_append, h]; simp [isDig, h1, h2]
theorem pay_end {t : List UInt8} (h : t.all isDig = true) : decide ((⟨t.toArray⟩ : ByteArray) ≠ ⟨#[]⟩) = isPay t := by
  unfold isPay; rw [h, Bool.and_true]
  rw [decide_eq_decide]
  exact not_congr (binj (b := []))
theorem dig_bounds {c : UInt8} (h : isDig c = true) : 48 ≤ c.toNat ∧ c.toNat ≤ 57 := by simpa [isDig] using h
/-- Values written from behind: those of the first i characters. -/
def VW (t : List UInt8) (i : Nat) (us : List Nat) : Prop := us.length = t.length ∧ i ≤ t.length ∧ ∀ j, j < i → ∀ c, t[j]? = some c → us[t.length - 1 - j]? = some (valC c)
theorem vw_start (t : List UInt8) : VW t 0 (List.replicate t.length 0) := ⟨by simp, Nat.zero_le _, fun j h => by omega⟩
theorem vw_more {t : List UInt8} {i : Nat} {us : List Nat} {c : UInt8} (h : VW t i us) (hc : t[i]? = some c) : VW t (i + 1) (us.set (t.length - 1 - i) (valC c)) := by
  have hi := (List.getElem?_eq_some_iff.1 hc).1
  refine ⟨by rw [List.length_set]; exact h.1, hi, fun j hj d hd => ?_⟩
  by_cases e : j = i
  · subst e
    rw [hc] at hd
    injection hd with hd; subst hd
    rw [List.getElem?_set_self (by have := h.1; omega)]
  · rw [List.getElem?_set_ne (by omega)]
    exact h.2.2 j (by omega) d hd
theorem vals_done {t : List UInt8} {us : List Nat} (h : VW t t.length us) : us = vals t := by
  apply List.ext_getElem?
  intro j
  by_cases hj : j < t.length
  · have e := vals_at t (t.length - 1 - j) (by omega)
    have := h.2.2 (t.length - 1 - j) (by omega) _ (List.getElem?_eq_getElem (by omega))
    rw [show t.length - 1 - (t.length - 1 - j) = j by omega] at e this
    rw [e, this]
  · rw [List.getElem?_eq_none (by have := h.1; omega), List.getElem?_eq_none (by rw [vals_len]; omega)]
theorem isEnd_dec (k : Nat) (c : UInt8) : isEnd k c = decide ((48 ≤ c.toNat ∧ c.toNat ≤ 57) ∨ (c.toNat = 88 ∧ k = 2)) := by
  unfold isEnd isDig; simp
theorem mostD_10 (k : Nat) : mostD k = 10 ↔ k = 2 := by unfold mostD; split <;> omega
theorem snoc_of {t : List UInt8} (h : ¬ ((⟨t.toArray⟩ : ByteArray) = ⟨#[]⟩)) : ∃ s c, t = s ++ [c] := by
  rcases List.eq_nil_or_concat t with rfl | ⟨s, c, rfl⟩
  · exact absurd rfl h
  · exact ⟨s, c, List.concat_eq_append⟩
theorem drop_at {α : Type} {l : List α} {i : Nat} {x : α} (h : l[i]? = some x) : l.drop i = x :: l.drop (i + 1) := by
  have hi := (List.getElem?_eq_some_iff.1 h).1
  rw [List.drop_eq_getElem_cons hi]
  have : l[i] = x := (List.getElem?_eq_some_iff.1 h).2
  rw [this]
theorem sum_step {ws : List Int} {vs : List Nat} {i x : Nat} (h : vs[i]? = some x) : sumD ws i (vs.drop i) = x * wt ws i + sumD ws (i + 1) (vs.drop (i + 1)) := by rw [drop_at h]; rfl
theorem luhn_step {vs : List Nat} {i x : Nat} (h : vs[i]? = some x) : luhnD i (vs.drop i) = lu i x + luhnD (i + 1) (vs.drop (i + 1)) := by rw [drop_at h]; rfl
theorem perm_step {vs : List Nat} {q i x : Nat} (h : vs[i]? = some x) : permD q i (vs.drop i) = permD (tm q (tn (i % 8) x)) (i + 1) (vs.drop (i + 1)) := by rw [drop_at h]; rfl
theorem mul_b {x : Nat} {y : Int} (h1 : x ≤ 10) (h2 : 1 ≤ y ∧ y ≤ 10) : 0 ≤ (x : Int) * y ∧ (x : Int) * y ≤ 100 := by
  have h3 : (0 : Int) ≤ (x : Int) * y := Int.mul_nonneg (by omega) (by omega)
  have h4 : (x : Int) * y ≤ 10 * 10 := Int.mul_le_mul (by omega) h2.2 (by omega) (by omega)
  omega
theorem wt_b1 {ws : List Int} (hw : ∀ x ∈ ws, 1 ≤ x ∧ x ≤ 10) (h1 : 1 ≤ ws.length) (p : Nat) : 1 ≤ wt ws p ∧ wt ws p ≤ 10 := by
  by_cases hp : p = 0
  · unfold wt; rw [if_pos hp]; omega
  · exact hw _ (List.mem_of_getElem? (wt_at h1 hp))
def u8c (l : List Nat) : List Value := l.map fun (n : Nat) => Value.int .u8 (n : Int)
theorem tm_cell {q x : Nat} (hq : q < 10) (hx : x < 10) : (u8c tmT.flatten)[q * 10 + x * 1]? = some (.int .u8 (tm q x : Nat)) := by
  unfold u8c; rw [List.getElem?_map, Nat.mul_one, tm_flat q hq x hx]; rfl
theorem tn_cell {i x : Nat} (hi : i < 8) (hx : x < 10) : (u8c tnT.flatten)[i * 10 + x * 1]? = some (.int .u8 (tn i x : Nat)) := by
  unfold u8c; rw [List.getElem?_map, Nat.mul_one, tn_flat i hi x hx]; rfl
theorem keyU : KeyT (.int .u8) (fun i : Int => .int .u8 i) := ⟨fun _ => rfl, fun a b => by
  simp only [Instr.sameNow, if_true, Option.some.injEq]
  by_cases h : a = b <;> simp [h]⟩
theorem set_ii {l : List Nat} {i x y z : Nat} : ((l.set i x).set (i + 1) y).set i z = (l.set (i + 1) y).set i z := by
  rw [List.set_comm _ _ (show i ≠ i + 1 by omega), List.set_set]
theorem grown_ex {a b c : World} {r : Option Nat} (h : a.grownBy b r) (k : Ex b c) : a.grownBy c r :=
  ⟨k.os.trans h.os, k.tape.trans h.tape, k.output.trans h.output, Nat.le_trans h.size k.size, fun i hi hne => (k.block i (Nat.lt_of_lt_of_le hi h.size)).trans (h.block i hi hne)⟩
theorem set0_self {l : List Nat} (h : 0 < l.length) : ∃ x, l.set 0 x = l := by
  cases l with
  | nil => simp at h
  | cons a l => exact ⟨a, rfl⟩
theorem set0_at {l : List Nat} {x : Nat} (h : 0 < l.length) : (l.set 0 x)[0]? = some x := by
  cases l with
  | nil => simp at h
  | cons a l => rfl
theorem all_set {m : Nat} {l : List Nat} {i y : Nat} (h : ∀ x ∈ l, x ≤ m) (hy : y ≤ m) : ∀ x ∈ l.set i y, x ≤ m := fun x hx => by
  rcases List.mem_or_eq_of_mem_set hx with hx | rfl
  · exact h x hx
  · exact hy
theorem all_rep {m n : Nat} : ∀ x ∈ List.replicate n 0, x ≤ m := fun x hx => by
  obtain ⟨_, rfl⟩ := List.mem_replicate.1 hx; exact Nat.zero_le _
theorem fstD_hit {f : Nat → Bool} : ∀ {n s v : Nat}, s ≤ v → v < s + n → (∀ u, s ≤ u → u < v → f u = false) → f v = true → fstD f s n = v
  | 0, s, v, h1, h2, _, _ => by omega
  | n + 1, s, v, h1, h2, h3, h4 => by
    unfold fstD
    by_cases e : s = v
    · subst e; rw [if_pos h4]
    · rw [if_neg (by rw [h3 s (Nat.le_refl _) (by omega)]; decide)]
      exact fstD_hit (by omega) (by omega) (fun u a b => h3 u (by omega) b) h4
theorem fstD_no {f : Nat → Bool} : ∀ {n s : Nat}, (∀ u, s ≤ u → u < s + n → f u = false) → fstD f s n = 0
  | 0, _, _ => rfl
  | n + 1, s, h => by
    unfold fstD
    rw [if_neg (by rw [h s (Nat.le_refl _) (by omega)]; decide)]
    exact fstD_no fun u a b => h u (by omega) (by omega)
theorem fstD_le {f : Nat → Bool} : ∀ (n s m : Nat), s + n ≤ m + 1 → fstD f s n ≤ m
  | 0, _, _, _ => Nat.zero_le _
  | n + 1, s, m, h => by
    unfold fstD; split
    · omega
    · exact fstD_le n (s + 1) m (by omega)
theorem checkD_le (k : Nat) (ws : List Int) (vs : List Nat) : checkD k ws vs ≤ mostD k := fstD_le _ _ _ (by omega)
theorem check_hit {k : Nat} {ws : List Int} {vs : List Nat} {v : Nat} (h : ∀ u, u < v → passD k ws (vs.set 0 u) = false) (hv : passD k ws (vs.set 0 v) = true) (hm : v ≤ mostD k) : v = checkD k ws vs :=
  (fstD_hit (Nat.zero_le _) (by omega) (fun u _ b => h u b) hv).symm
theorem check_no {k : Nat} {ws : List Int} {vs : List Nat} {v : Nat} (h : ∀ u, u < v → passD k ws (vs.set 0 u) = false) (hm : mostD k < v) : 0 = checkD k ws vs :=
  (fstD_no fun u _ b => h u (by omega)).symm
theorem miss_upto {f : Nat → Bool} {v : Nat} (h : ∀ u, u < v → f u = false) (hv : f v = false) : ∀ u, u < v + 1 → f u = false := fun u hu => by
  by_cases e : u = v
  · subst e; exact hv
  · exact h u (by omega)
theorem chk_ok {k : Nat} {t : List UInt8} (h : isChk k t = true) : ∀ c ∈ t, isDig c = true ∨ c.toNat = 88 := by
  obtain ⟨s, c, rfl, h1, h2, h3⟩ := (isChk_iff k t).1 h
  intro d hd
  rcases List.mem_append.1 hd with hd | hd
  · exact .inl (h2 d hd)
  · obtain rfl := List.mem_singleton.1 hd
    simp only [isEnd, Bool.or_eq_true, Bool.and_eq_true, decide_eq_true_eq] at h3
    rcases h3 with h3 | ⟨h3, _⟩
    · exact .inl h3
    · exact .inr h3
theorem chk_most {k : Nat} {t : List UInt8} (h : isChk k t = true) : ∀ v ∈ vals t, v ≤ mostD k := by
  obtain ⟨s, c, rfl, h1, h2, h3⟩ := (isChk_iff k t).1 h
  rw [vals_snoc]
  intro v hv
  rcases List.mem_cons.1 hv with rfl | hv
  · exact valC_end h3
  · have := pay_vals h2 v hv; have := mostD_ge k; omega
theorem pay0_chk (k : Nat) {t : List UInt8} (h : isPay t = true) : isChk k (t ++ [48]) = true := by
  rw [isChk_snoc, h, Bool.true_and, isEnd_dec]; exact decide_eq_true (.inl (by decide))
theorem not_t {b : Bool} (h : (!b) = true) : b = false := by cases b <;> simp_all
theorem not_f {b : Bool} (h : (!b) = false) : b = true := by cases b <;> simp_all
theorem check_asc (k : Nat) (ws : List Int) (t : List UInt8) : (checkR k ws t).1.toNat < 128 := by
  unfold checkR
  split
  · decide
  · split
    · decide
    · split
      · decide
      · have := Nat.le_trans (checkD_le k ws (vals (t ++ [48]))) (mostD_le k)
        rw [chr_toNat this]; split <;> omega
theorem zeroQ_no {t : List UInt8} (h : t.count 63 = 0) : zeroQ t = t := by
  induction t with
  | nil => rfl
  | cons c t ih =>
    have hc : c ≠ 63 := fun e => by subst e; rw [List.count_cons_self] at h; omega
    rw [List.count_cons_of_ne (by simpa using hc)] at h
    unfold zeroQ; rw [if_neg hc, ih h]
theorem idx_at {A B : List UInt8} (hA : (63 : UInt8) ∉ A) : Lib.indexByte (A ++ 63 :: B) 63 = (A.length : Nat) := by
  induction A with
  | nil => simp [Lib.indexByte]
  | cons a A ih =>
    have h1 : (a == 63) = false := beq_false_of_ne fun e => hA (by simp [e])
    have h2 := ih fun h => hA (by simp [h])
    rw [List.cons_append, Lib.indexByte, h1, h2]
    have h3 : (((A.length : Nat) : Int) == -1) = false := beq_false_of_ne (by omega)
    rw [h3]; simp
theorem drop_mid {A B : List UInt8} {c : UInt8} : (A ++ c :: B).drop (A.length + 1) = B := by simp
theorem zeroQ_len (t : List UInt8) : (zeroQ t).length = t.length := by
  induction t with
  | nil => rfl
  | cons c t ih => unfold zeroQ; split <;> simp [ih]
theorem setp_self {l : List Nat} {i : Nat} (h : i < l.length) : ∃ x, l.set i x = l := ⟨l[i], by simp⟩
theorem chs_hit {f : Nat → Bool} {n : Nat} (h : f n = true) : chs f 0 (n + 1) = chs f 0 n ++ [chr n] := by rw [chs_more, Nat.zero_add, if_pos h]
theorem chs_miss {f : Nat → Bool} {n : Nat} (h : f n = false) : chs f 0 (n + 1) = chs f 0 n := by rw [chs_more, Nat.zero_add, if_neg (by rw [h]; decide), List.append_nil]
theorem chs_len (f : Nat → Bool) : ∀ (n v : Nat), (chs f v n).length ≤ n
  | 0, _ => Nat.le_refl _
  | n + 1, v => by
    unfold chs
    have := chs_len f n (v + 1)
    split
    · rw [List.length_cons]; omega
    · omega
theorem right_len10 {k : Nat} {ws : List Int} (h : rightD k ws = true) : ws.length ≤ 100000 := by
  rcases right_kind h with rfl | rfl | rfl | rfl
  · have := (right_ws h (.inl rfl)).2.1; omega
  · have := (right_ws h (.inr rfl)).2.1; omega
  · rw [right_ws0 h (.inl rfl)]; decide
  · rw [right_ws0 h (.inr rfl)]; decide
abbrev encM (m : MissT) : List Value := [.bool m.1, .int .i64 (m.2.1 : Int), .int .i64 (m.2.2.1 : Int), .int .i64 (m.2.2.2 : Int)]
theorem encM_len (m : MissT) : (encM m).length = 4 := rfl
/-- What is listed ahead of an error. -/
def mO (k : Nat) (ws : List Int) (n s : Nat) : List MissT := (List.range s).flatMap fun j => missS k ws n (decide (j = 1))
def mA (k : Nat) (ws : List Int) (n s p : Nat) : List MissT := mO k ws n s ++ (List.range p).flatMap fun i => missA k ws n (decide (s = 1)) (i + 1)
def mB (k : Nat) (ws : List Int) (n s p a : Nat) : List MissT := mA k ws n s p ++ (List.range a).flatMap (missB k ws n (decide (s = 1)) (p + 1))
def mC (k : Nat) (ws : List Int) (n s p a b : Nat) : List MissT := mB k ws n s p a ++ ((List.range b).filter fun x => decide (a < x) && missD k ws n (decide (s = 1), p + 1, a, x)).map fun x => (decide (s = 1), p + 1, a, x)
theorem mO_end (k : Nat) (ws : List Int) (n : Nat) : mO k ws n 2 = missL k ws n := by
  unfold mO missL
  rw [show List.range 2 = [0, 1] from rfl]; simp
theorem mA_start (k : Nat) (ws : List Int) (n s : Nat) : mA k ws n s 0 = mO k ws n s := by simp [mA]
theorem mB_start (k : Nat) (ws : List Int) (n s p : Nat) : mB k ws n s p 0 = mA k ws n s p := by simp [mB]
theorem mC_start (k : Nat) (ws : List Int) (n s p a : Nat) : mC k ws n s p a (a + 1) = mB k ws n s p a := by
  unfold mC
  rw [List.filter_eq_nil_iff.2 fun x hx => by have := List.mem_range.1 hx; rw [decide_eq_false (by omega)]; simp]; simp
theorem mC_yes {k : Nat} {ws : List Int} {n s p a b : Nat} (h : a < b) (hm : missD k ws n (decide (s = 1), p + 1, a, b) = true) : mC k ws n s p a (b + 1) = mC k ws n s p a b ++ [(decide (s = 1), p + 1, a, b)] := by
  unfold mC; rw [List.range_succ, List.filter_append]; simp [h, hm]
theorem mC_no {k : Nat} {ws : List Int} {n s p a b : Nat} (hm : missD k ws n (decide (s = 1), p + 1, a, b) = false) : mC k ws n s p a (b + 1) = mC k ws n s p a b := by
  unfold mC; rw [List.range_succ, List.filter_append]; simp [hm]
theorem mC_end (k : Nat) (ws : List Int) (n s p a : Nat) : mC k ws n s p a 10 = mB k ws n s p (a + 1) := by
  unfold mC mB
  rw [List.range_succ (n := a), List.flatMap_append]; simp [missB]
theorem mB_end (k : Nat) (ws : List Int) (n s p : Nat) : mB k ws n s p 10 = mA k ws n s (p + 1) := by
  unfold mB mA
  rw [List.range_succ (n := p), List.flatMap_append]; simp [missA]
theorem mA_end {k : Nat} {ws : List Int} {n s p : Nat} (h : p = if s = 1 then n - 1 else n) : mA k ws n s p = mO k ws n (s + 1) := by
  unfold mA mO
  rw [List.range_succ (n := s), List.flatMap_append]; subst h; by_cases e : s = 1 <;> simp [missS, e]
theorem mC_len (k : Nat) (ws : List Int) (n s p a b : Nat) (hs : s ≤ 1) (hp : p ≤ 29) (ha : a ≤ 9) (hb : b ≤ 10) (hn : n ≤ 30) : (mC k ws n s p a b).length ≤ 10000 := by
  have h1 : ∀ sw q x, (missB k ws n sw q x).length ≤ 10 := fun sw q x => by
    unfold missB; rw [List.length_map]; exact Nat.le_trans (List.length_filter_le _ _) (by simp)
  have hfl : ∀ {α : Type} (l : List Nat) (f : Nat → List α) (c : Nat), (∀ x, (f x).length ≤ c) → (l.flatMap f).length ≤ l.length * c := by
    intro α l f c h
    induction l with
    | nil => simp
    | cons x l ih => rw [List.flatMap_cons, List.length_append, List.length_cons, Nat.add_mul]; have := h x; omega
  have h2 : ∀ sw q, (missA k ws n sw q).length ≤ 100 := fun sw q => by
    have := hfl (List.range 10) (missB k ws n sw q) 10 (h1 sw q); simpa [missA] using this
  have h3 : ∀ sw, (missS k ws n sw).length ≤ 3000 := fun sw => by
    have := hfl (List.range (if sw then n - 1 else n)) (fun i => missA k ws n sw (i + 1)) 100 (fun x => h2 _ _)
    rw [List.length_range] at this
    have hc : (if sw then n - 1 else n) * 100 ≤ 3000 := by split <;> omega
    exact Nat.le_trans this hc
  have e1 := hfl (List.range s) (fun j => missS k ws n (decide (j = 1))) 3000 (fun x => h3 _)
  have e2 := hfl (List.range p) (fun i => missA k ws n (decide (s = 1)) (i + 1)) 100 (fun x => h2 _ _)
  have e3 := hfl (List.range a) (missB k ws n (decide (s = 1)) (p + 1)) 10 (h1 _ _)
  have e4 := List.length_filter_le (fun x => decide (a < x) && missD k ws n (decide (s = 1), p + 1, a, x)) (List.range b)
  rw [List.length_range] at e1 e2 e3 e4
  unfold mC mB mA mO
  rw [List.length_append, List.length_append, List.length_append, List.length_map]
  omega
end Go.Proofs.YtnhkhpnkhkagaaaDoor
