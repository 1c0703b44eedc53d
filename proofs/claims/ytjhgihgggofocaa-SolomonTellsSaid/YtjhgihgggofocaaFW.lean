/- Chapter 18, plain: the steps of sums, products, divisions and polynomials through points, as they are made in place. -/
import Derived.Test.YtjhgihgggofocaaFC
namespace Go.Proofs.Ytjhgihgggofocaa

theorem take_more {α : Type} (l : List α) (i : Nat) (b : α) (h : l[i]? = some b) : l.take (i + 1) = l.take i ++ [b] := by
  rw [List.take_add_one, h]; rfl
/-- L has the coefficients F, as far as it goes. -/
def Cfs (L : List Nat) (n : Nat) (F : Nat → Nat) : Prop := L.length = n ∧ ∀ k, k < n → cf L k = F k
theorem Cfs.get {L : List Nat} {n : Nat} {F : Nat → Nat} (h : Cfs L n F) {k : Nat} (hk : k < n) : L[k]? = some (F k) := by
  rw [← h.2 k hk]; exact getElem?_cf (by rw [h.1]; exact hk)
theorem Cfs.set {L : List Nat} {n : Nat} {F G : Nat → Nat} (h : Cfs L n F) (i a : Nat) (hi : i < n) (h1 : G i = a) (h2 : ∀ k, k ≠ i → G k = F k) : Cfs (L.set i a) n G :=
  ⟨by rw [List.length_set]; exact h.1, fun k hk => by
    rw [cf_set _ _ _ _ (by rw [h.1]; exact hi)]
    by_cases e : k = i
    · subst e; rw [if_pos rfl, h1]
    · rw [if_neg e, h.2 k hk, h2 k e]⟩
theorem Cfs.congr {L : List Nat} {n : Nat} {F G : Nat → Nat} (h : Cfs L n F) (he : ∀ k, k < n → F k = G k) : Cfs L n G := ⟨h.1, fun k hk => by rw [h.2 k hk, he k hk]⟩
theorem Cfs.all {L : List Nat} {n : Nat} {F : Nat → Nat} (h : Cfs L n F) (h0 : ∀ k, n ≤ k → F k = 0) (k : Nat) : cf L k = F k := by
  rcases Nat.lt_or_ge k n with hk | hk
  · exact h.2 k hk
  · rw [cf_none (by rw [h.1]; exact hk), h0 k hk]
theorem cfs_zero (n : Nat) : Cfs (List.replicate n 0) n (fun _ => 0) := ⟨List.length_replicate, fun k _ => cf_replicate n k⟩
theorem Cfs.el {L : List Nat} {n : Nat} {F : Nat → Nat} (h : Cfs L n F) (hF : ∀ k, F k < 64) : El L := fun a ha => by
  obtain ⟨i, hi⟩ := List.mem_iff_getElem?.1 ha
  have hlt := (List.getElem?_eq_some_iff.1 hi).1
  rw [h.get (by rw [← h.1]; exact hlt)] at hi
  injection hi with hi
  rw [← hi]; exact hF i

/-! sums -/
def sumF (p q : List Nat) (i k : Nat) : Nat := cf p k ^^^ cf (q.take i) k
theorem sumF_lt {p q : List Nat} (hp : El p) (hq : El q) (i k : Nat) : sumF p q i k < 64 := xor_lt64 _ _ (hp.cf k) ((hq.take i).cf k)
theorem sum_start (p q : List Nat) : Cfs (p ++ (List.replicate (max p.length q.length) 0).drop p.length) (max p.length q.length) (sumF p q 0) := by
  refine ⟨by rw [List.length_append, List.length_drop, List.length_replicate]; omega, fun k _ => ?_⟩
  unfold sumF
  rw [cf_app, List.take_zero, cf_nil, Nat.xor_zero]
  split
  · rfl
  · rw [cf_drop, cf_replicate, cf_none (by omega)]
theorem sum_step {p q L : List Nat} {n i c : Nat} (h : Cfs L n (sumF p q i)) (hi : i < n) (hc : q[i]? = some c) : Cfs (L.set i (sumF p q i i ^^^ c)) n (sumF p q (i + 1)) := by
  refine h.set i _ hi ?_ fun k hk => ?_
  · unfold sumF; rw [cf_take, cf_take, if_pos (by omega), if_neg (by omega), Nat.xor_zero, cf_some hc]
  · unfold sumF; rw [cf_take, cf_take]; congr 1
    by_cases h1 : k < i
    · rw [if_pos h1, if_pos (by omega)]
    · rw [if_neg h1, if_neg (by omega)]
theorem sum_end {p q L : List Nat} (h : Cfs L (max p.length q.length) (sumF p q q.length)) : tr L = tr (pa p q) := by
  refine tr_congr fun k => ?_
  rw [h.all (fun k hk => by unfold sumF; rw [cf_none (by omega), cf_none (by rw [List.length_take]; omega)]; rfl), cf_pa]
  unfold sumF; rw [List.take_length]

/-! products -/
def pmF (p q : List Nat) (i a j k : Nat) : Nat := cf (pm (p.take i) q) k ^^^ (if i ≤ k ∧ k - i < j then gm a (cf q (k - i)) else 0)
theorem pmF_lt (p q : List Nat) (i a j k : Nat) : pmF p q i a j k < 64 := by
  unfold pmF
  refine xor_lt64 _ _ ((el_pm _ _).cf k) ?_
  split
  · exact gm_lt _ _
  · omega
theorem pmF_zero (p q : List Nat) (i a k : Nat) : pmF p q i a 0 k = cf (pm (p.take i) q) k := by
  unfold pmF; rw [if_neg (by omega), Nat.xor_zero]
theorem pm_step {p q L : List Nat} {n i a j b : Nat} (h : Cfs L n (pmF p q i a j)) (hi : i + j < n) (hb : q[j]? = some b) : Cfs (L.set (i + j) (pmF p q i a j (i + j) ^^^ gm a b)) n (pmF p q i a (j + 1)) := by
  refine h.set _ _ hi ?_ fun k hk => ?_
  · unfold pmF; rw [if_pos (by omega), if_neg (by omega), Nat.xor_zero, show i + j - i = j from by omega, cf_some hb]
  · unfold pmF; congr 1
    by_cases h1 : i ≤ k ∧ k - i < j
    · rw [if_pos h1, if_pos (by omega)]
    · rw [if_neg h1, if_neg (by omega)]
theorem pm_row {p q L : List Nat} {n i a : Nat} (h : Cfs L n (pmF p q i a (dg q))) (ha : p[i]? = some a) : Cfs L n (fun k => cf (pm (p.take (i + 1)) q) k) := by
  refine h.congr fun k _ => ?_
  have hi : i < p.length := (List.getElem?_eq_some_iff.1 ha).1
  rw [take_more p i a ha, cf_pm_snoc, List.length_take, Nat.min_eq_left (by omega)]
  unfold pmF; congr 1
  by_cases h1 : k < i
  · rw [if_pos h1, if_neg (by omega)]
  · rw [if_neg h1]
    by_cases h2 : k - i < dg q
    · rw [if_pos ⟨by omega, h2⟩]
    · rw [if_neg (by omega), cf_ge q _ (by omega), gm_zr]
theorem pm_end {p q L : List Nat} (hp : 0 < dg p) (hq : 0 < dg q) (h : Cfs L (dg p + dg q - 1) (fun k => cf (pm (p.take (dg p)) q) k)) : L = tr (pm p q) := by
  have hd := dg_pm p q hp hq
  refine eq_of_cf (by rw [h.1, tr_len, hd]) fun k => ?_
  have e : ∀ k, cf (pm (p.take (dg p)) q) k = cf (pm p q) k := fun k => pm_congr_l (fun i => cf_tr p i) q k
  rw [cf_tr, h.all (fun k hk => by rw [e, cf_ge _ _ (by omega)]), e]

/-! divisions -/
theorem pm_set (q : List Nat) (c : Nat) : ∀ (D : List Nat) (k : Nat), k < D.length → cf D k = 0 → ∀ x, cf (pm (D.set k c) q) x = cf (pm D q) x ^^^ (if k ≤ x then gm c (cf q (x - k)) else 0)
  | [], k, h, _, _ => by simp at h
  | a :: D, 0, _, h0, x => by
    have ha : a = 0 := h0
    subst ha
    rw [List.set_cons_zero, if_pos (Nat.zero_le _), Nat.sub_zero]
    cases x with
    | zero => rw [cf_pm_z, cf_pm_z, gm_zl, Nat.zero_xor]
    | succ x => rw [cf_pm_s, cf_pm_s, gm_zl, Nat.zero_xor, Nat.xor_comm]
  | a :: D, k + 1, h, h0, x => by
    rw [List.set_cons_succ]
    cases x with
    | zero => rw [cf_pm_z, cf_pm_z, if_neg (by omega), Nat.xor_zero]
    | succ x =>
      rw [cf_pm_s, cf_pm_s, pm_set q c D k (by simpa using h) h0 x, Nat.xor_assoc, show x + 1 - (k + 1) = x - k from by omega]
      congr 2
      by_cases hk : k ≤ x
      · rw [if_pos hk, if_pos (by omega)]
      · rw [if_neg hk, if_neg (by omega)]
/-- k1 rows are still to be taken away. -/
structure Div (p q D R : List Nat) (k1 : Nat) : Prop where
  dl : D.length = dg p - (dg q - 1)
  rl : R.length = dg p
  de : El D
  re : El R
  eq : ∀ x, cf p x = cf (pm D q) x ^^^ cf R x
  top : ∀ x, dg q - 1 + k1 ≤ x → cf R x = 0
  low : ∀ x, x < k1 → cf D x = 0
theorem div_start {p q : List Nat} (hp : El p) : Div p q (List.replicate (dg p - (dg q - 1)) 0) (tr p) (dg p - (dg q - 1)) :=
  ⟨List.length_replicate, tr_len p, fun a h => by rw [List.eq_of_mem_replicate h]; omega, hp.tr, fun x => by
    rw [pm_congr_l (p' := []) (fun i => by rw [cf_replicate, cf_nil]), show pm [] q = [] from rfl, cf_nil, Nat.zero_xor, cf_tr],
   fun x hx => by rw [cf_tr]; exact cf_ge p x (by omega), fun x _ => cf_replicate _ _⟩
def divF (q R : List Nat) (k c j x : Nat) : Nat := cf R x ^^^ (if k ≤ x ∧ x - k < j then gm c (cf q (x - k)) else 0)
theorem divF_lt {q R : List Nat} (hR : El R) (k c j x : Nat) : divF q R k c j x < 64 := by
  unfold divF
  refine xor_lt64 _ _ (hR.cf x) ?_
  split
  · exact gm_lt _ _
  · omega
theorem div_cfs (q R : List Nat) (k c : Nat) : Cfs R R.length (divF q R k c 0) := ⟨rfl, fun x _ => by unfold divF; rw [if_neg (by omega), Nat.xor_zero]⟩
theorem div_step {q R L : List Nat} {n k c j b : Nat} (h : Cfs L n (divF q R k c j)) (hi : k + j < n) (hb : q[j]? = some b) : Cfs (L.set (k + j) (divF q R k c j (k + j) ^^^ gm c b)) n (divF q R k c (j + 1)) := by
  refine h.set _ _ hi ?_ fun x hx => ?_
  · unfold divF; rw [if_pos (by omega), if_neg (by omega), Nat.xor_zero, show k + j - k = j from by omega, cf_some hb]
  · unfold divF; congr 1
    by_cases h1 : k ≤ x ∧ x - k < j
    · rw [if_pos h1, if_pos (by omega)]
    · rw [if_neg h1, if_neg (by omega)]
theorem div_row {p q D R L : List Nat} {k : Nat} (hq : 0 < dg q) (hqe : El q) (h : Div p q D R (k + 1)) (hk : k + 1 ≤ D.length) (hL : Cfs L R.length (divF q R k (gm (cf R (k + (dg q - 1))) (gi (cf q (dg q - 1)))) (dg q))) :
    Div p q (D.set k (gm (cf R (k + (dg q - 1))) (gi (cf q (dg q - 1))))) L k := by
  have hq64 := hqe.cf (dg q - 1)
  have hqt := cf_top q hq
  generalize hc : gm (cf R (k + (dg q - 1))) (gi (cf q (dg q - 1))) = c at *
  have hF : ∀ x, divF q R k c (dg q) x = cf R x ^^^ (if k ≤ x then gm c (cf q (x - k)) else 0) := fun x => by
    unfold divF; congr 1
    by_cases h1 : k ≤ x
    · rw [if_pos h1]
      by_cases h2 : x - k < dg q
      · rw [if_pos ⟨h1, h2⟩]
      · rw [if_neg (by omega), cf_ge q _ (by omega), gm_zr]
    · rw [if_neg (by omega), if_neg h1]
  have hall : ∀ x, cf L x = divF q R k c (dg q) x := hL.all fun x hx => by
    rw [hF, cf_none hx, Nat.zero_xor]
    split
    · have := h.dl; have := h.rl
      rw [cf_ge q _ (by omega), gm_zr]
    · rfl
  have hc64 : c < 64 := by rw [← hc]; exact gm_lt _ _
  refine ⟨by rw [List.length_set]; exact h.dl, by rw [hL.1]; exact h.rl, fun a ha => ?_, hL.el (divF_lt h.re k c _), fun x => ?_, fun x hx => ?_, fun x hx => ?_⟩
  · rcases List.mem_or_eq_of_mem_set ha with ha | rfl
    · exact h.de a ha
    · exact hc64
  · rw [h.eq x, pm_set q c D k (by omega) (h.low k (by omega)) x, hall, hF, Nat.xor_assoc]
    congr 1
    rw [Nat.xor_comm (cf R x), ← Nat.xor_assoc, Nat.xor_self, Nat.zero_xor]
  · rw [hall, hF, if_pos (by omega)]
    rcases Nat.eq_or_lt_of_le hx with e | hlt
    · have e1 : x = k + (dg q - 1) := by omega
      subst e1
      rw [show k + (dg q - 1) - k = dg q - 1 from by omega, ← hc, gm_assoc, gm_comm (gi _), gm_gi _ hq64 hqt, gm_one _ (h.re.cf _), Nat.xor_self]
    · rw [h.top x (by omega), cf_ge q _ (by omega), gm_zr]; rfl
  · rw [cf_set _ _ _ _ (by omega), if_neg (by omega)]; exact h.low x (by omega)
theorem div_end {p q D R : List Nat} (hq : 0 < dg q) (h : Div p q D R 0) : IsDiv p q D (tr R) ∧ tr D = D := by
  have hd : IsDiv p q D (tr R) := ⟨fun x => by rw [cf_tr]; exact h.eq x, by
    rw [dg_tr]; have := dg_le R (dg q - 1) fun x hx => h.top x (by omega); omega⟩
  refine ⟨hd, tr_self ?_⟩
  have hl := dg_len D
  have hdl := h.dl
  rcases Nat.lt_or_ge (dg p) (dg q) with hlt | hge
  · omega
  · have hlr := hd.lt
    have hdp : dg (pm D q) = dg p := by
      have h1 := dg_eq (pm D q) (dg p - 1) (by
        have e := hd.eq (dg p - 1)
        rw [cf_ge (tr R) _ (by omega), Nat.xor_zero] at e
        rw [← e]; exact cf_top p (by omega)) (fun x hx => by
          have e := hd.eq x
          rw [cf_ge (tr R) _ (by omega), Nat.xor_zero, cf_ge p x (by omega)] at e
          exact e.symm)
      omega
    rcases Nat.eq_zero_or_pos (dg D) with h0 | h0
    · rw [pm_zero D q (.inl h0)] at hdp; omega
    · rw [dg_pm D q h0 hq] at hdp; omega
def divE (p q : List Nat) : Int := if errL [p, q] = 0 then (if dg q = 0 then 6 else 0) else errL [p, q]
def mulE (p q : List Nat) : Int := if errL [p, q] = 0 then (if 128 < dg p + dg q - 1 then 5 else 0) else errL [p, q]
end Go.Proofs.Ytjhgihgggofocaa
