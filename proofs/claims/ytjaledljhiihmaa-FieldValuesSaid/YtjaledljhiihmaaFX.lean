/- Chapter 18, plain: polynomials through points, as they are made in place. -/
import Derived.Test.YtjaledljhiihmaaFD
namespace Go.Proofs.Ytjaledljhiihmaa
open Go.RowKit
/-- Which elements have been seen. -/
def seenL (xs : List Nat) : List Value := (List.range 64).map fun (a : Nat) => Value.bool (decide (a ∈ xs))
theorem seenL_nil : List.replicate 64 (Value.bool false) = seenL [] := by kernel_rfl
theorem seenL_len (xs : List Nat) : (seenL xs).length = 64 := by simp [seenL]
theorem seenL_at (xs : List Nat) (a : Nat) (h : a < 64) : (seenL xs)[a * 1]? = some (.bool (decide (a ∈ xs))) := by
  unfold seenL; rw [Nat.mul_one, List.getElem?_map, List.getElem?_range h]; rfl
theorem seenL_set (xs : List Nat) (a : Nat) : (seenL xs).set (a * 1) (.bool true) = seenL (xs ++ [a]) := by
  apply List.ext_getElem?
  intro i
  unfold seenL
  rw [List.getElem?_set, Nat.mul_one, List.length_map, List.length_range, List.getElem?_map, List.getElem?_map]
  by_cases h : a = i
  · subst h
    rw [if_pos rfl]
    by_cases hi : a < 64
    · rw [if_pos hi, List.getElem?_range hi]; simp
    · rw [if_neg hi, List.getElem?_eq_none (by simpa using hi)]; rfl
  · rw [if_neg h]
    by_cases hi : i < 64
    · rw [List.getElem?_range hi]; simp; intro e; exact absurd e.symm h
    · rw [List.getElem?_eq_none (by simpa using hi)]; rfl
theorem nodup_snoc {xs : List Nat} {a : Nat} (h : xs.Nodup) (ha : a ∉ xs) : (xs ++ [a]).Nodup := by
  rw [List.nodup_append]
  exact ⟨h, by simp, fun x hx y hy e => by simp at hy; subst hy; subst e; exact ha hx⟩
theorem not_nodup {xs : List Nat} {i a : Nat} (hi : xs[i]? = some a) (ha : a ∈ xs.take i) : ¬ xs.Nodup := fun h => by
  have h2 : (xs.take (i + 1)).Nodup := h.sublist (List.take_sublist _ _)
  rw [take_more xs i a hi, List.nodup_append] at h2
  exact h2.2.2 a ha a (by simp) rfl
def thrE (x y : List Nat) : Int := if errL [x, y] = 0 then (if x.length = y.length then (if x.Nodup then 0 else 2) else 2) else errL [x, y]
/-- i points are met; Z is 0 at all of them, and nowhere else. -/
structure Thr (x y P Z : List Nat) (i : Nat) : Prop where
  pl : P.length = x.length
  zl : Z.length = x.length + 1
  pe : El P
  ze : El Z
  zd : dg Z ≤ i + 1
  pd : dg P ≤ i
  met : ∀ j a b : Nat, j < i → x[j]? = some a → y[j]? = some b → evl P a = b
  zero : ∀ j a : Nat, j < i → x[j]? = some a → evl Z a = 0
  non : ∀ a, a < 64 → a ∉ x.take i → evl Z a ≠ 0
theorem evl_one (m x : Nat) : evl (1 :: List.replicate m 0) x = 1 := by
  rw [evl, evl_zero _ x (fun k => cf_replicate m k), gm_zl, Nat.zero_xor]
theorem thr_start (x y : List Nat) : Thr x y (List.replicate x.length 0) ((List.replicate (x.length + 1) 0).set 0 1) 0 := by
  have e : (List.replicate (x.length + 1) 0).set 0 1 = 1 :: List.replicate x.length 0 := by rw [List.replicate_succ]; rfl
  rw [e]
  refine ⟨List.length_replicate, by rw [List.length_cons, List.length_replicate], fun a h => by rw [List.eq_of_mem_replicate h]; omega, fun a h => ?_, ?_, ?_, fun j a b h => absurd h (by omega), fun j a h => absurd h (by omega), fun a _ _ => by rw [evl_one _ a]; omega⟩
  · rcases List.mem_cons.1 h with rfl | h
    · omega
    · rw [List.eq_of_mem_replicate h]; omega
  · refine dg_le _ 1 fun k hk => ?_
    obtain ⟨k, rfl⟩ : ∃ j, k = j + 1 := ⟨k - 1, by omega⟩
    rw [cf_s]; exact cf_replicate _ _
  · exact dg_le _ 0 fun k _ => cf_replicate _ _
/-- P gets Z times a factor. -/
def thF (P Z : List Nat) (c j k : Nat) : Nat := cf P k ^^^ (if k < j then gm c (cf Z k) else 0)
theorem thF_lt {P : List Nat} (hP : El P) (Z : List Nat) (c j k : Nat) : thF P Z c j k < 64 := by
  unfold thF
  refine xor_lt64 _ _ (hP.cf k) ?_
  split
  · exact gm_lt _ _
  · omega
theorem thF_start (P Z : List Nat) (c : Nat) : Cfs P P.length (thF P Z c 0) := ⟨rfl, fun k _ => by unfold thF; rw [if_neg (by omega), Nat.xor_zero]⟩
theorem thF_step {P Z L : List Nat} {n c j : Nat} (h : Cfs L n (thF P Z c j)) (hj : j < n) : Cfs (L.set j (thF P Z c j j ^^^ gm c (cf Z j))) n (thF P Z c (j + 1)) := by
  refine h.set _ _ hj ?_ fun k hk => ?_
  · unfold thF; rw [if_pos (by omega), if_neg (by omega), Nat.xor_zero]
  · unfold thF; congr 1
    by_cases h1 : k < j
    · rw [if_pos h1, if_pos (by omega)]
    · rw [if_neg h1, if_neg (by omega)]
/-- Z times z - a, from above: the places from k1 on are done. -/
def zF (Z : List Nat) (a k1 k : Nat) : Nat := if k < k1 then cf Z k else gm (cf Z k) a ^^^ (if k = 0 then 0 else cf Z (k - 1))
theorem zF_lt {Z : List Nat} (hZ : El Z) (a k1 k : Nat) : zF Z a k1 k < 64 := by
  unfold zF
  split
  · exact hZ.cf k
  · refine xor_lt64 _ _ (gm_lt _ _) ?_
    split
    · omega
    · exact hZ.cf _
theorem zF_start (Z : List Nat) (a : Nat) : Cfs Z Z.length (zF Z a Z.length) := ⟨rfl, fun k hk => by unfold zF; rw [if_pos hk]⟩
theorem zF_at (Z : List Nat) (a k : Nat) : zF Z a (k + 1) k = cf Z k := by unfold zF; rw [if_pos (by omega)]
theorem zF_one {Z L : List Nat} {n a k : Nat} (h : Cfs L n (zF Z a (k + 1))) (hk : k < n) (v : Nat) (hv : v = zF Z a k k) (u : Nat) : Cfs ((L.set k u).set k v) n (zF Z a k) := by
  rw [List.set_set]
  refine h.set k v hk hv.symm fun j hj => ?_
  unfold zF
  by_cases h1 : j < k
  · rw [if_pos h1, if_pos (by omega)]
  · rw [if_neg h1, if_neg (by omega), if_neg (by omega)]
theorem zF_low {Z L : List Nat} {n a : Nat} (h : Cfs L n (zF Z a 1)) (hn : 0 < n) : Cfs (L.set 0 (gm (cf Z 0) a)) n (zF Z a 0) := by
  refine h.set 0 _ hn (by unfold zF; rw [if_neg (by omega), if_pos rfl, Nat.xor_zero]) fun j hj => ?_
  unfold zF
  rw [if_neg (by omega), if_neg (by omega), if_neg (by omega)]
theorem thr_step {x y P Z L M : List Nat} {i a b : Nat} (hx : El x) (hn : x.Nodup) (ha : x[i]? = some a) (hb : y[i]? = some b) (hb64 : b < 64) (h : Thr x y P Z i)
    (hL : Cfs L P.length (thF P Z (gm (b ^^^ evl P a) (gi (evl Z a))) P.length)) (hM : Cfs M Z.length (zF Z a 0)) : Thr x y L M (i + 1) := by
  have hi : i < x.length := (List.getElem?_eq_some_iff.1 ha).1
  have ha64 := hx.get ha
  have hpl := h.pl
  have hzl := h.zl
  have hzd := h.zd
  have hpd := h.pd
  have hna : a ∉ x.take i := fun hm => not_nodup ha hm hn
  have hz0 := h.non a ha64 hna
  have hz64 := evl_lt Z a h.ze
  have hp64 := evl_lt P a h.pe
  generalize hc : gm (b ^^^ evl P a) (gi (evl Z a)) = c at *
  have hc64 : c < 64 := by rw [← hc]; exact gm_lt _ _
  have hLa : ∀ k, cf L k = cf (pa P (sc c Z)) k := fun k => by
    rw [cf_pa, cf_sc, hL.all (fun k hk => by
      unfold thF; rw [cf_none hk, if_neg (by omega)]; rfl)]
    unfold thF; congr 1
    by_cases h1 : k < P.length
    · rw [if_pos h1]
    · rw [if_neg h1, cf_ge Z k (by omega), gm_zr]
  have hMa : ∀ k, cf M k = cf (pm [a, 1] Z) k := fun k => by
    have e : zF Z a 0 k = cf (pm [a, 1] Z) k := by
      unfold zF
      rw [if_neg (by omega)]
      cases k with
      | zero => rw [cf_pm_z, if_pos rfl, Nat.xor_zero, gm_comm]
      | succ k =>
        rw [cf_pm_s, if_neg (by omega), gm_comm, show k + 1 - 1 = k from rfl]
        congr 1
        cases k with
        | zero => rw [cf_pm_z, one_gm _ (h.ze.cf _)]
        | succ k => rw [cf_pm_s, one_gm _ (h.ze.cf _), show pm [] Z = [] from rfl, cf_nil, Nat.xor_zero]
    rw [← e]
    exact hM.all (fun k hk => by
      unfold zF
      rw [if_neg (by omega), cf_ge Z k (by omega), gm_zl, if_neg (by omega), cf_ge Z (k - 1) (by omega)]; rfl) k
  have hLe : El L := hL.el (thF_lt h.pe Z c _)
  have hMe : El M := hM.el (zF_lt h.ze a 0)
  have e1 : El [a, 1] := El.cons_ ha64 (El.cons_ (by omega) El.nil_)
  have hevL : ∀ t, t < 64 → evl L t = evl P t ^^^ gm c (evl Z t) := fun t ht => by
    rw [evl_congr t hLa, evl_pa t ht P _ h.pe (el_sc c Z), evl_sc t ht c hc64 Z h.ze]
  have hevM : ∀ t, t < 64 → evl M t = gm (t ^^^ a) (evl Z t) := fun t ht => by
    rw [evl_congr t hMa, evl_pm t ht _ Z e1 h.ze, evl_lin a t ht]
  refine ⟨by rw [hL.1, h.pl], by rw [hM.1, h.zl], hLe, hMe, ?_, ?_, fun j a' b' hj ha' hb' => ?_, fun j a' hj ha' => ?_, fun t ht htn => ?_⟩
  · rw [dg_congr hMa]
    rcases Nat.eq_zero_or_pos (dg Z) with h0 | h0
    · rw [pm_zero _ Z (.inr h0)]; omega
    · have h2 : dg [a, 1] = 2 := by simp [dg]
      rw [dg_pm _ Z (by omega) h0]; omega
  · refine dg_le L (i + 1) fun k hk => ?_
    rw [hLa, cf_pa, cf_sc, cf_ge P k (by omega), cf_ge Z k (by omega), gm_zr]; rfl
  · rw [hevL a' (hx.get ha')]
    rcases Nat.lt_or_ge j i with hji | hji
    · rw [h.zero j a' hji ha', gm_zr, Nat.xor_zero]; exact h.met j a' b' hji ha' hb'
    · obtain rfl : j = i := by omega
      rw [ha] at ha'; injection ha' with ha'; subst ha'
      rw [hb] at hb'; injection hb' with hb'; subst hb'
      rw [← hc, gm_assoc, gm_comm (gi _), gm_gi _ hz64 hz0, gm_one _ (xor_lt64 _ _ hb64 hp64), Nat.xor_comm b, ← Nat.xor_assoc, Nat.xor_self, Nat.zero_xor]
  · rw [hevM a' (hx.get ha')]
    rcases Nat.lt_or_ge j i with hji | hji
    · rw [h.zero j a' hji ha', gm_zr]
    · obtain rfl : j = i := by omega
      rw [ha] at ha'; injection ha' with ha'; subst ha'
      rw [Nat.xor_self]; rfl
  · rw [hevM t ht]
    rw [take_more x i a ha, List.mem_append] at htn
    refine gm_ne _ _ (fun e => htn (.inr (by rw [xor_zero_eq e]; simp))) (h.non t ht fun hm => htn (.inl hm))
theorem thr_end {x y P Z : List Nat} (h : Thr x y P Z x.length) : IsThr x y (tr P) :=
  ⟨h.pe.tr, tr_tr P, by rw [tr_len]; exact h.pd, fun i a b ha hb => by
    rw [evl_congr a (cf_tr P)]; exact h.met i a b (List.getElem?_eq_some_iff.1 ha).1 ha hb⟩
end Go.Proofs.Ytjaledljhiihmaa
