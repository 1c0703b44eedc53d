/- Chapter 18: contracts of polynomials whose coefficients are elements; plain laws. -/
import Derived.Test.YtjaledljhiihmaaFG
namespace Go.Proofs.Ytjaledljhiihmaa
/-- The first bytes of a list, as elements. -/
def elsOf (l : List Nat) (m : Nat) : List Nat := (l.take m).map fun c => c % 64
theorem elsOf_el (l : List Nat) (m : Nat) : El (elsOf l m) := fun a h => by
  unfold elsOf at h
  obtain ⟨c, _, rfl⟩ := List.mem_map.1 h
  exact Nat.mod_lt _ (by omega)
theorem elsOf_len (l : List Nat) (m : Nat) : (elsOf l m).length = min m l.length := by unfold elsOf; rw [List.length_map, List.length_take]
theorem elsOf_more {l : List Nat} {k c : Nat} (h : l[k]? = some c) : elsOf l (k + 1) = elsOf l k ++ [c % 64] := by
  unfold elsOf; rw [take_more l k c h, List.map_append]; rfl
theorem elsOf_min (l : List Nat) (m : Nat) : elsOf l (min l.length m) = elsOf l m := by
  unfold elsOf
  congr 1
  rcases Nat.le_total l.length m with h | h
  · rw [Nat.min_eq_left h, List.take_length, List.take_of_length_le h]
  · rw [Nat.min_eq_right h]
section
variable (u v : Value) (p q : List Nat) (w : World)
theorem Degree_el (hl : RdL w 1 encN u p) (h : p.length ≤ 128) (he : El p) : Ret Try.prog 35 [u] w (fun v w' => v = .tuple #[.int .i64 ((dg p : Int) - 1), .int .i64 0] ∧ Ex w w') :=
  (Degree_ret u p w hl (by omega)).mono fun v w' ⟨e, hx⟩ => ⟨by rw [e, errL_els h he, if_pos rfl], hx⟩
theorem Trim_el (hl : RdL w 1 encN u p) (h : p.length ≤ 128) (he : El p) : Ret Try.prog 38 [u] w (fun v w' => ∃ r, v = .tuple #[r, .int .i64 0] ∧ Own w' w.heap.size 5 1 encN r (tr p) ∧ Ex w w') :=
  (trim_ret u p w hl (by omega)).mono fun v w' ⟨r, e, ho, hx⟩ => ⟨r, by rw [e, errL_els h he], by rw [if_pos (errL_els h he)] at ho; exact ho, hx⟩
theorem Eval_el (x : Nat) (hl : RdL w 1 encN u p) (h : p.length ≤ 128) (he : El p) (hx : x < 64) : Ret Try.prog 23 [u, .int .u8 (x : Int)] w (fun v w' => v = .tuple #[.int .u8 (evl p x : Int), .int .i64 0] ∧ Ex w w') := by
  have e0 : errL [p, [x]] = 0 := errL_els2 h he (by simp) (el1 hx)
  exact (Eval_ret u p x w hl (by omega)).mono fun v w' ⟨e, hx⟩ => ⟨by rw [e, e0, if_pos rfl], hx⟩
theorem Roots_el (hl : RdL w 1 encN u p) (h : p.length ≤ 128) (he : El p) (hd : 0 < dg p) : Ret Try.prog 24 [u] w (fun v w' => ∃ r, v = .tuple #[r, .int .i64 0] ∧ Own w' w.heap.size 5 1 encN r (rootsOf p) ∧ Ex w w') :=
  (roots_ret u p w hl (by omega)).mono fun v w' ⟨r, e, ho, hx⟩ => ⟨r, by rw [e, if_pos (errL_els h he), if_neg (by omega)], by rw [if_pos ⟨errL_els h he, hd⟩] at ho; exact ho, hx⟩
variable (hl : RdL w 1 encN u p) (hm : RdL w 1 encN v q) (h : p.length ≤ 128) (he : El p) (h' : q.length ≤ 128) (he' : El q)
include hl hm h he h' he'
theorem Sum_el : Ret Try.prog 39 [u, v] w (fun v w' => ∃ r, v = .tuple #[r, .int .i64 0] ∧ Own w' w.heap.size 5 1 encN r (tr (pa p q)) ∧ Ex w w') :=
  (sum_ret u v p q w hl hm (by omega) (by omega)).mono fun v w' ⟨r, e, ho, hx⟩ => ⟨r, by rw [e, errL_els2 h he h' he'], by rw [if_pos (errL_els2 h he h' he')] at ho; exact ho, hx⟩
theorem Product_el (hd : dg p + dg q - 1 ≤ 128) : Ret Try.prog 37 [u, v] w (fun v w' => ∃ r, v = .tuple #[r, .int .i64 0] ∧ Own w' w.heap.size 5 1 encN r (tr (pm p q)) ∧ Ex w w') := by
  have e0 : mulE p q = 0 := by unfold mulE; rw [if_pos (errL_els2 h he h' he'), if_neg (by omega)]
  exact (product_ret u v p q w hl hm (by omega) (by omega)).mono fun v w' ⟨r, e, ho, hx⟩ => ⟨r, by rw [e, e0], by rw [if_pos e0] at ho; exact ho, hx⟩
theorem Divide_el (hd : 0 < dg q) : Ret Try.prog 36 [u, v] w (fun v w' => ∃ r1 r2 d r, v = .tuple #[r1, r2, .int .i64 0] ∧ Own w' w.heap.size 5 1 encN r1 d ∧ Own w' w.heap.size 5 1 encN r2 r ∧ Sep r1 r2 ∧ (IsDiv p q d r ∧ tr d = d ∧ tr r = r ∧ El d ∧ El r) ∧ Ex w w') := by
  have e0 : divE p q = 0 := by unfold divE; rw [if_pos (errL_els2 h he h' he'), if_neg (by omega)]
  exact (divide_ret u v p q w hl hm (by omega) (by omega)).mono fun v w' ⟨r1, r2, d, r, e, h1, h2, h3, h4, _, hx⟩ => ⟨r1, r2, d, r, by rw [e, e0], h1, h2, h3, h4 e0, hx⟩
theorem Through_el (hq : p.length = q.length) (hn : p.Nodup) : Ret Try.prog 25 [u, v] w (fun v w' => ∃ r t, v = .tuple #[r, .int .i64 0] ∧ Own w' w.heap.size 5 1 encN r t ∧ IsThr p q t ∧ Ex w w') := by
  have e0 : thrE p q = 0 := by unfold thrE; rw [if_pos (errL_els2 h he h' he'), if_pos hq, if_pos hn]
  exact (through_ret u v p q w hl hm (by omega)).mono fun v w' ⟨r, t, e, h1, h2, _, hx⟩ => ⟨r, t, by rw [e, e0], h1, h2 e0, hx⟩
end
theorem isDiv_dg {p q d r : List Nat} (hq : 0 < dg q) (h : IsDiv p q d r) : dg d ≤ dg p := by
  rcases Nat.eq_zero_or_pos (dg d) with h0 | h0
  · omega
  · have hlt := h.lt
    have ht := cf_pm_top d q h0 hq
    have e := h.eq (dg d + dg q - 2)
    rw [cf_ge r _ (by omega), Nat.xor_zero, ht] at e
    rcases Nat.lt_or_ge (dg p) (dg d + dg q - 1) with hp | hp
    · rw [cf_ge p _ (by omega)] at e
      exact absurd e.symm (gm_ne _ _ (cf_top d h0) (cf_top q hq))
    · omega
theorem div_back {p q d r : List Nat} (h : IsDiv p q d r) : tr (pa (tr (pm d q)) r) = tr p :=
  tr_congr fun k => by rw [cf_pa, cf_tr, ← h.eq]
theorem div_prod {p q d r : List Nat} (hq : 0 < dg q) (hp : El p) (hqe : El q) (h : IsDiv (tr (pm p q)) q d r) (hd : El d) (h1 : tr d = d) (h2 : tr r = r) : d = tr p ∧ r = [] := by
  have e : IsDiv (tr (pm p q)) q p [] := ⟨fun k => by rw [cf_tr, cf_nil, Nat.xor_zero], hq⟩
  obtain ⟨f1, f2⟩ := isDiv_uniq hqe hd hp h e
  exact ⟨by rw [← h1]; exact tr_congr f1, by rw [← h2]; exact (tr_congr f2).trans rfl⟩
theorem div_root {p d r : List Nat} {x : Nat} (hp : El p) (hx : x < 64) (h0 : evl p x = 0) (h : IsDiv p [x, 1] d r) (hd : El d) (h2 : tr r = r) : r = [] := by
  obtain ⟨d', hd', he⟩ := syn x hx p hp
  have e : IsDiv p [x, 1] d' [] := ⟨fun k => by
    rw [he k, h0, cf_nil]
    cases k with
    | zero => rfl
    | succ k => rw [cf_s, cf_nil], by simp [dg]⟩
  obtain ⟨_, f2⟩ := isDiv_uniq (el2 hx (by omega)) hd hd' h e
  rw [← h2]; exact (tr_congr f2).trans rfl
theorem rootsOf_el (p : List Nat) : El (rootsOf p) := fun a h => by
  unfold rootsOf at h; exact List.mem_range.1 (List.mem_filter.1 h).1
theorem rootsOf_root {p : List Nat} {x : Nat} (h : x ∈ rootsOf p) : evl p x = 0 := by
  unfold rootsOf at h; exact Nat.eq_of_beq_eq_true (List.mem_filter.1 h).2
theorem rootsOf_lt {p : List Nat} (hp : El p) (h : 0 < dg p) : (rootsOf p).length < dg p :=
  roots_le _ p hp (rootsOf_el p) (by unfold rootsOf; exact List.nodup_range.sublist List.filter_sublist) (fun x hx => rootsOf_root hx) h
/-! points -/
def ptX (fr k : Nat) : List Nat := (List.range k).map fun i => (fr + 5 * i) % 64
def ptY (p : List Nat) (fr k : Nat) : List Nat := (List.range k).map fun i => evl p ((fr + 5 * i) % 64)
theorem ptX_more (fr k : Nat) : ptX fr (k + 1) = ptX fr k ++ [(fr + 5 * k) % 64] := by unfold ptX; rw [List.range_succ, List.map_append]; rfl
theorem ptY_more (p : List Nat) (fr k : Nat) : ptY p fr (k + 1) = ptY p fr k ++ [evl p ((fr + 5 * k) % 64)] := by unfold ptY; rw [List.range_succ, List.map_append]; rfl
theorem ptX_len (fr k : Nat) : (ptX fr k).length = k := by simp [ptX]
theorem ptY_len (p : List Nat) (fr k : Nat) : (ptY p fr k).length = k := by simp [ptY]
theorem ptX_el (fr k : Nat) : El (ptX fr k) := fun a h => by
  unfold ptX at h; obtain ⟨i, _, rfl⟩ := List.mem_map.1 h; exact Nat.mod_lt _ (by omega)
theorem ptY_el (p : List Nat) (fr k : Nat) (hp : El p) : El (ptY p fr k) := fun a h => by
  unfold ptY at h; obtain ⟨i, _, rfl⟩ := List.mem_map.1 h; exact evl_lt p _ hp
theorem ptX_nodup (fr : Nat) : ∀ k, k ≤ 64 → (ptX fr k).Nodup
  | 0, _ => List.nodup_nil
  | k + 1, h => by
    rw [ptX_more]
    refine nodup_snoc (ptX_nodup fr k (by omega)) fun hm => ?_
    unfold ptX at hm
    obtain ⟨i, hi, e⟩ := List.mem_map.1 hm
    have := List.mem_range.1 hi
    omega
theorem pts_thr (p : List Nat) (fr : Nat) (hp : El p) : IsThr (ptX fr p.length) (ptY p fr p.length) (tr p) :=
  ⟨hp.tr, tr_tr p, by rw [tr_len, ptX_len]; exact dg_len p, fun i a b ha hb => by
    rw [evl_congr a (cf_tr p)]
    unfold ptX at ha; unfold ptY at hb
    rw [List.getElem?_map] at ha hb
    cases hr : (List.range p.length)[i]? with
    | none => rw [hr] at ha; cases ha
    | some j =>
      rw [hr] at ha hb
      simp only [Option.map_some, Option.some.injEq] at ha hb
      rw [← ha, hb]⟩
/-! a product of factors z - r -/
def isL (xs : List Nat) : List Value := (List.range 64).map fun (a : Nat) => Value.int .i64 (if a ∈ xs then 1 else 0)
theorem isL_nil : List.replicate 64 (Value.int .i64 0) = isL [] := by kernel_rfl
theorem isL_len (xs : List Nat) : (isL xs).length = 64 := by simp [isL]
theorem isL_at (xs : List Nat) (a : Nat) (h : a < 64) : (isL xs)[a]? = some (.int .i64 (if a ∈ xs then 1 else 0)) := by
  unfold isL; rw [List.getElem?_map, List.getElem?_range h]; rfl
theorem isL_set (xs : List Nat) (a : Nat) : (isL xs).set (a * 1) (.int .i64 1) = isL (xs ++ [a]) := by
  apply List.ext_getElem?
  intro i
  unfold isL
  rw [List.getElem?_set, Nat.mul_one, List.length_map, List.length_range, List.getElem?_map, List.getElem?_map]
  by_cases h : a = i
  · subst h
    rw [if_pos rfl]
    by_cases hi : a < 64
    · rw [if_pos hi, List.getElem?_range hi]; simp
    · rw [if_neg hi, List.getElem?_eq_none (by simpa using hi)]; rfl
  · rw [if_neg h]
    by_cases hi : i < 64
    · have e : (i ∈ xs ++ [a]) ↔ i ∈ xs := by
        rw [List.mem_append]
        exact ⟨fun hh => hh.elim id fun h2 => by simp at h2; exact absurd h2.symm h, .inl⟩
      rw [List.getElem?_range hi]; simp only [Option.map_some, e]
    · rw [List.getElem?_eq_none (by simpa using hi)]; rfl
structure Fac (xs Q : List Nat) : Prop where
  el : El Q
  ln : Q.length = xs.length + 1
  dg : dg Q = xs.length + 1
  rt : ∀ x, x < 64 → (evl Q x = 0 ↔ x ∈ xs)
theorem fac_nil : Fac [] [1] := ⟨el1 (by omega), rfl, by simp [Go.Proofs.Ytjaledljhiihmaa.dg], fun x hx => by
  rw [evl, evl, gm_zl]; simp⟩
theorem fac_more {xs Q : List Nat} {r : Nat} (h : Fac xs Q) (hr : r < 64) : Fac (xs ++ [r]) (tr (pm Q [r, 1])) := by
  have h2 : Go.Proofs.Ytjaledljhiihmaa.dg [r, 1] = 2 := by simp [Go.Proofs.Ytjaledljhiihmaa.dg]
  have hd := dg_pm Q [r, 1] (by rw [h.dg]; omega) (by omega)
  rw [h2, h.dg] at hd
  have e : (xs ++ [r]).length = xs.length + 1 := by simp
  refine ⟨(el_pm _ _).tr, by rw [tr_len, hd, e]; omega, by rw [dg_tr, hd, e]; omega, fun x hx => ?_⟩
  rw [evl_congr x (cf_tr _), evl_pm x hx Q _ h.el (el2 hr (by omega)), evl_lin r x hx, gm_zero_iff, h.rt x hx, List.mem_append]
  constructor
  · rintro (h1 | h1)
    · exact .inl h1
    · exact .inr (by rw [xor_zero_eq h1]; simp)
  · rintro (h1 | h1)
    · exact .inl h1
    · simp at h1; subst h1; exact .inr (Nat.xor_self _)
def memTo (xs : List Nat) (k : Nat) : List Nat := (List.range k).filter fun x => decide (x ∈ xs)
theorem fac_roots {xs Q : List Nat} (h : Fac xs Q) : rootsOf Q = memTo xs 64 := by
  unfold rootsOf memTo
  refine List.filter_congr fun x hx => ?_
  have hx' := List.mem_range.1 hx
  by_cases hm : x ∈ xs
  · rw [(h.rt x hx').2 hm]; simp [hm]
  · rw [beq_no (mt (h.rt x hx').1 hm)]; simp [hm]
theorem memTo_hit {xs : List Nat} {k : Nat} (h : k ∈ xs) : memTo xs (k + 1) = memTo xs k ++ [k] := by
  unfold memTo; rw [List.range_succ, List.filter_append]; simp [h]
theorem memTo_miss {xs : List Nat} {k : Nat} (h : k ∉ xs) : memTo xs (k + 1) = memTo xs k := by
  unfold memTo; rw [List.range_succ, List.filter_append]; simp [h]
theorem memTo_pre (xs : List Nat) (k : Nat) : ∀ m, memTo xs k <+: memTo xs (k + m)
  | 0 => List.prefix_refl _
  | m + 1 => by
    refine (memTo_pre xs k m).trans ?_
    rw [← Nat.add_assoc]
    by_cases h : k + m ∈ xs
    · rw [memTo_hit h]; exact List.prefix_append _ _
    · rw [memTo_miss h]; exact List.prefix_refl _
theorem memTo_at {xs : List Nat} {k : Nat} (h : k ∈ xs) (hk : k < 64) : (memTo xs 64)[(memTo xs k).length]? = some k ∧ (memTo xs k).length < (memTo xs 64).length := by
  have hp := memTo_pre xs (k + 1) (64 - (k + 1))
  rw [show k + 1 + (64 - (k + 1)) = 64 from by omega, memTo_hit h] at hp
  obtain ⟨t, ht⟩ := hp
  rw [← ht]
  constructor
  · rw [List.append_assoc, List.getElem?_append_right (Nat.le_refl _), Nat.sub_self]; rfl
  · rw [List.length_append, List.length_append, List.length_singleton]; omega
theorem memTo_le (xs : List Nat) (k : Nat) : (memTo xs k).length ≤ k := by
  have := List.length_filter_le (fun x => decide (x ∈ xs)) (List.range k)
  rw [List.length_range] at this; exact this
end Go.Proofs.Ytjaledljhiihmaa
