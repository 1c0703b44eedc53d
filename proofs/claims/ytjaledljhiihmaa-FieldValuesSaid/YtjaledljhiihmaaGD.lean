/- Chapter 18, plain: the reference's polynomials. -/
import Derived.Test.YtjaledljhiihmaaGC
namespace Go.Proofs.Ytjaledljhiihmaa
theorem pa_at {p q : List Nat} {i : Nat} (h : i < max p.length q.length) : (pa p q)[i]? = some (cf p i ^^^ cf q i) := by
  rw [← cf_pa]; exact getElem?_cf (by rw [pa_len]; exact h)
/-- The sum of products that makes a coefficient, as far as k goes. -/
def cvS (p q : List Nat) (i : Nat) : Nat → Nat
  | 0 => 0
  | k + 1 => cvS p q i k ^^^ gm (cf p k) (cf q (i - k))
theorem cvS_lt (p q : List Nat) (i : Nat) : ∀ k, cvS p q i k < 64
  | 0 => by show 0 < 64; omega
  | k + 1 => xor_lt64 _ _ (cvS_lt p q i k) (gm_lt _ _)
theorem cvS_cons (a : Nat) (p q : List Nat) (i : Nat) : ∀ k, cvS (a :: p) q (i + 1) (k + 1) = gm a (cf q (i + 1)) ^^^ cvS p q i k
  | 0 => by rw [cvS, cvS, cvS, cf_z, Nat.sub_zero, Nat.zero_xor, Nat.xor_zero]
  | k + 1 => by rw [cvS, cvS_cons a p q i k, cvS, cf_s, Nat.xor_assoc, show i + 1 - (k + 1) = i - k from by omega]
theorem cvS_nil (q : List Nat) (i : Nat) : ∀ k, cvS [] q i k = 0
  | 0 => rfl
  | k + 1 => by rw [cvS, cvS_nil q i k, cf_nil, gm_zl]; rfl
theorem cvS_pm : ∀ (p q : List Nat) (i : Nat), cvS p q i (i + 1) = cf (pm p q) i
  | [], q, i => by rw [cvS_nil]; exact (cf_nil i).symm
  | a :: p, q, 0 => by rw [cvS, cvS, cf_pm_z, cf_z, Nat.zero_xor]
  | a :: p, q, i + 1 => by rw [cvS_cons, cf_pm_s, cvS_pm p q i]
/-- The first n coefficients of a function. -/
def cfL (F : Nat → Nat) (n : Nat) : List Nat := (List.range n).map F
theorem cfL_more (F : Nat → Nat) (n : Nat) : cfL F (n + 1) = cfL F n ++ [F n] := by unfold cfL; rw [List.range_succ, List.map_append]; rfl
theorem cfL_len (F : Nat → Nat) (n : Nat) : (cfL F n).length = n := by simp [cfL]
theorem cf_cfL (F : Nat → Nat) (n k : Nat) : cf (cfL F n) k = if k < n then F k else 0 := by
  unfold cf cfL
  rw [List.getElem?_map]
  split
  · rw [List.getElem?_range (by assumption)]; rfl
  · rw [List.getElem?_eq_none (by simpa using (by assumption : ¬ k < n))]; rfl
theorem rprod_end (p q : List Nat) : tr (cfL (cf (pm p q)) (dg p + dg q - 1)) = tr (pm p q) := tr_congr fun k => by
  rw [cf_cfL]
  split
  · rfl
  · rw [cf_pm_ge p q k (by omega)]
/-- A polynomial times c z^n. -/
def shl (p : List Nat) (c n : Nat) : List Nat := List.replicate n 0 ++ p.map fun a => gm a c
theorem shl_len (p : List Nat) (c n : Nat) : (shl p c n).length = n + p.length := by simp [shl]
theorem cf_shl (p : List Nat) (c n k : Nat) : cf (shl p c n) k = if k < n then 0 else gm c (cf p (k - n)) := by
  unfold shl
  rw [cf_app, List.length_replicate]
  split
  · exact cf_replicate _ _
  · have : (p.map fun a => gm a c) = sc c p := by unfold sc; exact List.map_congr_left fun a _ => gm_comm a c
    rw [this, cf_sc]
theorem el_shl (p : List Nat) (c n : Nat) : El (shl p c n) := fun a h => by
  unfold shl at h
  rcases List.mem_append.1 h with h | h
  · rw [List.eq_of_mem_replicate h]; omega
  · obtain ⟨b, _, rfl⟩ := List.mem_map.1 h; exact gm_lt _ _
theorem shl_more {p : List Nat} {i a : Nat} (h : p[i]? = some a) (c n : Nat) : shl (p.take (i + 1)) c n = shl (p.take i) c n ++ [gm a c] := by
  unfold shl; rw [take_more p i a h, List.map_append, List.append_assoc]; rfl
theorem dg_shl {p : List Nat} {c n : Nat} (hp : 0 < dg p) (hc : c ≠ 0) : dg (shl p c n) = n + dg p := by
  have := dg_eq (shl p c n) (n + (dg p - 1)) (by
    rw [cf_shl, if_neg (by omega), show n + (dg p - 1) - n = dg p - 1 from by omega]; exact gm_ne _ _ hc (cf_top p hp)) fun k hk => by
      rw [cf_shl]; split
      · rfl
      · rw [cf_ge p _ (by omega), gm_zr]
  omega
theorem pm_mono (q : List Nat) (c n k : Nat) (hc : c < 64) : cf (pm (shl [1] c n) q) k = if k < n then 0 else gm c (cf q (k - n)) := by
  have e : shl [1] c n = List.replicate n 0 ++ [c] := by unfold shl; rw [List.map_cons, one_gm c hc]; rfl
  rw [e, cf_pm_snoc, pm_congr_l (p' := []) (fun i => by rw [cf_replicate, cf_nil]), show pm [] q = [] from rfl, cf_nil, Nat.zero_xor, List.length_replicate]
/-- What has been divided so far. -/
structure Rdv (p q D R : List Nat) : Prop where
  de : El D
  re : El R
  dt : tr D = D
  rt : tr R = R
  eq : ∀ k, cf p k = cf (pm D q) k ^^^ cf R k
  dd : dg D ≤ dg p
  rd : dg R ≤ dg p
theorem rdv_start {p q : List Nat} (hp : El p) : Rdv p q [] (tr p) :=
  ⟨El.nil_, hp.tr, rfl, tr_tr p, fun k => by rw [show pm [] q = [] from rfl, cf_nil, cf_tr, Nat.zero_xor], Nat.zero_le _, by rw [dg_tr]; exact Nat.le_refl _⟩
theorem rdv_step {p q D R : List Nat} (hq : El q) (hq0 : 0 < dg q) (h : Rdv p q D R) (hge : dg q ≤ dg R) :
    Rdv p q (tr (pa D (shl [1] (gm (cf R (dg R - 1)) (gi (cf q (dg q - 1)))) (dg R - dg q)))) (tr (pa R (shl q (gm (cf R (dg R - 1)) (gi (cf q (dg q - 1)))) (dg R - dg q)))) ∧
    dg (tr (pa R (shl q (gm (cf R (dg R - 1)) (gi (cf q (dg q - 1)))) (dg R - dg q)))) < dg R := by
  have hqt := cf_top q hq0
  have hRt := cf_top R (by omega)
  have hq64 := hq.cf (dg q - 1)
  have hR64 := h.re.cf (dg R - 1)
  have hgi := gi_lt (cf q (dg q - 1))
  have hc0 : gm (cf R (dg R - 1)) (gi (cf q (dg q - 1))) ≠ 0 := gm_ne _ _ hRt (by omega)
  have hcq : gm (gm (cf R (dg R - 1)) (gi (cf q (dg q - 1)))) (cf q (dg q - 1)) = cf R (dg R - 1) := by
    rw [gm_assoc, gm_comm (gi _), gm_gi _ hq64 hqt, gm_one _ hR64]
  generalize hc : gm (cf R (dg R - 1)) (gi (cf q (dg q - 1))) = c at *
  have hc64 : c < 64 := by rw [← hc]; exact gm_lt _ _
  have hrd : dg (tr (pa R (shl q c (dg R - dg q)))) < dg R := by
    rw [dg_tr]
    have := dg_le (pa R (shl q c (dg R - dg q))) (dg R - 1) fun k hk => by
      rw [cf_pa, cf_shl, if_neg (by omega)]
      rcases Nat.eq_or_lt_of_le hk with rfl | hlt
      · rw [show dg R - 1 - (dg R - dg q) = dg q - 1 from by omega, hcq, Nat.xor_self]
      · rw [cf_ge R k (by omega), cf_ge q _ (by omega), gm_zr]; rfl
    omega
  refine ⟨⟨(el_pa h.de (el_shl _ _ _)).tr, (el_pa h.re (el_shl _ _ _)).tr, tr_tr _, tr_tr _, fun k => ?_, ?_, by have := h.rd; omega⟩, hrd⟩
  · rw [pm_congr_l (cf_tr _), pm_pa_l D _ q h.de (el_shl _ _ _) hq, pm_mono q c _ k hc64, cf_tr, cf_pa, cf_shl, h.eq k, Nat.xor_assoc]
    congr 1
    generalize (if k < dg R - dg q then 0 else gm c (cf q (k - (dg R - dg q)))) = t
    rw [Nat.xor_comm (cf R k), ← Nat.xor_assoc, Nat.xor_self, Nat.zero_xor]
  · rw [dg_tr]
    refine dg_le _ _ fun k hk => ?_
    have := h.rd
    rw [cf_pa, cf_ge D k (by have := h.dd; omega), cf_shl]
    split
    · rfl
    · rw [cf_none (p := [1]) (by show 1 ≤ _; omega), gm_zr]; rfl
theorem rdv_end {p q D R : List Nat} (h : Rdv p q D R) (hlt : dg R < dg q) : IsDiv p q D R := ⟨h.eq, hlt⟩
/-! Lagrange -/
/-- A product of factors for all points but one, as far as k goes; c is its value at that one. -/
structure Lag (x : List Nat) (i k : Nat) (xi : Nat) (P : List Nat) (c : Nat) : Prop where
  pe : El P
  pt : tr P = P
  pd : dg P + (if i < k then 1 else 0) ≤ k + 1
  c64 : c < 64
  c0 : c ≠ 0
  at_ : evl P xi = c
  zero : ∀ j a : Nat, j < k → j ≠ i → x[j]? = some a → evl P a = 0
  ne : ∀ j a : Nat, j < k → j ≠ i → x[j]? = some a → a ≠ xi
theorem lag_start (x : List Nat) (i xi : Nat) : Lag x i 0 xi [1] 1 :=
  ⟨el1 (by omega), rfl, by simp [dg], by omega, by omega, by rw [evl, evl, gm_zl]; rfl, fun j a h => absurd h (by omega), fun j a h => absurd h (by omega)⟩
theorem lag_skip {x P : List Nat} {i xi c : Nat} (h : Lag x i i xi P c) : Lag x i (i + 1) xi P c :=
  ⟨h.pe, h.pt, by have := h.pd; rw [if_neg (by omega)] at this; rw [if_pos (by omega)]; omega, h.c64, h.c0, h.at_, fun j a hj hne => h.zero j a (by omega) hne, fun j a hj hne => h.ne j a (by omega) hne⟩
theorem lag_step {x P : List Nat} {i k xi xk c : Nat} (h : Lag x i k xi P c) (hx : El x) (hxi : xi < 64) (hk : x[k]? = some xk) (hki : k ≠ i) (hne : xk ≠ xi) : Lag x i (k + 1) xi (tr (pm P [xk, 1])) (gm c (xi ^^^ xk)) := by
  have hxk := hx.get hk
  have e1 : El [xk, 1] := el2 hxk (by omega)
  have h2 : dg [xk, 1] = 2 := by simp [dg]
  have hev : ∀ t, t < 64 → evl (tr (pm P [xk, 1])) t = gm (evl P t) (t ^^^ xk) := fun t ht => by
    rw [evl_congr t (cf_tr _), evl_pm t ht P _ h.pe e1, evl_lin xk t ht]
  refine ⟨(el_pm _ _).tr, tr_tr _, ?_, gm_lt _ _, gm_ne _ _ h.c0 (fun e => hne (xor_zero_eq e).symm), by rw [hev xi hxi, h.at_], fun j a hj hji ha => ?_, fun j a hj hji ha => ?_⟩
  · have := h.pd
    rw [dg_tr]
    rcases Nat.eq_zero_or_pos (dg P) with h0 | h0
    · rw [pm_zero P _ (.inl h0)]; split <;> omega
    · rw [dg_pm P _ h0 (by omega), h2]
      split at this
      · rw [if_pos (by omega)]; omega
      · rw [if_neg (by omega)]; omega
  · rw [hev a (hx.get ha)]
    rcases Nat.lt_or_ge j k with h' | h'
    · rw [h.zero j a h' hji ha, gm_zl]
    · obtain rfl : j = k := by omega
      rw [hk] at ha; injection ha with ha; subst ha
      rw [Nat.xor_self, gm_zr]
  · rcases Nat.lt_or_ge j k with h' | h'
    · exact h.ne j a h' hji ha
    · obtain rfl : j = k := by omega
      rw [hk] at ha; injection ha with ha; subst ha; exact hne
/-- The first i points are met; at the others it is 0. -/
structure Rth (x y O : List Nat) (i : Nat) : Prop where
  oe : El O
  ot : tr O = O
  od : dg O ≤ x.length
  met : ∀ j a b : Nat, j < i → x[j]? = some a → y[j]? = some b → evl O a = b
  rest : ∀ j a : Nat, i ≤ j → x[j]? = some a → evl O a = 0
  ne : ∀ i' a' j a : Nat, i' < i → j ≠ i' → x[i']? = some a' → x[j]? = some a → a ≠ a'
theorem rth_start (x y : List Nat) : Rth x y [] 0 :=
  ⟨El.nil_, rfl, Nat.zero_le _, fun j a b h => absurd h (by omega), fun _ _ _ _ => rfl, fun i a j b h => absurd h (by omega)⟩
theorem rth_step {x y O P : List Nat} {i a b c : Nat} (hx : El x) (hy : El y) (h : Rth x y O i) (ha : x[i]? = some a) (hb : y[i]? = some b) (hl : Lag x i x.length a P c) :
    Rth x y (tr (pa O (shl P (gm b (gi c)) 0))) (i + 1) := by
  have hi := (List.getElem?_eq_some_iff.1 ha).1
  have hb64 := hy.get hb
  have hd := gm_lt b (gi c)
  have hsh : ∀ k, cf (shl P (gm b (gi c)) 0) k = cf (sc (gm b (gi c)) P) k := fun k => by rw [cf_shl, if_neg (by omega), Nat.sub_zero, cf_sc]
  have hev : ∀ t, t < 64 → evl (tr (pa O (shl P (gm b (gi c)) 0))) t = evl O t ^^^ gm (gm b (gi c)) (evl P t) := fun t ht => by
    rw [evl_congr t (cf_tr _), evl_pa t ht O _ h.oe (el_shl _ _ _), evl_congr t hsh, evl_sc t ht _ hd P hl.pe]
  have hval : gm (gm b (gi c)) c = b := by rw [gm_assoc, gm_comm (gi c), gm_gi c hl.c64 hl.c0, gm_one b hb64]
  refine ⟨(el_pa h.oe (el_shl _ _ _)).tr, tr_tr _, ?_, fun j a' b' hj ha' hb' => ?_, fun j a' hj ha' => ?_, fun i' a' j a'' hi' hji ha' ha'' => ?_⟩
  · have := hl.pd
    rw [if_pos (by omega)] at this
    rw [dg_tr]
    exact dg_le _ _ fun k hk => by rw [cf_pa, hsh, cf_sc, cf_ge O k (by have := h.od; omega), cf_ge P k (by omega), gm_zr]; rfl
  · rw [hev a' (hx.get ha')]
    rcases Nat.lt_or_ge j i with h' | h'
    · rw [hl.zero j a' (by omega) (by omega) ha', gm_zr, Nat.xor_zero]; exact h.met j a' b' h' ha' hb'
    · obtain rfl : j = i := by omega
      rw [ha] at ha'; injection ha' with ha'; subst ha'
      rw [hb] at hb'; injection hb' with hb'; subst hb'
      rw [h.rest j a (Nat.le_refl _) ha, hl.at_, hval, Nat.zero_xor]
  · rw [hev a' (hx.get ha'), h.rest j a' (by omega) ha', hl.zero j a' (List.getElem?_eq_some_iff.1 ha').1 (by omega) ha', gm_zr]; rfl
  · rcases Nat.lt_or_ge i' i with h' | h'
    · exact h.ne i' a' j a'' h' hji ha' ha''
    · obtain rfl : i' = i := by omega
      rw [ha] at ha'; injection ha' with ha'; subst ha'
      exact hl.ne j a'' (List.getElem?_eq_some_iff.1 ha'').1 hji ha''
theorem nodup_of_ne {x : List Nat} (h : ∀ i' a' j a : Nat, j ≠ i' → x[i']? = some a' → x[j]? = some a → a ≠ a') : x.Nodup := by
  have key : ∀ n, (x.take n).Nodup := fun n => by
    induction n with
    | zero => rw [List.take_zero]; exact List.nodup_nil
    | succ n ih =>
      by_cases hn : n < x.length
      · have hg := List.getElem?_eq_getElem hn
        rw [take_more x n _ hg]
        refine nodup_snoc ih fun hm => ?_
        obtain ⟨j, hj⟩ := List.mem_iff_getElem?.1 hm
        rw [List.getElem?_take] at hj
        split at hj
        · exact h n _ j _ (by omega) hg hj rfl
        · cases hj
      · rw [List.take_of_length_le (by omega)]
        rwa [List.take_of_length_le (by omega)] at ih
  have := key x.length
  rwa [List.take_length] at this
theorem rth_end {x y O : List Nat} (h : Rth x y O x.length) : x.Nodup ∧ IsThr x y O :=
  ⟨nodup_of_ne fun i' a' j a hji ha' ha => h.ne i' a' j a (List.getElem?_eq_some_iff.1 ha').1 hji ha' ha,
   ⟨h.oe, h.ot, by rw [← dg_of_tr h.ot]; exact h.od, fun i a b ha hb => h.met i a b (List.getElem?_eq_some_iff.1 ha).1 ha hb⟩⟩
theorem dup_not {x : List Nat} {i j a : Nat} (hij : j ≠ i) (hi : x[i]? = some a) (hj : x[j]? = some a) : ¬ x.Nodup := fun h => by
  rcases Nat.lt_or_ge j i with h' | h'
  · exact not_nodup hi (List.mem_iff_getElem?.2 ⟨j, by rw [List.getElem?_take, if_pos h', hj]⟩) h
  · exact not_nodup hj (List.mem_iff_getElem?.2 ⟨i, by rw [List.getElem?_take, if_pos (by omega), hi]⟩) h
theorem rinvN (a : Nat) (w : World) (ha : a < 64) (h0 : a ≠ 0) : Ret Try.prog 19 [.int .u8 (a : Int)] w (fun v w' => v = .int .u8 (gi a : Int) ∧ Ex w w') :=
  (rinv_ret a w ha).mono fun v w' ⟨e, hx⟩ => ⟨by rw [e, if_neg h0], hx⟩
theorem rdegN (u : Value) (p : List Nat) (w : World) (hl : RdL w 1 encN u p) (hlen : p.length ≤ 100000) (h : 0 < dg p) : Ret Try.prog 30 [u] w (fun v w' => v = .int .i64 ((dg p - 1 : Nat) : Int) ∧ Ex w w') :=
  (rdeg_ret u p w hl hlen).mono fun v w' ⟨e, hx⟩ => ⟨by rw [e]; exact congrArg (Value.int .i64) (by omega), hx⟩
end Go.Proofs.Ytjaledljhiihmaa
