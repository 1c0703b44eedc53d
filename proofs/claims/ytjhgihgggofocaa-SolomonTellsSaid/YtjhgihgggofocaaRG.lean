/- Plain: the reference's polynomials (layer 18); its words, syndromes, code words (layer 19). -/
import Derived.Test.YtjhgihgggofocaaRF
import Derived.Test.YtjhgihgggofocaaSR
import Derived.Test.YtjhgihgggofocaaRK
namespace Go.Proofs.Ytjhgihgggofocaa
theorem pa_at {p q : List Nat} {i : Nat} (h : i < max p.length q.length) : (pa p q)[i]? = some (cf p i ^^^ cf q i) := by
  rw [← cf_pa]; exact getElem?_cf (by rw [pa_len]; exact h)
/-- The sum of products that makes a coefficient, as far as k goes. -/
def cvS (p q : List Nat) (i : Nat) : Nat → Nat
  | 0 => 0
  | k + 1 => cvS p q i k ^^^ gm (cf p k) (cf q (i - k))
theorem cvS_lt (p q : List Nat) (i : Nat) : ∀ k, cvS p q i k < 64
  | 0 => by show 0 < 64; omega
  | k + 1 => xor_lt64 _ _ (cvS_lt p q i k) (gm_lt _ _)
theorem cvS_cons (a : Nat) (p q : List Nat) (i : Nat) : ∀ k, cvS (a :: p) q (i + 1) (k + 1) = gm a (cf q (i + 1)) ^^^ cvS p q i k
  | 0 => by rw [cvS, cvS, cvS, cf_z, Nat.sub_zero, Nat.zero_xor, Nat.xor_zero]
  | k + 1 => by rw [cvS, cvS_cons a p q i k, cvS, cf_s, Nat.xor_assoc, show i + 1 - (k + 1) = i - k from by omega]
theorem cvS_nil (q : List Nat) (i : Nat) : ∀ k, cvS [] q i k = 0
  | 0 => rfl
  | k + 1 => by rw [cvS, cvS_nil q i k, cf_nil, gm_zl]; rfl
theorem cvS_pm : ∀ (p q : List Nat) (i : Nat), cvS p q i (i + 1) = cf (pm p q) i
  | [], q, i => by rw [cvS_nil]; exact (cf_nil i).symm
  | a :: p, q, 0 => by rw [cvS, cvS, cf_pm_z, cf_z, Nat.zero_xor]
  | a :: p, q, i + 1 => by rw [cvS_cons, cf_pm_s, cvS_pm p q i]
/-- The first n coefficients of a function. -/
def cfL (F : Nat → Nat) (n : Nat) : List Nat := (List.range n).map F
theorem cfL_more (F : Nat → Nat) (n : Nat) : cfL F (n + 1) = cfL F n ++ [F n] := by unfold cfL; rw [List.range_succ, List.map_append]; rfl
theorem cfL_len (F : Nat → Nat) (n : Nat) : (cfL F n).length = n := by simp [cfL]
theorem cf_cfL (F : Nat → Nat) (n k : Nat) : cf (cfL F n) k = if k < n then F k else 0 := by
  unfold cf cfL
  rw [List.getElem?_map]
  split
  · rw [List.getElem?_range (by assumption)]; rfl
  · rw [List.getElem?_eq_none (by simpa using (by assumption : ¬ k < n))]; rfl
theorem rprod_end (p q : List Nat) : tr (cfL (cf (pm p q)) (dg p + dg q - 1)) = tr (pm p q) := tr_congr fun k => by
  rw [cf_cfL]
  split
  · rfl
  · rw [cf_pm_ge p q k (by omega)]
/-- A polynomial times c z^n. -/
def shl (p : List Nat) (c n : Nat) : List Nat := List.replicate n 0 ++ p.map fun a => gm a c
theorem shl_len (p : List Nat) (c n : Nat) : (shl p c n).length = n + p.length := by simp [shl]
theorem cf_shl (p : List Nat) (c n k : Nat) : cf (shl p c n) k = if k < n then 0 else gm c (cf p (k - n)) := by
  unfold shl
  rw [cf_app, List.length_replicate]
  split
  · exact cf_replicate _ _
  · have : (p.map fun a => gm a c) = sc c p := by unfold sc; exact List.map_congr_left fun a _ => gm_comm a c
    rw [this, cf_sc]
theorem el_shl (p : List Nat) (c n : Nat) : El (shl p c n) := fun a h => by
  unfold shl at h
  rcases List.mem_append.1 h with h | h
  · rw [List.eq_of_mem_replicate h]; omega
  · obtain ⟨b, _, rfl⟩ := List.mem_map.1 h; exact gm_lt _ _
theorem shl_more {p : List Nat} {i a : Nat} (h : p[i]? = some a) (c n : Nat) : shl (p.take (i + 1)) c n = shl (p.take i) c n ++ [gm a c] := by
  unfold shl; rw [take_more p i a h, List.map_append, List.append_assoc]; rfl
theorem dg_shl {p : List Nat} {c n : Nat} (hp : 0 < dg p) (hc : c ≠ 0) : dg (shl p c n) = n + dg p := by
  have := dg_eq (shl p c n) (n + (dg p - 1)) (by
    rw [cf_shl, if_neg (by omega), show n + (dg p - 1) - n = dg p - 1 from by omega]; exact gm_ne _ _ hc (cf_top p hp)) fun k hk => by
      rw [cf_shl]; split
      · rfl
      · rw [cf_ge p _ (by omega), gm_zr]
  omega
theorem pm_mono (q : List Nat) (c n k : Nat) (hc : c < 64) : cf (pm (shl [1] c n) q) k = if k < n then 0 else gm c (cf q (k - n)) := by
  have e : shl [1] c n = List.replicate n 0 ++ [c] := by unfold shl; rw [List.map_cons, one_gm c hc]; rfl
  rw [e, cf_pm_snoc, pm_congr_l (p' := []) (fun i => by rw [cf_replicate, cf_nil]), show pm [] q = [] from rfl, cf_nil, Nat.zero_xor, List.length_replicate]
/-- What has been divided so far. -/
structure Rdv (p q D R : List Nat) : Prop where
  de : El D
  re : El R
  dt : tr D = D
  rt : tr R = R
  eq : ∀ k, cf p k = cf (pm D q) k ^^^ cf R k
  dd : dg D ≤ dg p
  rd : dg R ≤ dg p
theorem rdv_start {p q : List Nat} (hp : El p) : Rdv p q [] (tr p) :=
  ⟨El.nil_, hp.tr, rfl, tr_tr p, fun k => by rw [show pm [] q = [] from rfl, cf_nil, cf_tr, Nat.zero_xor], Nat.zero_le _, by rw [dg_tr]; exact Nat.le_refl _⟩
theorem rdv_step {p q D R : List Nat} (hq : El q) (hq0 : 0 < dg q) (h : Rdv p q D R) (hge : dg q ≤ dg R) :
    Rdv p q (tr (pa D (shl [1] (gm (cf R (dg R - 1)) (gi (cf q (dg q - 1)))) (dg R - dg q)))) (tr (pa R (shl q (gm (cf R (dg R - 1)) (gi (cf q (dg q - 1)))) (dg R - dg q)))) ∧
    dg (tr (pa R (shl q (gm (cf R (dg R - 1)) (gi (cf q (dg q - 1)))) (dg R - dg q)))) < dg R := by
  have hqt := cf_top q hq0
  have hRt := cf_top R (by omega)
  have hq64 := hq.cf (dg q - 1)
  have hR64 := h.re.cf (dg R - 1)
  have hgi := gi_lt (cf q (dg q - 1))
  have hc0 : gm (cf R (dg R - 1)) (gi (cf q (dg q - 1))) ≠ 0 := gm_ne _ _ hRt (by omega)
  have hcq : gm (gm (cf R (dg R - 1)) (gi (cf q (dg q - 1)))) (cf q (dg q - 1)) = cf R (dg R - 1) := by
    rw [gm_assoc, gm_comm (gi _), gm_gi _ hq64 hqt, gm_one _ hR64]
  generalize hc : gm (cf R (dg R - 1)) (gi (cf q (dg q - 1))) = c at *
  have hc64 : c < 64 := by rw [← hc]; exact gm_lt _ _
  have hrd : dg (tr (pa R (shl q c (dg R - dg q)))) < dg R := by
    rw [dg_tr]
    have := dg_le (pa R (shl q c (dg R - dg q))) (dg R - 1) fun k hk => by
      rw [cf_pa, cf_shl, if_neg (by omega)]
      rcases Nat.eq_or_lt_of_le hk with rfl | hlt
      · rw [show dg R - 1 - (dg R - dg q) = dg q - 1 from by omega, hcq, Nat.xor_self]
      · rw [cf_ge R k (by omega), cf_ge q _ (by omega), gm_zr]; rfl
    omega
  refine ⟨⟨(el_pa h.de (el_shl _ _ _)).tr, (el_pa h.re (el_shl _ _ _)).tr, tr_tr _, tr_tr _, fun k => ?_, ?_, by have := h.rd; omega⟩, hrd⟩
  · rw [pm_congr_l (cf_tr _), pm_pa_l D _ q h.de (el_shl _ _ _) hq, pm_mono q c _ k hc64, cf_tr, cf_pa, cf_shl, h.eq k, Nat.xor_assoc]
    congr 1
    generalize (if k < dg R - dg q then 0 else gm c (cf q (k - (dg R - dg q)))) = t
    rw [Nat.xor_comm (cf R k), ← Nat.xor_assoc, Nat.xor_self, Nat.zero_xor]
  · rw [dg_tr]
    refine dg_le _ _ fun k hk => ?_
    have := h.rd
    rw [cf_pa, cf_ge D k (by have := h.dd; omega), cf_shl]
    split
    · rfl
    · rw [cf_none (p := [1]) (by show 1 ≤ _; omega), gm_zr]; rfl
theorem rdv_end {p q D R : List Nat} (h : Rdv p q D R) (hlt : dg R < dg q) : IsDiv p q D R := ⟨h.eq, hlt⟩
theorem rinvN (a : Nat) (w : World) (ha : a < 64) (h0 : a ≠ 0) : Ret Try.prog 58 [.int .u8 (a : Int)] w (fun v w' => v = .int .u8 (gi a : Int) ∧ Ex w w') :=
  (rinv_ret a w ha).mono fun v w' ⟨e, hx⟩ => ⟨by rw [e, if_neg h0], hx⟩
theorem rdegN (u : Value) (p : List Nat) (w : World) (hl : RdL w 1 encN u p) (hlen : p.length ≤ 100000) (h : 0 < dg p) : Ret Try.prog 65 [u] w (fun v w' => v = .int .i64 ((dg p - 1 : Nat) : Int) ∧ Ex w w') :=
  (rdeg_ret u p w hl hlen).mono fun v w' ⟨e, hx⟩ => ⟨by rw [e]; exact congrArg (Value.int .i64) (by omega), hx⟩
/-! layer 19 -/
theorem syn_step {l : List Nat} {i x : Nat} (h : i < l.length) : evl (l.take (i + 1)).reverse x = gm (evl (l.take i).reverse x) x ^^^ cf l i := by
  rw [take_more l i _ (getElem?_cf h), List.reverse_append, List.reverse_singleton, List.singleton_append, evl]
theorem syL_at (l : List Nat) {k : Nat} (h : k < 4) : (syL l)[k]? = some (sy l k) := by
  match k, h with
  | 0, _ => rfl
  | 1, _ => rfl
  | 2, _ => rfl
  | 3, _ => rfl
theorem syL_more (l : List Nat) {k : Nat} (h : k < 4) : (syL l).take (k + 1) = (syL l).take k ++ [sy l k] := take_more _ _ _ (syL_at l h)
theorem vldD {l : List Nat} (hw : isW l = true) (h0 : sy l 0 = 0) (h1 : sy l 1 = 0) (h2 : sy l 2 = 0) : decide (((sy l 3 : Nat) : Int) = 0) = vldB l := by
  unfold vldB
  rw [hw, h0, h1, h2]
  simp
theorem vldF {l : List Nat} (h : isW l = true → ¬ (sy l 0 = 0 ∧ sy l 1 = 0 ∧ sy l 2 = 0)) : false = vldB l := by
  cases hb : vldB l with
  | false => rfl
  | true =>
    obtain ⟨h1, h2⟩ := vldB_iff.1 hb
    exact absurd ⟨h2 0 (by omega), h2 1 (by omega), h2 2 (by omega)⟩ (h h1)
def genL : Nat → List Nat
  | 0 => [1]
  | k + 1 => tr (pm (genL k) [pw (k + 1), 1])
theorem genL_ok {k : Nat} (h : k ≤ 4) : El (genL k) ∧ (genL k).length ≤ 5 := by
  have key : ∀ p : List Nat, (p.all (fun a => Nat.blt a 64) && Nat.ble p.length 5) = true → El p ∧ p.length ≤ 5 := fun p h => by
    rw [Bool.and_eq_true] at h
    exact ⟨fun a ha => by simpa [Nat.blt_eq] using List.all_eq_true.1 h.1 a ha, Nat.le_of_ble_eq_true h.2⟩
  match k, h with
  | 0, _ => exact key _ (by decide +kernel)
  | 1, _ => exact key _ (by decide +kernel)
  | 2, _ => exact key _ (by decide +kernel)
  | 3, _ => exact key _ (by decide +kernel)
  | 4, _ => exact key _ (by decide +kernel)
theorem genL_four : genL 4 = gen5 := by decide +kernel
/-- The data, from its end on, behind four zeros. -/
def rvD (l : List Nat) (k : Nat) : List Nat := List.replicate 4 0 ++ (l.drop k).reverse
theorem rvD_len (l : List Nat) (k : Nat) : (rvD l k).length = 4 + (l.length - k) := by unfold rvD; rw [List.length_append, List.length_replicate, List.length_reverse, List.length_drop]
theorem rvD_start (l : List Nat) : List.replicate 4 0 = rvD l l.length := by simp [rvD]
theorem rvD_more {l : List Nat} {k : Nat} (h : k < l.length) : rvD l (k + 1) ++ [cf l k] = rvD l k := by
  have e : l[k] = cf l k := by have := getElem?_cf h; rw [List.getElem?_eq_getElem h] at this; exact Option.some.inj this
  unfold rvD
  rw [List.drop_eq_getElem_cons h, List.reverse_cons, ← List.append_assoc, e]
theorem rvD_end (l : List Nat) : rvD l 0 = (l ++ List.replicate 4 0).reverse := by unfold rvD; rw [List.drop_zero, List.reverse_append, List.reverse_replicate]
theorem rvD_el {l : List Nat} (h : El l) (k : Nat) : El (rvD l k) := fun a ha => by
  rcases List.mem_append.1 ha with h1 | h1
  · rw [List.eq_of_mem_replicate h1]; decide
  · exact h a (List.mem_of_mem_drop (List.mem_reverse.1 h1))
/-- The check symbols, the last one first. -/
def ckD (l r : List Nat) (k : Nat) : List Nat := l ++ (List.range (4 - k)).map fun j => cf r (3 - j)
theorem ckD_len (l r : List Nat) (k : Nat) : (ckD l r k).length = l.length + (4 - k) := by simp [ckD]
theorem ckD_start (l r : List Nat) : ckD l r 4 = l := by simp [ckD]
theorem ckD_more {l r : List Nat} {k : Nat} (h : k < 4) : ckD l r (k + 1) ++ [cf r k] = ckD l r k := by
  unfold ckD
  rw [List.append_assoc, show 4 - k = (4 - (k + 1)) + 1 by omega, List.range_succ, List.map_append, List.map_singleton, show 3 - (4 - (k + 1)) = k by omega]
theorem ckD_end {l r : List Nat} : ckD l r 0 = stE l r r.length := by
  unfold ckD stE
  congr 1
  refine List.map_congr_left fun j _ => ?_
  split
  · rfl
  · rw [cf_none (by omega)]
theorem isW_no {l : List Nat} (h : isW l = false) : vldB l = false := by unfold vldB; rw [h]; rfl
theorem want_ok (l : List Nat) : isW (l ++ [0, 0, 0, 0]) = true ↔ l.length ≤ 59 ∧ 1 ≤ l.length ∧ El l := by
  rw [isW_iff, List.length_append]
  show 4 < l.length + 4 ∧ l.length + 4 ≤ 63 ∧ _ ↔ _
  constructor
  · rintro ⟨h1, h2, h3⟩; exact ⟨by omega, by omega, fun a ha => h3 a (List.mem_append_left _ ha)⟩
  · rintro ⟨h1, h2, h3⟩; exact ⟨by omega, by omega, h3.app (fun a ha => by simp at ha; omega)⟩
theorem want_no {l : List Nat} (h : encOk l = false) : isW (l ++ [0, 0, 0, 0]) = false := by
  cases hb : isW (l ++ [0, 0, 0, 0]) with
  | false => rfl
  | true =>
    obtain ⟨h1, h2, h3⟩ := (want_ok l).1 hb
    rw [encOk_iff.2 ⟨h2, h1, h3⟩] at h
    cases h
theorem want_yes {l : List Nat} (h : encOk l = true) : isW (l ++ [0, 0, 0, 0]) = true := by
  obtain ⟨h1, h2, h3⟩ := encOk_iff.1 h
  exact (want_ok l).2 ⟨h2, h1, h3⟩
section
variable (u : Value) (w : World) (l : List Nat)
theorem encY (hl : RdL w 1 encN u l) (h1 : l.length ≤ 100000) (h : encOk l = true) : Ret Try.prog 23 [u] w (fun v w' => ∃ r c, v = .tuple #[r, .int .i64 0] ∧ Own w' w.heap.size 5 1 encN r c ∧ IsEnc l c ∧ Ex w w') := by
  refine (encode_ret u l w hl h1).mono ?_
  rintro v w' ⟨r, c, rfl, ho, he, _, hx⟩
  exact ⟨r, c, by rw [h]; rfl, ho, he h, hx⟩
theorem encX (hl : RdL w 1 encN u l) (h1 : l.length ≤ 100000) (h : encOk l = false) : Ret Try.prog 23 [u] w (fun v w' => v = .tuple #[.slice none 0 0, .int .i64 2] ∧ Ex w w') := by
  refine (encode_ret u l w hl h1).mono ?_
  rintro v w' ⟨r, c, rfl, ho, _, he, hx⟩
  obtain ⟨rfl, rfl⟩ := he h
  exact ⟨by rw [h]; rfl, hx⟩
theorem syndX (hl : RdL w 1 encN u l) (h1 : l.length ≤ 100000) (h : isW l = false) : Ret Try.prog 24 [u] w (fun v w' => v = .tuple #[.slice none 0 0, .int .i64 2] ∧ Ex w w') := by
  refine (synd_ret u l w hl h1).mono ?_
  rintro v w' ⟨⟨_, h2⟩ | ⟨h2, _⟩, hx⟩
  · exact ⟨h2, hx⟩
  · rw [h] at h2; cases h2
theorem synd_own (hl : RdL w 1 encN u l) (hW : isW l = true) : Ret Try.prog 24 [u] w (fun v w' => ∃ g, v = .tuple #[.slice (some ⟨g, 0, none⟩) 4 4, .int .i64 0] ∧ Own w' w.heap.size 57 1 encN (.slice (some ⟨g, 0, none⟩) 4 4) (syL l) ∧ Ex w w') := by
  have h63 := (isW_iff.1 hW).2.1
  refine (synd_ret u l w hl (by omega)).mono ?_
  rintro v w' ⟨⟨h, _⟩ | ⟨_, g, hg, rfl, hb⟩, hx⟩
  · rw [hW] at h; cases h
  · refine ⟨g, rfl, ?_, hx⟩
    have := own_blk (m := 4) (sz := 1) hb hg (by decide) rfl
    rw [encs4_flat] at this
    exact this
end
end Go.Proofs.Ytjhgihgggofocaa
