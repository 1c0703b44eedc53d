/- Plain: syndromes as sums, what was added at some places, code words that differ. -/
import Derived.Test.YtjhgihgggofocaaSM
namespace Go.Proofs.Ytjhgihgggofocaa
open Go.RowKit
theorem xs_shift (f : Nat → Nat) : ∀ n, xs_ (n + 1) f = f 0 ^^^ xs_ n fun i => f (i + 1)
  | 0 => by simp [xs_]
  | n + 1 => by rw [xs_, xs_shift f n, xs_, Nat.xor_assoc]
theorem xs_swap (f : Nat → Nat → Nat) (m : Nat) : ∀ n, xs_ n (fun i => xs_ m (f i)) = xs_ m fun j => xs_ n fun i => f i j
  | 0 => (xs_zero fun _ _ => rfl).symm
  | n + 1 => by rw [xs_, xs_swap f m n, ← xs_xor]; rfl
theorem xs_supp {n : Nat} : ∀ (P : List Nat) (f : Nat → Nat), P.Nodup → (∀ p ∈ P, p < n) → (∀ i, i < n → i ∉ P → f i = 0) → xs_ n f = xs_ P.length fun j => f (cf P j)
  | [], f, _, _, h => xs_zero fun i hi => h i hi (by simp)
  | p :: P, f, hd, hp, h => by
    obtain ⟨hd1, hd2⟩ := List.nodup_cons.1 hd
    have ih := xs_supp P (fun i => if i = p then 0 else f i) hd2 (fun q hq => hp q (by simp [hq])) (fun i hi hn => by
      show (if i = p then 0 else f i) = 0
      split
      · rfl
      · rename_i e; exact h i hi (by simp [e, hn]))
    have e1 : xs_ n f = xs_ n (fun i => if i = p then 0 else f i) ^^^ f p := by
      have e2 : f = fun i => (if i = p then 0 else f i) ^^^ (if i = p then f p else 0) := by
        funext i
        by_cases e : i = p
        · rw [if_pos e, if_pos e, e, Nat.zero_xor]
        · rw [if_neg e, if_neg e, Nat.xor_zero]
      have e3 : xs_ n (fun i => if i = p then f p else 0) = f p := by
        rw [xs_one (i := p) (f := fun i => if i = p then f p else 0) (hp p (by simp)) (fun j _ hj => if_neg hj)]; exact if_pos rfl
      calc xs_ n f = xs_ n (fun i => (if i = p then 0 else f i) ^^^ (if i = p then f p else 0)) := by rw [← e2]
        _ = _ := by rw [xs_xor, e3]
    rw [e1, ih, List.length_cons, xs_shift, Nat.xor_comm]
    congr 1
    refine xs_congr fun j hj => ?_
    show (if cf P j = p then 0 else f (cf P j)) = f (cf P j)
    rw [if_neg]
    intro e
    exact hd1 (by rw [← e]; exact List.mem_of_getElem? (getElem?_cf hj))
theorem evl_snoc {x : Nat} (hx : x < 64) {a : Nat} (ha : a < 64) : ∀ (p : List Nat), El p → evl (p ++ [a]) x = evl p x ^^^ gm a (gp x p.length)
  | [], _ => by
    show gm 0 x ^^^ a = 0 ^^^ gm a 1
    rw [gm_zl, gm_one a ha]
  | b :: p, h => by
    have ih := evl_snoc hx ha p h.tail
    show gm (evl (p ++ [a]) x) x ^^^ b = (gm (evl p x) x ^^^ b) ^^^ gm a (gp x (p.length + 1))
    rw [ih, xor_gm _ _ _ hx (evl_lt p x h.tail) (gm_lt _ _), gp_s, gm_assoc, gm_comm (gp x p.length) x, Nat.xor_assoc, Nat.xor_assoc, Nat.xor_comm b]
/-- The locators' powers. -/
abbrev al (n r i : Nat) : Nat := pw ((r + 1) * (n - 1 - i) % 63)
theorem gp_al {r : Nat} (h : r < 4) (m : Nat) : gp (pw (r + 1)) m = pw ((r + 1) * m % 63) := by
  rw [gp_pw _ _ (by have := pw_lt (r + 1) (by omega); omega), lg_pw _ (by omega)]
theorem sy_sum {r : Nat} (h : r < 4) : ∀ {l : List Nat}, El l → sy l r = xs_ l.length fun i => gm (cf l i) (al l.length r i)
  | [], _ => rfl
  | a :: l, hl => by
    have ih := sy_sum h hl.tail
    have hx := (pw_lt (r + 1) (by omega)).2
    unfold sy at ih ⊢
    rw [List.reverse_cons, evl_snoc hx hl.head _ hl.tail.rev, List.length_reverse, ih, List.length_cons, xs_shift, Nat.xor_comm, gp_al h]
    have e0 : gm a (pw ((r + 1) * l.length % 63)) = gm (cf (a :: l) 0) (al (l.length + 1) r 0) := by
      show gm a _ = gm a (pw ((r + 1) * (l.length + 1 - 1 - 0) % 63))
      rw [show l.length + 1 - 1 - 0 = l.length by omega]
    rw [e0]
    congr 1
    refine xs_congr fun i hi => ?_
    show _ = gm (cf (a :: l) (i + 1)) (pw ((r + 1) * (l.length + 1 - 1 - (i + 1)) % 63))
    rw [cf_s, show l.length + 1 - 1 - (i + 1) = l.length - 1 - i by omega]
/-- c is l but for what was added at the places. -/
structure Diff (l P : List Nat) (x : Nat → Nat) (c : List Nat) : Prop where
  len : c.length = l.length
  el : El c
  out : ∀ i, i ∉ P → cf c i = cf l i
  at_ : ∀ j, j < P.length → x j = cf l (cf P j) ^^^ cf c (cf P j)
theorem diff_dot {l P c : List Nat} {x : Nat → Nat} (h : Diff l P x c) (hl : El l) (hd : P.Nodup) (h4 : P.length ≤ 4) (hp : ∀ p ∈ P, p < l.length) {r : Nat} (hr : r < 4) (sL : List Nat) : dot (eqM l.length P sL) P.length r x = sy l r ^^^ sy c r := by
  rw [sy_sum hr hl, sy_sum hr h.el, h.len, ← xs_xor]
  have e1 : ∀ i, i < l.length → (gm (cf l i) (al l.length r i) ^^^ gm (cf c i) (al l.length r i)) = gm (cf l i ^^^ cf c i) (al l.length r i) := fun i _ => (xor_gm _ _ _ (pw64 _) (hl.cf i) (h.el.cf i)).symm
  rw [xs_congr e1, xs_supp P _ hd hp fun i _ hi => by rw [h.out i hi, Nat.xor_self, gm_zl]]
  unfold dot
  refine xs_congr fun j hj => ?_
  rw [h.at_ j hj, gm_comm]
  congr 1
  unfold eqM
  rw [if_neg (by omega), if_pos hj]
theorem syL_cf (l : List Nat) {r : Nat} (h : r < 4) : cf (syL l) r = sy l r := by
  match r, h with
  | 0, _ => rfl
  | 1, _ => rfl
  | 2, _ => rfl
  | 3, _ => rfl
theorem diff_sol {l P c : List Nat} {x : Nat → Nat} (h : Diff l P x c) (hl : El l) (hd : P.Nodup) (h4 : P.length ≤ 4) (hp : ∀ p ∈ P, p < l.length) : Sol (eqM l.length P (syL l)) P.length x ↔ ∀ r, r < 4 → sy c r = 0 := by
  constructor
  · intro hs r hr
    have := hs r hr
    rw [diff_dot h hl hd h4 hp hr] at this
    unfold eqM at this
    rw [if_pos rfl, syL_cf l hr] at this
    have e := congrArg (sy l r ^^^ ·) this
    simpa [← Nat.xor_assoc] using e
  · intro hs r hr
    rw [diff_dot h hl hd h4 hp hr, hs r hr, Nat.xor_zero]
    unfold eqM; rw [if_pos rfl, syL_cf l hr]
/-! the places' columns are independent -/
def rp : List Nat → List Nat
  | [] => [1]
  | a :: l => pm (rp l) [a, 1]
theorem rp_el : ∀ l, El (rp l)
  | [] => El.cons_ (by decide) El.nil_
  | _ :: _ => el_pm _ _
theorem rp_dg : ∀ l, dg (rp l) ≤ l.length + 1
  | [] => by decide +kernel
  | a :: l => dg_le _ _ fun k hk => cf_pm_ge _ _ k (by
      have := rp_dg l
      have h2 := dg_len [a, 1]
      simp only [List.length_cons, List.length_nil] at h2 hk
      omega)
theorem rp_z {x : Nat} (hx : x < 64) : ∀ {l : List Nat}, El l → (evl (rp l) x = 0 ↔ x ∈ l)
  | [], _ => by
    constructor
    · intro h
      have : evl [1] x = 1 := by show gm 0 x ^^^ 1 = 1; rw [gm_zl]; rfl
      rw [show rp [] = [1] from rfl, this] at h; cases h
    · intro h; cases h
  | a :: l, hl => by
    rw [show rp (a :: l) = pm (rp l) [a, 1] from rfl, evl_pm x hx _ _ (rp_el l) (El.cons_ hl.head (el1 (by decide))), gm_zero_iff, rp_z hx hl.tail, evl_lin a x hx]
    constructor
    · rintro (h | h)
      · simp [h]
      · rw [xor_zero_eq h]; simp
    · intro h
      rcases List.mem_cons.1 h with rfl | h
      · exact .inr (Nat.xor_self _)
      · exact .inl h
theorem evl_sum {q : List Nat} (hq : El q) (h : ∀ k, 4 ≤ k → cf q k = 0) {a : Nat} (ha : a < 64) : evl q a = xs_ 4 fun r => gm (cf q r) (gp a r) := by
  have e : ∀ k, cf q k = cf (q.take 4) k := fun k => by
    rw [cf_take]; split
    · rfl
    · exact h k (by omega)
  have hl : (q.take 4).length ≤ 4 := by rw [List.length_take]; omega
  have ev : ∀ n, evs_ (q.take 4) a n = xs_ n fun r => gm (cf (q.take 4) r) (gp a r) := fun n => by
    induction n with
    | zero => rfl
    | succ n ih => rw [evs_, xs_, ih]
  rw [evl_congr a e, ← evs_evl a ha _ (hq.take 4), ev]
  have : ∀ m, xs_ ((q.take 4).length + m) (fun r => gm (cf (q.take 4) r) (gp a r)) = xs_ (q.take 4).length fun r => gm (cf (q.take 4) r) (gp a r) := fun m => by
    induction m with
    | zero => rfl
    | succ m ih => rw [← Nat.add_assoc, xs_, ih, cf_none (by omega), gm_zl, Nat.xor_zero]
  rw [← this (4 - (q.take 4).length), Nat.add_sub_cancel' hl]
  exact xs_congr fun r _ => by rw [e r]
theorem van {k : Nat} (hk : k ≤ 4) {a x : Nat → Nat} (ha : ∀ j, j < k → a j < 64 ∧ a j ≠ 0) (hd : ∀ i j, i < k → j < k → a i = a j → i = j) (h : ∀ r, r < 4 → xs_ k (fun j => gm (gp (a j) (r + 1)) (x j)) = 0) : ∀ i, i < k → x i = 0 := by
  intro i hi
  obtain ⟨o, ho⟩ : ∃ o, o = ((List.range k).erase i).map a := ⟨_, rfl⟩
  have hol : o.length + 1 = k := by
    rw [ho, List.length_map, List.length_erase_of_mem (List.mem_range.2 hi), List.length_range]; omega
  have hoe : El o := fun b hb => by
    rw [ho] at hb
    obtain ⟨j, hj, rfl⟩ := List.mem_map.1 hb
    exact (ha j (List.mem_range.1 (List.mem_of_mem_erase hj))).1
  have hq : ∀ k, 4 ≤ k → cf (rp o) k = 0 := fun k hk4 => cf_ge _ _ (by have := rp_dg o; omega)
  have hqe := rp_el o
  have key : xs_ k (fun j => gm (gm (evl (rp o) (a j)) (a j)) (x j)) = 0 := by
    have e1 : ∀ j, j < k → gm (gm (evl (rp o) (a j)) (a j)) (x j) = xs_ 4 fun r => gm (cf (rp o) r) (gm (gp (a j) (r + 1)) (x j)) := fun j hj => by
      have e2 : ∀ r, r < 4 → gm (cf (rp o) r) (gm (gp (a j) (r + 1)) (x j)) = gm (gm (a j) (x j)) (gm (cf (rp o) r) (gp (a j) r)) := fun r _ => by
        rw [gp_s, gm_assoc (a j), ← gm_assoc, gm_comm (cf (rp o) r) (a j), gm_assoc, gm_comm (gp (a j) r), ← gm_assoc (cf (rp o) r), gm_comm (cf (rp o) r) (x j), gm_assoc, gm_assoc]
      rw [xs_congr e2, xs_gm (gm_lt _ _) (fun r _ => gm_lt _ _), ← evl_sum hqe hq (ha j hj).1, gm_assoc, gm_comm]
    rw [xs_congr e1, xs_swap]
    refine xs_zero fun r hr => ?_
    rw [xs_gm (hqe.cf r) (fun j _ => gm_lt _ _), h r hr, gm_zr]
  rw [xs_one (i := i) (f := fun j => gm (gm (evl (rp o) (a j)) (a j)) (x j)) hi (fun j hj hne => by
    have hm : a j ∈ o := by rw [ho]; exact List.mem_map_of_mem ((List.mem_erase_of_ne hne).2 (List.mem_range.2 hj))
    show gm (gm (evl (rp o) (a j)) (a j)) (x j) = 0
    rw [(rp_z (ha j hj).1 hoe).2 hm, gm_zl, gm_zl])] at key
  have hni : a i ∉ o := fun hm => by
    rw [ho] at hm
    obtain ⟨j, hj, e⟩ := List.mem_map.1 hm
    have hjk := List.mem_range.1 (List.mem_of_mem_erase hj)
    have := hd j i hjk hi e
    subst this
    exact List.nodup_range.not_mem_erase hj
  rcases (gm_zero_iff _ _).1 key with h1 | h1
  · rcases (gm_zero_iff _ _).1 h1 with h2 | h2
    · exact absurd ((rp_z (ha i hi).1 hoe).1 h2) hni
    · exact absurd h2 (ha i hi).2
  · exact h1
theorem hom_zero {n : Nat} {P sL : List Nat} (hn : n ≤ 63) (hd : P.Nodup) (h4 : P.length ≤ 4) (hp : ∀ p ∈ P, p < n) {x : Nat → Nat} (h : Hom (eqM n P sL) P.length x) : ∀ j, j < P.length → x j = 0 := by
  have hm : ∀ j, j < P.length → cf P j < n := fun j hj => hp _ (List.mem_of_getElem? (getElem?_cf hj))
  refine van (a := fun j => pw (n - 1 - cf P j)) h4 (fun j hj => ?_) (fun i j hi hj e => ?_) fun r hr => ?_
  · have h1 := hm j hj
    have := pw_lt (n - 1 - cf P j) (by omega)
    exact ⟨this.2, by omega⟩
  · have h1 := hm i hi
    have h2 := hm j hj
    have e2 := congrArg lg e
    rw [lg_pw _ (by omega), lg_pw _ (by omega)] at e2
    refine (List.getElem?_inj hi hd).1 ?_
    rw [getElem?_cf hi, getElem?_cf hj]
    congr 1; omega
  · have := h r hr
    unfold dot at this
    rw [← this]
    refine xs_congr fun j hj => ?_
    have h1 := hm j hj
    congr 1
    rw [gp_pw _ _ (by have := pw_lt (n - 1 - cf P j) (by omega); omega), lg_pw _ (by omega)]
    unfold eqM
    rw [if_neg (by omega), if_pos hj, Nat.mul_comm]
/-! code words -/
structure Code_ (n : Nat) (c : List Nat) : Prop where
  len : c.length = n
  el : El c
  syn : ∀ r, r < 4 → sy c r = 0
/-- Two code words that differ at four places at most are the same. -/
theorem code_uniq {n : Nat} {c d P : List Nat} (hn : n ≤ 63) (hc : Code_ n c) (hd : Code_ n d) (hP : P.Nodup) (h4 : P.length ≤ 4) (hp : ∀ p ∈ P, p < n) (h : ∀ i, i ∉ P → cf c i = cf d i) : c = d := by
  have hD : Diff d P (fun j => cf d (cf P j) ^^^ cf c (cf P j)) c := ⟨by rw [hc.len, hd.len], hc.el, h, fun _ _ => rfl⟩
  have hlen : d.length = n := hd.len
  have hz := hom_zero (sL := []) (x := fun j => cf d (cf P j) ^^^ cf c (cf P j)) hn hP h4 hp (fun r hr => by
    have := diff_dot hD hd.el hP h4 (by rw [hlen]; exact hp) hr []
    rw [hlen] at this
    rw [this, hd.syn r hr, hc.syn r hr]; rfl)
  refine eq_of_cf (by rw [hc.len, hd.len]) fun i => ?_
  by_cases hi : i ∈ P
  · obtain ⟨j, hj⟩ := List.mem_iff_getElem?.1 hi
    have hjl := (List.getElem?_eq_some_iff.1 hj).1
    have := hz j hjl
    rw [cf_some hj] at this
    exact (xor_zero_eq this).symm
  · exact h i hi
/-- What solve says of places. -/
theorem nof_no {l P : List Nat} (hl : El l) (hn : l.length ≤ 63) (hP : P.Nodup) (h4 : P.length ≤ 4) (hp : ∀ p ∈ P, p < l.length) (h : NoF l P) {c : List Nat} (hc : Code_ l.length c) : ¬ ∀ i, i ∉ P → cf c i = cf l i := fun ho => by
  obtain ⟨M, hM⟩ := h
  rcases hM.2 rfl with h | ⟨x, _, hh, j, hj, hne⟩
  · have hD : Diff l P (fun j => cf l (cf P j) ^^^ cf c (cf P j)) c := ⟨hc.len, hc.el, ho, fun _ _ => rfl⟩
    exact h _ (fun j => xor_lt64 _ _ (hl.cf _) (hc.el.cf _)) ((diff_sol hD hl hP h4 hp).2 hc.syn)
  · exact hne (hom_zero hn hP h4 hp hh j hj)
theorem fix_cf {l P : List Nat} {M : Mx} (hd : P.Nodup) (hp : ∀ p ∈ P, p < l.length) : ∀ i, i ≤ P.length → (∀ j, j < i → cf (fixL l P M i) (cf P j) = cf l (cf P j) ^^^ M j 4) ∧ ∀ q, (∀ j, j < i → cf P j ≠ q) → cf (fixL l P M i) q = cf l q
  | 0, _ => ⟨fun j h => absurd h (by omega), fun _ _ => rfl⟩
  | i + 1, hi => by
    obtain ⟨h1, h2⟩ := fix_cf hd hp i (by omega)
    have hlt : cf P i < (fixL l P M i).length := by rw [fixL_len]; exact hp _ (List.mem_of_getElem? (getElem?_cf (by omega)))
    have hne : ∀ j, j < i → cf P j ≠ cf P i := fun j hj e => by
      have := (List.getElem?_inj (i := j) (j := i) (show j < P.length by omega) hd).1 (by rw [getElem?_cf (by omega), getElem?_cf (by omega), e])
      omega
    rw [fixL]
    refine ⟨fun j hj => ?_, fun q hq => ?_⟩
    · rw [cf_set _ _ _ _ hlt]
      by_cases e : j = i
      · subst e; rw [if_pos rfl, h2 _ hne]
      · rw [if_neg (hne j (by omega)), h1 j (by omega)]
    · rw [cf_set _ _ _ _ hlt, if_neg (fun e => hq i (by omega) e.symm), h2 q fun j hj => hq j (by omega)]
theorem yes_code {l P c : List Nat} (hl : El l) (hP : P.Nodup) (h4 : P.length ≤ 4) (hp : ∀ p ∈ P, p < l.length) (h : YesF l P c) : Code_ l.length c ∧ ∀ i, i ∉ P → cf c i = cf l i := by
  obtain ⟨M, hM, rfl⟩ := h
  obtain ⟨hEM, hS⟩ := hM.1 rfl
  obtain ⟨f1, f2⟩ := fix_cf (M := M) hP hp P.length (Nat.le_refl _)
  have hel := fixL_el (P := P) hl hEM P.length h4
  have hout : ∀ i, i ∉ P → cf (fixL l P M P.length) i = cf l i := fun i hi => f2 i fun j hj e => hi (by rw [← e]; exact List.mem_of_getElem? (getElem?_cf hj))
  have hx : EX fun j => if j < P.length then M j 4 else 0 := fun j => by
    show (if j < P.length then M j 4 else 0) < 64
    split
    · exact hEM j 4 (by omega) (by omega)
    · decide
  have hD : Diff l P (fun j => if j < P.length then M j 4 else 0) (fixL l P M P.length) := ⟨fixL_len _ _ _ _, hel, hout, fun j hj => by
    show (if j < P.length then M j 4 else 0) = _
    rw [if_pos hj, f1 j hj, ← Nat.xor_assoc, Nat.xor_self, Nat.zero_xor]⟩
  refine ⟨⟨fixL_len _ _ _ _, hel, (diff_sol hD hl hP h4 hp).1 ((hS _ hx).2 fun j hj => if_pos hj)⟩, hout⟩
end Go.Proofs.Ytjhgihgggofocaa
