/- Chapter 18, plain: polynomials over the field of 64 elements, as lists of coefficients. -/
import Derived.Test.YtjhgihgggofocaaFP
namespace Go.Proofs.Ytjhgihgggofocaa

def El (p : List Nat) : Prop := ∀ a ∈ p, a < 64
theorem El.nil_ : El [] := fun a h => absurd h (by simp)
theorem El.cons_ {a : Nat} {p : List Nat} (ha : a < 64) (h : El p) : El (a :: p) := fun b hb => by
  rcases List.mem_cons.1 hb with rfl | hb
  · exact ha
  · exact h b hb
theorem El.head {a : Nat} {p : List Nat} (h : El (a :: p)) : a < 64 := h a (by simp)
theorem El.tail {a : Nat} {p : List Nat} (h : El (a :: p)) : El p := fun b hb => h b (by simp [hb])
theorem El.app {p q : List Nat} (h : El p) (k : El q) : El (p ++ q) := fun b hb => (List.mem_append.1 hb).elim (h b) (k b)
theorem El.take {p : List Nat} (h : El p) (n : Nat) : El (p.take n) := fun b hb => h b (List.mem_of_mem_take hb)
theorem El.drop {p : List Nat} (h : El p) (n : Nat) : El (p.drop n) := fun b hb => h b (List.mem_of_mem_drop hb)
theorem El.get {p : List Nat} (h : El p) {i a : Nat} (hi : p[i]? = some a) : a < 64 := h a (List.mem_of_getElem? hi)

/-- A coefficient, 0 where there is none. -/
def cf (p : List Nat) (k : Nat) : Nat := (p[k]?).getD 0
theorem cf_nil (k : Nat) : cf [] k = 0 := by simp [cf]
theorem cf_z (a : Nat) (p : List Nat) : cf (a :: p) 0 = a := rfl
theorem cf_s (a : Nat) (p : List Nat) (k : Nat) : cf (a :: p) (k + 1) = cf p k := rfl
theorem cf_some {p : List Nat} {k a : Nat} (h : p[k]? = some a) : cf p k = a := by simp [cf, h]
theorem cf_none {p : List Nat} {k : Nat} (h : p.length ≤ k) : cf p k = 0 := by simp [cf, List.getElem?_eq_none h]
theorem getElem?_cf {p : List Nat} {k : Nat} (h : k < p.length) : p[k]? = some (cf p k) := by simp [cf, List.getElem?_eq_getElem h]
theorem El.cf {p : List Nat} (h : El p) (k : Nat) : cf p k < 64 := by
  rcases Nat.lt_or_ge k p.length with hk | hk
  · exact h.get (getElem?_cf hk)
  · rw [cf_none hk]; omega
theorem eq_of_cf {p q : List Nat} (hl : p.length = q.length) (h : ∀ k, cf p k = cf q k) : p = q := by
  apply List.ext_getElem?
  intro k
  rcases Nat.lt_or_ge k p.length with hk | hk
  · rw [getElem?_cf hk, getElem?_cf (by omega), h]
  · rw [List.getElem?_eq_none hk, List.getElem?_eq_none (by omega)]
theorem cf_take (p : List Nat) (n k : Nat) : cf (p.take n) k = if k < n then cf p k else 0 := by
  unfold cf; rw [List.getElem?_take]; split <;> rfl
theorem cf_drop (p : List Nat) (n k : Nat) : cf (p.drop n) k = cf p (n + k) := by unfold cf; rw [List.getElem?_drop]
theorem cf_app (p q : List Nat) (k : Nat) : cf (p ++ q) k = if k < p.length then cf p k else cf q (k - p.length) := by
  unfold cf; split
  · rw [List.getElem?_append_left (by assumption)]
  · rw [List.getElem?_append_right (by omega)]
theorem cf_set (p : List Nat) (n k a : Nat) (h : n < p.length) : cf (p.set n a) k = if k = n then a else cf p k := by
  unfold cf; rw [List.getElem?_set]
  by_cases e : n = k
  · subst e; rw [if_pos rfl, if_pos h, if_pos rfl]; rfl
  · rw [if_neg e, if_neg (fun x => e x.symm)]
theorem cf_replicate (n k : Nat) : cf (List.replicate n 0) k = 0 := by
  unfold cf; rw [List.getElem?_replicate]; split <;> rfl

/-- The degree and one more. -/
def dg : List Nat → Nat
  | [] => 0
  | a :: p => if dg p = 0 then (if a = 0 then 0 else 1) else dg p + 1
theorem dg_len : ∀ p : List Nat, dg p ≤ p.length
  | [] => Nat.le_refl _
  | a :: p => by
    have := dg_len p
    rw [dg, List.length_cons]; split <;> (try split) <;> omega
theorem cf_ge : ∀ (p : List Nat) (k : Nat), dg p ≤ k → cf p k = 0
  | [], k, _ => cf_nil k
  | a :: p, k, h => by
    rw [dg] at h
    cases k with
    | zero =>
      rw [cf_z]
      split at h
      · split at h
        · assumption
        · omega
      · omega
    | succ k =>
      rw [cf_s]
      refine cf_ge p k ?_
      split at h
      · omega
      · omega
theorem cf_top : ∀ (p : List Nat), 0 < dg p → cf p (dg p - 1) ≠ 0
  | [], h => by simp [dg] at h
  | a :: p, h => by
    rw [dg] at h ⊢
    split
    · rename_i h0
      rw [if_pos h0] at h
      split
      · rename_i h1; rw [if_pos h1] at h; omega
      · rw [cf_z]; assumption
    · rename_i h0
      have := cf_top p (by omega)
      rw [show dg p + 1 - 1 = (dg p - 1) + 1 from by omega, cf_s]; exact this
theorem dg_le (p : List Nat) (n : Nat) (h : ∀ k, n ≤ k → cf p k = 0) : dg p ≤ n := by
  rcases Nat.lt_or_ge n (dg p) with hn | hn
  · exact absurd (h (dg p - 1) (by omega)) (cf_top p (by omega))
  · exact hn
theorem dg_eq (p : List Nat) (n : Nat) (h0 : cf p n ≠ 0) (h : ∀ k, n < k → cf p k = 0) : dg p = n + 1 := by
  have h1 := dg_le p (n + 1) fun k hk => h k (by omega)
  rcases Nat.lt_or_ge n (dg p) with hn | hn
  · omega
  · exact absurd (cf_ge p n hn) h0
theorem dg_congr {p q : List Nat} (h : ∀ k, cf p k = cf q k) : dg p = dg q :=
  Nat.le_antisymm (dg_le p _ fun k hk => by rw [h]; exact cf_ge q k hk) (dg_le q _ fun k hk => by rw [← h]; exact cf_ge p k hk)
theorem dg_zero_iff (p : List Nat) : dg p = 0 ↔ ∀ k, cf p k = 0 :=
  ⟨fun h k => cf_ge p k (by omega), fun h => by have := dg_le p 0 fun k _ => h k; omega⟩
/-- Without zeros at its end. -/
def tr (p : List Nat) : List Nat := p.take (dg p)
theorem cf_tr (p : List Nat) (k : Nat) : cf (tr p) k = cf p k := by
  unfold tr; rw [cf_take]; split
  · rfl
  · rw [cf_ge p k (by omega)]
theorem tr_len (p : List Nat) : (tr p).length = dg p := by unfold tr; rw [List.length_take]; have := dg_len p; omega
theorem dg_tr (p : List Nat) : dg (tr p) = dg p := dg_congr (cf_tr p)
theorem tr_congr {p q : List Nat} (h : ∀ k, cf p k = cf q k) : tr p = tr q :=
  eq_of_cf (by rw [tr_len, tr_len, dg_congr h]) fun k => by rw [cf_tr, cf_tr, h]
theorem tr_self {p : List Nat} (h : dg p = p.length) : tr p = p := by unfold tr; rw [h, List.take_length]
theorem tr_tr (p : List Nat) : tr (tr p) = tr p := tr_self (by rw [dg_tr, tr_len])
theorem El.tr {p : List Nat} (h : El p) : El (tr p) := h.take _
theorem tr_iff {p q : List Nat} : tr p = tr q ↔ ∀ k, cf p k = cf q k := ⟨fun h k => by rw [← cf_tr p, h, cf_tr], tr_congr⟩
theorem tr_nil {p : List Nat} (h : dg p = 0) : tr p = [] := by unfold tr; rw [h]; rfl

/-! sums, multiples, products -/
def pa : List Nat → List Nat → List Nat
  | [], q => q
  | p, [] => p
  | a :: p, b :: q => (a ^^^ b) :: pa p q
theorem cf_pa : ∀ (p q : List Nat) (k : Nat), cf (pa p q) k = cf p k ^^^ cf q k
  | [], q, k => by simp [pa, cf_nil]
  | a :: p, [], k => by simp [pa, cf_nil]
  | a :: p, b :: q, 0 => rfl
  | a :: p, b :: q, k + 1 => by rw [pa, cf_s, cf_s, cf_s, cf_pa p q k]
theorem pa_len : ∀ (p q : List Nat), (pa p q).length = max p.length q.length
  | [], q => by simp [pa]
  | a :: p, [] => by simp [pa]
  | a :: p, b :: q => by rw [pa, List.length_cons, pa_len p q, List.length_cons, List.length_cons]; omega
theorem el_pa : ∀ {p q : List Nat}, El p → El q → El (pa p q)
  | [], q, _, h => by simpa [pa]
  | a :: p, [], h, _ => by simpa [pa]
  | a :: p, b :: q, h, k => by rw [pa]; exact El.cons_ (xor_lt64 _ _ h.head k.head) (el_pa h.tail k.tail)
def sc (a : Nat) (p : List Nat) : List Nat := p.map (gm a)
theorem cf_sc (a : Nat) (p : List Nat) (k : Nat) : cf (sc a p) k = gm a (cf p k) := by
  unfold cf sc; rw [List.getElem?_map]; cases p[k]? with
  | none => simp [gm_zr]
  | some b => rfl
theorem el_sc (a : Nat) (p : List Nat) : El (sc a p) := fun b hb => by
  unfold sc at hb; obtain ⟨c, _, rfl⟩ := List.mem_map.1 hb; exact gm_lt a c
def pm : List Nat → List Nat → List Nat
  | [], _ => []
  | a :: p, q => pa (sc a q) (0 :: pm p q)
theorem el_pm : ∀ (p q : List Nat), El (pm p q)
  | [], _ => El.nil_
  | a :: p, q => by rw [pm]; exact el_pa (el_sc a q) (El.cons_ (by omega) (el_pm p q))
theorem cf_pm_z (a : Nat) (p q : List Nat) : cf (pm (a :: p) q) 0 = gm a (cf q 0) := by
  rw [pm, cf_pa, cf_sc, cf_z]; exact Nat.xor_zero _
theorem cf_pm_s (a : Nat) (p q : List Nat) (k : Nat) : cf (pm (a :: p) q) (k + 1) = gm a (cf q (k + 1)) ^^^ cf (pm p q) k := by
  rw [pm, cf_pa, cf_sc, cf_s]
/-- One row more. -/
theorem cf_pm_snoc (q : List Nat) (a : Nat) : ∀ (p : List Nat) (k : Nat), cf (pm (p ++ [a]) q) k = cf (pm p q) k ^^^ (if k < p.length then 0 else gm a (cf q (k - p.length)))
  | [], k => by
    rw [List.nil_append, show pm [] q = [] from rfl, cf_nil, Nat.zero_xor]
    cases k with
    | zero => rw [cf_pm_z]; rfl
    | succ k => rw [cf_pm_s, show pm [] q = [] from rfl, cf_nil, Nat.xor_zero]; rfl
  | b :: p, 0 => by rw [List.cons_append, cf_pm_z, cf_pm_z]; simp
  | b :: p, k + 1 => by
    rw [List.cons_append, cf_pm_s, cf_pm_s, cf_pm_snoc q a p k, Nat.xor_assoc, List.length_cons]
    congr 1
    by_cases h : k < p.length
    · rw [if_pos h, if_pos (by omega)]
    · rw [if_neg h, if_neg (by omega), show k + 1 - (p.length + 1) = k - p.length from by omega]
theorem pm_congr_r {q q' : List Nat} (h : ∀ k, cf q k = cf q' k) : ∀ (p : List Nat) (k : Nat), cf (pm p q) k = cf (pm p q') k
  | [], k => rfl
  | a :: p, 0 => by rw [cf_pm_z, cf_pm_z, h]
  | a :: p, k + 1 => by rw [cf_pm_s, cf_pm_s, h, pm_congr_r h p k]
theorem pm_nil_r : ∀ (p : List Nat) (k : Nat), cf (pm p []) k = 0
  | [], k => cf_nil k
  | a :: p, 0 => by rw [cf_pm_z, cf_nil, gm_zr]
  | a :: p, k + 1 => by rw [cf_pm_s, cf_nil, gm_zr, pm_nil_r p k]; rfl
theorem cf_pm_cons_r (b : Nat) (q : List Nat) : ∀ (p : List Nat) (k : Nat), cf (pm p (b :: q)) (k + 1) = gm b (cf p (k + 1)) ^^^ cf (pm p q) k
  | [], k => by
    show cf [] (k + 1) = gm b (cf [] (k + 1)) ^^^ cf [] k
    rw [cf_nil, cf_nil, gm_zr]; rfl
  | a :: p, 0 => by
    rw [cf_pm_s, cf_s, cf_s, cf_pm_z]
    cases p with
    | nil => show gm a (cf q 0) ^^^ cf [] 0 = gm b 0 ^^^ gm a (cf q 0); rw [cf_nil, gm_zr, Nat.xor_zero, Nat.zero_xor]
    | cons c p => rw [cf_pm_z, cf_z, cf_z, gm_comm c b, Nat.xor_comm]
  | a :: p, k + 1 => by
    rw [cf_pm_s, cf_s, cf_pm_cons_r b q p k, cf_s, cf_pm_s, ← Nat.xor_assoc, ← Nat.xor_assoc, Nat.xor_comm (gm a _)]
theorem pm_comm : ∀ (p q : List Nat) (k : Nat), cf (pm p q) k = cf (pm q p) k
  | [], q, k => by rw [pm_nil_r]; rfl
  | a :: p, q, 0 => by
    rw [cf_pm_z]
    cases q with
    | nil => show gm a (cf [] 0) = cf [] 0; rw [cf_nil, gm_zr]
    | cons b q => rw [cf_pm_z, cf_z, cf_z, gm_comm]
  | a :: p, q, k + 1 => by rw [cf_pm_s, cf_pm_cons_r, pm_comm p q k]
theorem pm_congr_l {p p' : List Nat} (h : ∀ k, cf p k = cf p' k) (q : List Nat) (k : Nat) : cf (pm p q) k = cf (pm p' q) k := by
  rw [pm_comm, pm_congr_r h q k, pm_comm]
theorem pm_pa_r (q r : List Nat) (hq : El q) (hr : El r) : ∀ (p : List Nat) (_ : El p) (k : Nat), cf (pm p (pa q r)) k = cf (pm p q) k ^^^ cf (pm p r) k
  | [], _, k => by rw [show pm [] (pa q r) = [] from rfl, show pm [] q = [] from rfl, show pm [] r = [] from rfl, cf_nil]; rfl
  | a :: p, hp, 0 => by rw [cf_pm_z, cf_pm_z, cf_pm_z, cf_pa, gm_xor _ _ _ hp.head (hq.cf _) (hr.cf _)]
  | a :: p, hp, k + 1 => by
    rw [cf_pm_s, cf_pm_s, cf_pm_s, cf_pa, gm_xor _ _ _ hp.head (hq.cf _) (hr.cf _), pm_pa_r q r hq hr p hp.tail k]
    simp only [Nat.xor_assoc]; congr 1; simp only [← Nat.xor_assoc]; rw [Nat.xor_comm (gm a _) (cf (pm p q) k)]
theorem pm_pa_l (p r q : List Nat) (hp : El p) (hr : El r) (hq : El q) (k : Nat) : cf (pm (pa p r) q) k = cf (pm p q) k ^^^ cf (pm r q) k := by
  rw [pm_comm, pm_pa_r p r hp hr q hq k, pm_comm q p, pm_comm q r]
theorem pm_zero (p q : List Nat) (h : dg p = 0 ∨ dg q = 0) : dg (pm p q) = 0 := by
  rw [dg_zero_iff]; intro k
  rcases h with h | h
  · rw [pm_congr_l (p' := []) fun i => by rw [(dg_zero_iff p).1 h, cf_nil]]; exact cf_nil k
  · rw [pm_congr_r (q' := []) fun i => by rw [(dg_zero_iff q).1 h, cf_nil]]; exact pm_nil_r p k
/-- No coefficient behind the sum of the degrees. -/
theorem cf_pm_ge : ∀ (p q : List Nat) (k : Nat), dg p + dg q ≤ k + 1 → cf (pm p q) k = 0
  | [], q, k, _ => cf_nil k
  | a :: p, q, 0, h => by
    rw [cf_pm_z, gm_zero_iff]
    rw [dg] at h
    by_cases h0 : dg q = 0
    · exact .inr (cf_ge q 0 (by omega))
    · split at h
      · split at h
        · exact .inl (by assumption)
        · omega
      · omega
  | a :: p, q, k + 1, h => by
    rw [cf_pm_s]
    rw [dg] at h
    split at h
    · rename_i h0
      rw [(dg_zero_iff _).1 (pm_zero p q (.inl h0)) k, Nat.xor_zero, gm_zero_iff]
      split at h
      · exact .inl (by assumption)
      · exact .inr (cf_ge q _ (by omega))
    · rw [cf_pm_ge p q k (by omega), Nat.xor_zero, cf_ge q (k + 1) (by omega), gm_zr]
theorem cf_pm_top : ∀ (p q : List Nat), 0 < dg p → 0 < dg q → cf (pm p q) (dg p + dg q - 2) = gm (cf p (dg p - 1)) (cf q (dg q - 1))
  | [], q, h, _ => by simp [dg] at h
  | a :: p, q, h, hq => by
    by_cases h0 : dg p = 0
    · have ha : a ≠ 0 := by rintro rfl; rw [dg, if_pos h0] at h; simp at h
      have e : dg (a :: p) = 1 := by rw [dg, if_pos h0, if_neg ha]
      rw [e, show 1 + dg q - 2 = dg q - 1 from by omega, show (1 : Nat) - 1 = 0 from rfl, cf_z]
      rcases hk : dg q - 1 with _ | k
      · rw [cf_pm_z]
      · rw [cf_pm_s, (dg_zero_iff _).1 (pm_zero p q (.inl h0)) k, Nat.xor_zero]
    · have e : dg (a :: p) = dg p + 1 := by rw [dg, if_neg h0]
      have ih := cf_pm_top p q (by omega) hq
      rw [e, show dg p + 1 + dg q - 2 = (dg p + dg q - 2) + 1 from by omega, cf_pm_s, ih, show dg p + 1 - 1 = (dg p - 1) + 1 from by omega, cf_s, cf_ge q (dg p + dg q - 2 + 1) (by omega), gm_zr, Nat.zero_xor]
theorem dg_pm (p q : List Nat) (h : 0 < dg p) (hq : 0 < dg q) : dg (pm p q) = dg p + dg q - 1 := by
  have := dg_eq (pm p q) (dg p + dg q - 2) (by rw [cf_pm_top p q h hq]; exact gm_ne _ _ (cf_top p h) (cf_top q hq)) fun k hk => cf_pm_ge p q k (by omega)
  omega
/-! values -/
def evl : List Nat → Nat → Nat
  | [], _ => 0
  | a :: p, x => gm (evl p x) x ^^^ a
theorem evl_lt : ∀ (p : List Nat) (x : Nat), El p → evl p x < 64
  | [], _, _ => by show 0 < 64; omega
  | a :: p, x, h => xor_lt64 _ _ (gm_lt _ _) h.head
theorem evl_zero : ∀ (p : List Nat) (x : Nat), (∀ k, cf p k = 0) → evl p x = 0
  | [], _, _ => rfl
  | a :: p, x, h => by
    rw [evl, evl_zero p x (fun k => h (k + 1)), gm_zl, show a = 0 from h 0]; rfl
theorem evl_congr : ∀ {p q : List Nat} (x : Nat), (∀ k, cf p k = cf q k) → evl p x = evl q x
  | [], q, x, h => (evl_zero q x fun k => by rw [← h, cf_nil]).symm
  | a :: p, [], x, h => evl_zero _ x fun k => by rw [h, cf_nil]
  | a :: p, b :: q, x, h => by
    rw [evl, evl, evl_congr (p := p) (q := q) x (fun k => h (k + 1)), show a = b from h 0]
theorem evl_pa (x : Nat) (hx : x < 64) : ∀ (p q : List Nat), El p → El q → evl (pa p q) x = evl p x ^^^ evl q x
  | [], q, _, _ => by simp [pa, evl]
  | a :: p, [], _, _ => by simp [pa, evl]
  | a :: p, b :: q, hp, hq => by
    rw [pa, evl, evl, evl, evl_pa x hx p q hp.tail hq.tail, xor_gm _ _ _ hx (evl_lt p x hp.tail) (evl_lt q x hq.tail)]
    simp only [Nat.xor_assoc]; congr 1; simp only [← Nat.xor_assoc]; rw [Nat.xor_comm (gm (evl q x) x) a]
theorem evl_sc (x : Nat) (hx : x < 64) (a : Nat) (ha : a < 64) : ∀ (p : List Nat), El p → evl (sc a p) x = gm a (evl p x)
  | [], _ => by rw [evl, gm_zr]; rfl
  | b :: p, hp => by
    have ih := evl_sc x hx a ha p hp.tail
    rw [show sc a (b :: p) = gm a b :: sc a p from rfl, evl, evl, ih, gm_xor _ _ _ ha (gm_lt _ _) hp.head, gm_assoc]
theorem evl_pm (x : Nat) (hx : x < 64) : ∀ (p q : List Nat), El p → El q → evl (pm p q) x = gm (evl p x) (evl q x)
  | [], q, _, _ => by rw [show pm [] q = [] from rfl]; rfl
  | a :: p, q, hp, hq => by
    rw [pm, evl_pa x hx _ _ (el_sc a q) (El.cons_ (by omega) (el_pm p q)), evl_sc x hx a hp.head q hq, evl, evl_pm x hx p q hp.tail hq, evl, Nat.xor_zero,
      xor_gm _ _ _ (evl_lt q x hq) (gm_lt _ _) hp.head, gm_assoc, gm_comm (evl q x) x, ← gm_assoc, Nat.xor_comm]
/-- The same by powers. -/
def evs_ (p : List Nat) (x : Nat) : Nat → Nat
  | 0 => 0
  | n + 1 => evs_ p x n ^^^ gm (cf p n) (gp x n)
theorem gp_s (x : Nat) : ∀ n, gp x (n + 1) = gm x (gp x n)
  | 0 => gm_comm 1 x
  | n + 1 => by rw [gp, gp_s x n, gm_assoc, ← gp]; rw [gp_s x n]
theorem evs_cons (a x : Nat) (hx : x < 64) (ha : a < 64) (p : List Nat) (hp : El p) : ∀ n, evs_ (a :: p) x (n + 1) = gm (evs_ p x n) x ^^^ a
  | 0 => by rw [evs_, evs_, evs_, cf_z, gp, gm_one a ha, gm_zl]
  | n + 1 => by
    have hl : ∀ n, evs_ p x n < 64 := fun n => by
      induction n with
      | zero => show 0 < 64; omega
      | succ n ih => exact xor_lt64 _ _ ih (gm_lt _ _)
    rw [evs_, evs_cons a x hx ha p hp n, evs_, cf_s, xor_gm _ _ _ hx (hl n) (gm_lt _ _), gp, gm_assoc, Nat.xor_assoc, Nat.xor_assoc, Nat.xor_comm a]
theorem evs_evl (x : Nat) (hx : x < 64) : ∀ (p : List Nat), El p → evs_ p x p.length = evl p x
  | [], _ => rfl
  | a :: p, h => by rw [List.length_cons, evs_cons a x hx h.head p h.tail, evs_evl x hx p h.tail, evl]

/-! division -/
structure IsDiv (p q d r : List Nat) : Prop where
  eq : ∀ k, cf p k = cf (pm d q) k ^^^ cf r k
  lt : dg r < dg q
theorem isDiv_uniq {p q d r d' r' : List Nat} (hq : El q) (hd : El d) (hd' : El d') (h : IsDiv p q d r) (h' : IsDiv p q d' r') : (∀ k, cf d k = cf d' k) ∧ ∀ k, cf r k = cf r' k := by
  have hz : ∀ a b : Nat, a ^^^ b = 0 → a = b := fun a b h => by
    have : a ^^^ b ^^^ b = 0 ^^^ b := by rw [h]
    rwa [Nat.xor_assoc, Nat.xor_self, Nat.xor_zero, Nat.zero_xor] at this
  have e : ∀ k, cf (pm (pa d d') q) k = cf r k ^^^ cf r' k := fun k => by
    rw [pm_pa_l d d' q hd hd' hq]
    have := (h.eq k).symm.trans (h'.eq k)
    have e2 : cf (pm d q) k ^^^ cf r k ^^^ (cf r k ^^^ cf (pm d' q) k) = cf (pm d' q) k ^^^ cf r' k ^^^ (cf r k ^^^ cf (pm d' q) k) := by rw [this]
    rw [Nat.xor_assoc (cf (pm d q) k), ← Nat.xor_assoc (cf r k), Nat.xor_self, Nat.zero_xor] at e2
    rw [e2, Nat.xor_comm (cf (pm d' q) k) (cf r' k), Nat.xor_comm (cf r k), Nat.xor_assoc, ← Nat.xor_assoc (cf (pm d' q) k), Nat.xor_self, Nat.zero_xor, Nat.xor_comm]
  have hd0 : dg (pa d d') = 0 := by
    rcases Nat.eq_zero_or_pos (dg (pa d d')) with h0 | h0
    · exact h0
    · exfalso
      have hl := h.lt
      have hl' := h'.lt
      have ht := cf_pm_top (pa d d') q h0 (by omega)
      rw [e, cf_ge r _ (by omega), cf_ge r' _ (by omega)] at ht
      exact gm_ne _ _ (cf_top _ h0) (cf_top q (by omega)) (by simpa using ht.symm)
  have hk : ∀ k, cf d k = cf d' k := fun k => hz _ _ (by rw [← cf_pa]; exact (dg_zero_iff _).1 hd0 k)
  refine ⟨hk, fun k => hz _ _ ?_⟩
  rw [← e, pm_congr_l (p' := []) (fun i => by rw [(dg_zero_iff _).1 hd0, cf_nil])]
  exact cf_nil k
end Go.Proofs.Ytjhgihgggofocaa
