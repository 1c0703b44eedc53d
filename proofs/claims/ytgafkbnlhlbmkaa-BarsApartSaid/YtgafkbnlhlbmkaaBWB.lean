/- Plain: what is written is read, and what is hit is told (BarsBack); lists that differ (BarsApart). -/
import Derived.Test.YtgafkbnlhlbmkaaBW
namespace Go.Proofs.Ytgafkbnlhlbmkaa
open Go.RowKit
abbrev encT (b : Bool) : List Value := [.bool b]
theorem encT_len (b : Bool) : (encT b).length = 1 := rfl
def m64 (x : UInt8) : UInt8 := UInt8.ofNat (x.toNat % 64)
theorem m64_nat (x : UInt8) : (m64 x).toNat = x.toNat % 64 := UInt8.toNat_ofNat_of_lt' (show x.toNat % 64 < 256 by omega)
theorem m64s_lt {T : List UInt8} : ∀ s ∈ T.map m64, s.toNat < 64 := fun s h => by
  obtain ⟨x, _, rfl⟩ := List.mem_map.1 h
  rw [m64_nat]; omega
theorem m64_more {T : List UInt8} {i : Nat} {x : UInt8} (h : T[i]? = some x) : (T.take (i + 1)).map m64 = (T.take i).map m64 ++ [m64 x] := by rw [List.take_add_one, h, Option.toList_some, List.map_append]; rfl
def hitL (t : List UInt8) (ps : List Nat) : List UInt8 := ps.foldl (fun t p => t.set p 63) t
def hk (ps : List Nat) (k : Nat) : Bool := decide (∃ p ∈ ps, p / 3 = k)
def hitB (n : Nat) (ps : List Nat) : List Bool := (List.range n).map (hk ps)
theorem hitL_more (t : List UInt8) (ps : List Nat) (p : Nat) : hitL t (ps ++ [p]) = (hitL t ps).set p 63 := by unfold hitL; rw [List.foldl_append]; rfl
theorem hitL_len (ps : List Nat) : ∀ t : List UInt8, (hitL t ps).length = t.length := by
  induction ps with
  | nil => exact fun t => rfl
  | cons p ps ih => intro t; show (hitL (t.set p 63) ps).length = _; rw [ih, List.length_set]
theorem hitL_get (ps : List Nat) : ∀ (t : List UInt8) (j : Nat), (hitL t ps)[j]? = if j ∈ ps then t[j]?.map (fun _ => 63) else t[j]? := by
  induction ps with
  | nil => intro t j; simp [hitL]
  | cons p ps ih =>
    intro t j
    show (hitL (t.set p 63) ps)[j]? = _
    rw [ih]
    by_cases hj : p = j
    · subst hj
      have e : (t.set p 63)[p]? = t[p]?.map (fun _ => 63) := by rw [List.getElem?_set_self']; rfl
      rw [e]
      by_cases hp : p ∈ ps
      · rw [if_pos hp, if_pos (List.mem_cons_self ..), Option.map_map]; rfl
      · rw [if_neg hp, if_pos (List.mem_cons_self ..)]
    · rw [List.getElem?_set_ne hj]
      by_cases hp : j ∈ ps
      · rw [if_pos hp, if_pos (List.mem_cons_of_mem _ hp)]
      · rw [if_neg hp, if_neg (fun h => (List.mem_cons.1 h).elim (fun e => hj e.symm) hp)]
theorem hitB_nil (n : Nat) : hitB n [] = List.replicate n false := by
  unfold hitB
  apply List.ext_getElem?
  intro i
  rw [List.getElem?_map]
  rcases Nat.lt_or_ge i n with h | h
  · rw [List.getElem?_range h, List.getElem?_replicate_of_lt h]; rfl
  · rw [List.getElem?_eq_none (by simpa using h), List.getElem?_eq_none (by simpa using h)]; rfl
theorem hitB_len (n : Nat) (ps : List Nat) : (hitB n ps).length = n := by simp [hitB]
theorem hitB_at {n : Nat} (ps : List Nat) {k : Nat} (h : k < n) : (hitB n ps)[k]? = some (hk ps k) := by unfold hitB; rw [List.getElem?_map, List.getElem?_range h]; rfl
theorem hk_more (ps : List Nat) (p k : Nat) : hk (ps ++ [p]) k = if p / 3 = k then true else hk ps k := by
  unfold hk
  by_cases h : p / 3 = k
  · rw [if_pos h]; exact decide_eq_true ⟨p, by simp, h⟩
  · rw [if_neg h, decide_eq_decide]
    constructor
    · rintro ⟨q, hq, e⟩
      rcases List.mem_append.1 hq with hq | hq
      · exact ⟨q, hq, e⟩
      · rw [List.mem_singleton.1 hq] at e; exact absurd e h
    · rintro ⟨q, hq, e⟩; exact ⟨q, List.mem_append.2 (.inl hq), e⟩
theorem hitB_more (n : Nat) (ps : List Nat) (p : Nat) : hitB n (ps ++ [p]) = (hitB n ps).set (p / 3) true := by
  apply List.ext_getElem?
  intro k
  rcases Nat.lt_or_ge k n with h | h
  · rw [hitB_at _ h, hk_more, List.getElem?_set]
    by_cases e : p / 3 = k
    · rw [if_pos e, if_pos e, if_pos (by rw [hitB_len]; omega)]
    · rw [if_neg e, if_neg e, hitB_at _ h]
  · rw [List.getElem?_eq_none (by rw [hitB_len]; exact h), List.getElem?_eq_none (by rw [List.length_set, hitB_len]; exact h)]
/-- The letters of a text where no letter of a symbol is hit are as they were. -/
theorem part_hit {t : List UInt8} {ps : List Nat} {k : Nat} (h : hk ps k = false) : part (hitL t ps) k = part t k := by
  unfold part
  apply List.ext_getElem?
  intro j
  rw [List.getElem?_drop, List.getElem?_drop, List.getElem?_take, List.getElem?_take]
  by_cases hj : 3 * k + j < 3 * k + 3
  · rw [if_pos hj, if_pos hj, hitL_get, if_neg]
    intro hm
    exact of_decide_eq_false h ⟨_, hm, by omega⟩
  · rw [if_neg hj, if_neg hj]
theorem hit_yes {t : List UInt8} {ps : List Nat} {k : Nat} (h : hk ps k = true) (hk3 : 3 * k + 3 ≤ t.length) : unc (hitL t ps) k = true ∧ symB (hitL t ps) k = 0 := by
  obtain ⟨p, hp, e⟩ := of_decide_eq_true h
  obtain ⟨a, ha⟩ : ∃ a, (hitL t ps)[3 * k]? = some a := ⟨_, List.getElem?_eq_getElem (by rw [hitL_len]; omega)⟩
  obtain ⟨b, hb⟩ : ∃ b, (hitL t ps)[3 * k + 1]? = some b := ⟨_, List.getElem?_eq_getElem (by rw [hitL_len]; omega)⟩
  obtain ⟨c, hc⟩ : ∃ c, (hitL t ps)[3 * k + 2]? = some c := ⟨_, List.getElem?_eq_getElem (by rw [hitL_len]; omega)⟩
  have hpp : (hitL t ps)[p]? = some 63 := by
    rw [hitL_get, if_pos hp, List.getElem?_eq_getElem (show p < t.length by omega)]; rfl
  have hu : unc (hitL t ps) k = true := by
    rw [unc3 (part3 ha hb hc), decide_eq_true_eq]
    have : p = 3 * k ∨ p = 3 * k + 1 ∨ p = 3 * k + 2 := by omega
    rcases this with rfl | rfl | rfl
    · rw [ha] at hpp; exact .inl (by injection hpp)
    · rw [hb] at hpp; exact .inr (.inl (by injection hpp))
    · rw [hc] at hpp; exact .inr (.inr (by injection hpp))
  exact ⟨hu, by unfold symB; rw [hu]; rfl⟩
theorem hit_no {t : List UInt8} {ps : List Nat} {k : Nat} (h : hk ps k = false) : unc (hitL t ps) k = unc t k ∧ symB (hitL t ps) k = symB t k := by
  have e : unc (hitL t ps) k = unc t k := by unfold unc; rw [part_hit h]
  exact ⟨e, by unfold symB; rw [e, part_hit h]⟩
theorem hit_all {t : List UInt8} (ps : List Nat) (h : t.all isL = true) : (hitL t ps).all isL = true := by
  induction ps generalizing t with
  | nil => exact h
  | cons p ps ih =>
    apply ih
    rw [List.all_eq_true]
    intro x hx
    rcases List.mem_or_eq_of_mem_set hx with hx | hx
    · exact List.all_eq_true.1 h x hx
    · subst hx; decide
theorem read_hit {X : List UInt8} (hl : X.length ≤ 66) (hs : ∀ s ∈ X, s.toNat < 64) (ps : List Nat) : ∃ S E, readB (hitL (X.flatMap w3) ps) = (S, E, 0) ∧ S.length = X.length ∧ (∀ k s, X[k]? = some s → (hk ps k = true → S[k]? = some 0) ∧ (hk ps k = false → S[k]? = some s)) ∧ E = (List.range X.length).filter (hk ps) := by
  have hlen := w3s_len X
  have h3 := hitL_len ps (X.flatMap w3)
  refine ⟨_, _, read_ok (err_0 (by rw [h3]; omega) (hit_all ps (w3s_all X))) (by rw [h3, hlen]; omega), by rw [syms_len, h3, hlen]; omega, ?_, ?_⟩
  · intro k s hks
    have hk' := (List.getElem?_eq_some_iff.1 hks).1
    have e : ∀ h, (symsL (hitL (X.flatMap w3) ps) ((hitL (X.flatMap w3) ps).length / 3))[k]? = some h ↔ symB (hitL (X.flatMap w3) ps) k = h := fun h => by
      unfold symsL
      rw [List.getElem?_map, List.getElem?_range (by rw [h3, hlen]; omega), Option.map_some, Option.some.injEq]
    refine ⟨fun h => (e _).2 (hit_yes h (by omega)).2, fun h => (e _).2 ?_⟩
    rw [(hit_no h).2]
    exact (read_w3 hks (hs _ (List.mem_of_getElem? hks))).2
  · unfold erasL
    rw [h3, hlen, show 3 * X.length / 3 = X.length by omega]
    apply List.filter_congr
    intro k hk'
    have hk' := List.mem_range.1 hk'
    cases h : hk ps k with
    | true => exact (hit_yes h (by omega)).1
    | false =>
      have hq := List.getElem?_eq_getElem hk'
      rw [(hit_no h).1]; exact (read_w3 hq (hs _ (List.getElem_mem hk'))).1
/-- The places told, one after the other. -/
theorem told_len (p : Nat → Bool) (i : Nat) : ((List.range (i + 1)).filter p).length = ((List.range i).filter p).length + if p i then 1 else 0 := by
  rw [List.range_succ, List.filter_append, List.length_append]
  cases h : p i <;> simp [h]
theorem told_at (p : Nat → Bool) {i n : Nat} (hi : i < n) (h : p i = true) : ((List.range n).filter p)[((List.range i).filter p).length]? = some i := by
  induction n with
  | zero => omega
  | succ n ih =>
    rw [List.range_succ, List.filter_append]
    by_cases hn : i = n
    · subst hn
      rw [List.getElem?_append_right (Nat.le_refl _), Nat.sub_self]
      simp [h]
    · have := ih (by omega)
      rw [List.getElem?_append_left (List.getElem?_eq_some_iff.1 this).1]; exact this
/-- Lists of symbols that differ have different texts. -/
theorem w3s_inj {X Y : List UInt8} (hX : X.length ≤ 66) (hY : Y.length ≤ 66) (hx : ∀ s ∈ X, s.toNat < 64) (hy : ∀ s ∈ Y, s.toNat < 64) : (X.flatMap w3 = Y.flatMap w3) ↔ X = Y := by
  constructor
  · intro h
    have h1 := (read_write hX hx).2
    rw [h, (read_write hY hy).2] at h1
    exact (congrArg Prod.fst h1).symm
  · rintro rfl; rfl
end Go.Proofs.Ytgafkbnlhlbmkaa
