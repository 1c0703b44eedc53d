/- Chapter 21, plain: what is drawn is read. -/
import Derived.Test.YtnecppiamecemaaHQ
namespace Go.Proofs.Ytnecppiamecemaa

theorem plc_mid (s : Su) (b : Br) (k : Int) (hs : Okay s) (h0 : 0 ≤ k) (h1 : k < s.pl) (hp : s.og + k * s.pi - s.sl ≤ b.po) (hq : b.po ≤ s.og + k * s.pi + s.sl) : plc s b = some k :=
  (stand_iff s b k hs h0 h1).1 ⟨hq, hp⟩
theorem mkb_plc (s : Su) (c : UInt8) (j : Nat) (hs : Okay s) (hj : (j : Int) < s.pl) : plc s (mkb s c j) = some (j : Int) := by
  have := hs.2.2.2.2.2.2.1
  exact plc_mid s _ j hs (by omega) hj (by unfold mkb; simp only; omega) (by unfold mkb; simp only; omega)
theorem mkb_in (s : Su) (c : UInt8) (j : Nat) (hs : Okay s) (hj : (j : Int) < s.pl) : InB (mkb s c j) := by
  obtain ⟨a1, a2, a3, a4, a5, a6, a7, a8, a9, a10, a11⟩ := id hs
  have := kpi s j hs (by omega) (by omega)
  unfold InB mkb
  simp only
  refine ⟨by omega, by omega, ?_, ?_, ?_, ?_⟩ <;> split <;> omega
theorem mkb_letter (s : Su) (c : UInt8) (j : Nat) (hs : Okay s) (hc : okLetter c = true) (hq : c ≠ 63) : letter s (mkb s c j) = c := by
  have h := hs.2.2.2.2.2.2.2.2.2.1
  unfold okLetter at hc
  simp only [Bool.or_eq_true, beq_iff_eq] at hc
  unfold letter mkb
  rcases hc with (((rfl | rfl) | rfl) | rfl) | rfl
  · simp [show ¬ s.lo ≥ s.hi by omega, show ¬ s.lo > s.lo by omega]
  · simp [show ¬ s.lo ≥ s.hi by omega, show s.hi > s.lo by omega]
  · simp [show ¬ s.lo ≥ s.hi by omega, show s.hi > s.lo by omega]
  · simp [show s.hi > s.lo by omega]
  · exact absurd rfl hq
theorem mem_draw (s : Su) (b : Br) : ∀ (t : List UInt8) (k : Nat), b ∈ drawL s t k ↔ ∃ j c, t[j]? = some c ∧ c ≠ 63 ∧ b = mkb s c (k + j)
  | [], k => by simp [drawL]
  | x :: t, k => by
    rw [drawL, List.mem_append, mem_draw s b t (k + 1)]
    constructor
    · rintro (h | ⟨j, c, h1, h2, h3⟩)
      · split at h
        · cases h
        · rename_i hx
          simp at h
          exact ⟨0, x, rfl, hx, h⟩
      · exact ⟨j + 1, c, by simpa using h1, h2, by rw [h3]; congr 1; omega⟩
    · rintro ⟨j, c, h1, h2, h3⟩
      cases j with
      | zero =>
        simp only [List.getElem?_cons_zero, Option.some.injEq] at h1
        subst h1
        exact .inl (by rw [if_neg h2]; simp [h3])
      | succ j => exact .inr ⟨j, c, by simpa using h1, h2, by rw [h3]; congr 1; omega⟩
/-- A letter by the one bar that stands at its place. -/
theorem letterAt_mem (s : Su) (l : List Br) (b : Br) (k : Nat) (hf : Fit s l) (hb : b ∈ l) (hk : plc s b = some (k : Int)) : letterAt s l k = letter s b := by
  obtain ⟨i, hi⟩ := List.mem_iff_getElem?.1 hb
  have h1 := letterAt_hit s l i k b hf hi hk
  have : ∀ m, i + 1 + m ≤ l.length → letterAt s (l.take (i + 1 + m)) k = letter s b := by
    intro m
    induction m with
    | zero => exact fun _ => h1
    | succ m ih =>
      intro hm
      have hg : l[i + 1 + m]? = some (l[i + 1 + m]'(by omega)) := List.getElem?_eq_getElem _
      rw [show i + 1 + (m + 1) = i + 1 + m + 1 from by omega, letterAt_miss s l (i + 1 + m) k _ hg ?_]
      · exact ih (by omega)
      · intro e
        exact not_fit s l (i + 1 + m) i _ b hg hi (by omega) (by rw [e, hk]) hf
  have hlt : i < l.length := (List.getElem?_eq_some_iff.1 hi).1
  have h2 := this (l.length - (i + 1)) (by omega)
  rwa [List.take_of_length_le (by omega)] at h2
theorem letterAt_none (s : Su) (l : List Br) (k : Nat) (h : ∀ b ∈ l, plc s b ≠ some (k : Int)) : letterAt s l k = 63 := by
  unfold letterAt
  have : (l.find? fun b => plc s b == some (k : Int)) = none := by
    rw [List.find?_eq_none]; intro b hb; simpa using h b hb
  rw [this]
/-- A row of bars made of a text: at most one for each place. -/
theorem fit_draw (s : Su) (hs : Okay s) : ∀ (t : List UInt8) (k : Nat), ((k + t.length : Nat) : Int) ≤ s.pl → Fit s (drawL s t k) ∧ ∀ b ∈ drawL s t k, ∃ j : Nat, plc s b = some (j : Int) ∧ k ≤ j
  | [], _, _ => ⟨fit_nil s, fun b h => by simp [drawL] at h⟩
  | x :: t, k, hk => by
    rw [List.length_cons] at hk
    obtain ⟨⟨h1, h2⟩, h3⟩ := fit_draw s hs t (k + 1) (by rw [show k + 1 + t.length = k + (t.length + 1) from by omega]; exact hk)
    rw [drawL]
    split
    · exact ⟨⟨h1, h2⟩, fun b hb => by obtain ⟨j, e1, e2⟩ := h3 b hb; exact ⟨j, e1, by omega⟩⟩
    · have hp := mkb_plc s x k hs (by omega)
      refine ⟨⟨fun b hb => ?_, ?_⟩, fun b hb => ?_⟩
      · rcases List.mem_cons.1 hb with rfl | hb
        · rw [hp]; rfl
        · exact h1 b hb
      · simp only [List.singleton_append, List.map_cons, List.nodup_cons]
        refine ⟨fun hm => ?_, h2⟩
        obtain ⟨b, hb, he⟩ := List.mem_map.1 hm
        obtain ⟨j, e1, e2⟩ := h3 b hb
        rw [hp, e1] at he
        injection he with he
        omega
      · rcases List.mem_cons.1 hb with rfl | hb
        · exact ⟨k, hp, Nat.le_refl _⟩
        · obtain ⟨j, e1, e2⟩ := h3 b hb; exact ⟨j, e1, by omega⟩
end Go.Proofs.Ytnecppiamecemaa
