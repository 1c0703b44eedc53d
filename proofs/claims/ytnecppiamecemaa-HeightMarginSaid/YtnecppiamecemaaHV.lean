/- Chapter 21, plain: bars that read as a text; one bar taken away, doubled, moved, put between. -/
import Derived.Test.YtnecppiamecemaaHU
namespace Go.Proofs.Ytnecppiamecemaa

/-- These bars read as this text. -/
structure Reads (s : Su) (l : List Br) (t : List UInt8) : Prop where
  tl : (t.length : Int) = s.pl
  ll : l.length ≤ 400
  inb : ∀ b ∈ l, InB b
  fit : Fit s l
  has : ∀ b ∈ l, ∃ (j : Nat) (c : UInt8), plc s b = some (j : Int) ∧ t[j]? = some c ∧ letter s b = c
  all : ∀ (j : Nat) (c : UInt8), t[j]? = some c → c ≠ 63 → ∃ b ∈ l, plc s b = some (j : Int)
theorem Reads.err {s : Su} {l : List Br} {t : List UInt8} (h : Reads s l t) (hs : Okay s) : errOf s l = 0 := (err0_iff s l).2 ⟨h.ll, hs, h.inb, h.fit⟩
theorem Reads.text {s : Su} {l : List Br} {t : List UInt8} (h : Reads s l t) : textOf s l = t := by
  have hn : s.pl.toNat = t.length := by have := h.tl; omega
  apply List.ext_getElem?
  intro j
  unfold textOf
  rw [hn, List.getElem?_map]
  by_cases hj : j < t.length
  · rw [List.getElem?_range hj, List.getElem?_eq_getElem hj, Option.map_some]
    congr 1
    have hg := List.getElem?_eq_getElem hj
    by_cases hb : ∃ b ∈ l, plc s b = some (j : Int)
    · obtain ⟨b, h1, h2⟩ := hb
      rw [letterAt_mem s l b j h.fit h1 h2]
      obtain ⟨j', c, e1, e2, e3⟩ := h.has b h1
      rw [h2] at e1
      injection e1 with e1
      have : j' = j := by omega
      subst this
      rw [hg] at e2
      injection e2 with e2
      rw [e3, e2]
    · rw [letterAt_none s l j fun b hb' e => hb ⟨b, hb', e⟩]
      by_cases hc : t[j] = 63
      · exact hc.symm
      · exact absurd (h.all j _ hg hc) hb
  · rw [List.getElem?_eq_none (by simpa using hj), List.getElem?_eq_none (by omega)]; rfl
theorem Reads.read {s : Su} {l : List Br} {t : List UInt8} (h : Reads s l t) (hs : Okay s) : readOf s l = t := by
  unfold readOf; rw [if_pos (h.err hs), h.text]
theorem draw_reads (s : Su) (t : List UInt8) (hs : Okay s) (ht : (t.length : Int) = s.pl) (hok : t.all okLetter = true) : Reads s (drawL s t 0) t := by
  refine ⟨ht, ?_, fun b hb => ?_, (fit_draw s hs t 0 (by rw [Nat.zero_add]; omega)).1, fun b hb => ?_, fun j c hj hc => ?_⟩
  · have := drawL_len s t 0; have := hs.2.1; omega
  · obtain ⟨j, c, h1, h2, rfl⟩ := (mem_draw s b t 0).1 hb
    rw [Nat.zero_add]
    exact mkb_in s c j hs (by have := (List.getElem?_eq_some_iff.1 h1).1; omega)
  · obtain ⟨j, c, h1, h2, rfl⟩ := (mem_draw s b t 0).1 hb
    rw [Nat.zero_add]
    exact ⟨j, c, mkb_plc s c j hs (by have := (List.getElem?_eq_some_iff.1 h1).1; omega), h1, mkb_letter s c j hs ((List.all_eq_true.1 hok) c (List.mem_of_getElem? h1)) h2⟩
  · exact ⟨mkb s c (0 + j), (mem_draw s _ t 0).2 ⟨j, c, hj, hc, rfl⟩, by rw [Nat.zero_add]; exact mkb_plc s c j hs (by have := (List.getElem?_eq_some_iff.1 hj).1; omega)⟩
theorem err210 (s : Su) (l : List Br) (hs : Okay s) (hl : l.length ≤ 400) (hin : ∀ b ∈ l, InB b) (hf : ¬ Fit s l) : errOf s l = 210 := by
  unfold errOf
  rw [if_neg (by omega), if_neg (by simpa using hs), if_neg (by simpa using hin)]
  exact if_neg hf
/-- A bar taken away. -/
def less (l : List Br) (k : Nat) : List Br := l.take k ++ l.drop (k + 1)
theorem less_sub (l : List Br) (k : Nat) : (less l k).Sublist l := by
  have h : (l.drop (k + 1)).Sublist (l.drop k) := by rw [← List.drop_drop]; exact List.drop_sublist _ _
  have := (List.Sublist.refl (l.take k)).append h
  rwa [List.take_append_drop] at this
theorem Fit.sub {s : Su} {l m : List Br} (h : Fit s m) (hl : l.Sublist m) : Fit s l := ⟨fun b hb => h.1 b (hl.subset hb), h.2.sublist (hl.map _)⟩
theorem less_mem (l : List Br) (k : Nat) (b : Br) (hb : l[k]? = some b) (x : Br) (hx : x ∈ l) : x = b ∨ x ∈ less l k := by
  obtain ⟨i, hi⟩ := List.mem_iff_getElem?.1 hx
  unfold less
  rw [List.mem_append]
  rcases Nat.lt_trichotomy i k with h | h | h
  · refine .inr (.inl (List.mem_iff_getElem?.2 ⟨i, ?_⟩)); rw [List.getElem?_take, if_pos h, hi]
  · subst h; rw [hb] at hi; injection hi with hi; exact .inl hi.symm
  · refine .inr (.inr (List.mem_iff_getElem?.2 ⟨i - (k + 1), ?_⟩)); rw [List.getElem?_drop, show k + 1 + (i - (k + 1)) = i from by omega, hi]
theorem less_not (s : Su) (l : List Br) (k : Nat) (b : Br) (hf : Fit s l) (hb : l[k]? = some b) : ∀ x ∈ less l k, plc s x ≠ plc s b := by
  intro x hx e
  unfold less at hx
  rcases List.mem_append.1 hx with h | h
  · obtain ⟨i, hi⟩ := List.mem_iff_getElem?.1 h
    rw [List.getElem?_take] at hi
    split at hi
    · exact not_fit s l k i b x hb hi (by assumption) e.symm hf
    · cases hi
  · obtain ⟨i, hi⟩ := List.mem_iff_getElem?.1 h
    rw [List.getElem?_drop] at hi
    exact not_fit s l (k + 1 + i) k x b hi hb (by omega) e hf
theorem less_reads (s : Su) (l : List Br) (t : List UInt8) (k j : Nat) (b : Br) (h : Reads s l t) (hb : l[k]? = some b) (hj : plc s b = some (j : Int)) : Reads s (less l k) (t.set j 63) := by
  have hsub := less_sub l k
  refine ⟨by rw [List.length_set]; exact h.tl, Nat.le_trans hsub.length_le h.ll, fun x hx => h.inb x (hsub.subset hx), h.fit.sub hsub, fun x hx => ?_, fun i c hi hc => ?_⟩
  · obtain ⟨i, c, e1, e2, e3⟩ := h.has x (hsub.subset hx)
    refine ⟨i, c, e1, ?_, e3⟩
    have hne : j ≠ i := fun e => less_not s l k b h.fit hb x hx (by rw [e1, hj, e])
    rw [List.getElem?_set_ne hne, e2]
  · have hne : j ≠ i := by
      rintro rfl
      rw [List.getElem?_set_self (by have := (List.getElem?_eq_some_iff.1 hi).1; simpa using this)] at hi
      injection hi with hi
      exact hc hi.symm
    rw [List.getElem?_set_ne hne] at hi
    obtain ⟨x, hx, e⟩ := h.all i c hi hc
    rcases less_mem l k b hb x hx with rfl | hm
    · rw [hj] at e; injection e with e; omega
    · exact ⟨x, hm, e⟩
/-- One bar more. -/
theorem snoc_reads (s : Su) (l : List Br) (t : List UInt8) (j : Nat) (b : Br) (c : UInt8) (h : Reads s l t) (hl : l.length < 400) (hb : InB b) (hj : plc s b = some (j : Int)) (ht : t[j]? = some 63) (hc : letter s b = c) (hex : ¬ ∃ x ∈ l, plc s x = some (j : Int)) : Reads s (l ++ [b]) (t.set j c) := by
  have hjl : j < t.length := (List.getElem?_eq_some_iff.1 ht).1
  · refine ⟨by rw [List.length_set]; exact h.tl, by rw [List.length_append, List.length_singleton]; omega, fun x hx => ?_, (fit_snoc s l b).2 ⟨h.fit, by rw [hj]; rfl, fun x hx e => hex ⟨x, hx, by rw [e, hj]⟩⟩, fun x hx => ?_, fun i c' hi hc' => ?_⟩
    · rcases List.mem_append.1 hx with hx | hx
      · exact h.inb x hx
      · simp at hx; subst hx; exact hb
    · rcases List.mem_append.1 hx with hx | hx
      · obtain ⟨i, c', e1, e2, e3⟩ := h.has x hx
        have hne : j ≠ i := fun e => hex ⟨x, hx, by rw [e1, e]⟩
        exact ⟨i, c', e1, by rw [List.getElem?_set_ne hne, e2], e3⟩
      · simp at hx; subst hx; exact ⟨j, c, hj, by rw [List.getElem?_set_self hjl], hc⟩
    · by_cases hne : j = i
      · subst hne; exact ⟨b, by simp, hj⟩
      · rw [List.getElem?_set_ne hne] at hi
        obtain ⟨x, hx, e⟩ := h.all i c' hi hc'
        exact ⟨x, by simp [hx], e⟩
end Go.Proofs.Ytnecppiamecemaa
