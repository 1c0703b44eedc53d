/- Chapter 05, plain: words that are the same; what holds of every row. -/
import Derived.Test.YtehlnkhbbnddmaaOR
import Derived.KernelRfl
namespace Go.Proofs.Ytehlnkhbbnddmaa
theorem once_mem (r : Rw) : ∀ (l : List Rw), r ∈ l → r.lo ∈ once l := by
  have keep : ∀ (l : List Rw) (out : List (List UInt8)) (x : List UInt8), x ∈ out → x ∈ l.foldl (fun out r => if r.lo ∈ out then out else out ++ [r.lo]) out := by
    intro l
    induction l with
    | nil => intro out x h; exact h
    | cons a l ih => intro out x h; rw [List.foldl_cons]; refine ih _ x ?_; split; exact h; exact List.mem_append_left _ h
  have key : ∀ (l : List Rw) (out : List (List UInt8)), r ∈ l → r.lo ∈ l.foldl (fun out r => if r.lo ∈ out then out else out ++ [r.lo]) out := by
    intro l
    induction l with
    | nil => intro out h; cases h
    | cons a l ih =>
      intro out h
      rw [List.foldl_cons]
      rcases List.mem_cons.1 h with rfl | h
      · refine keep l _ _ ?_
        split
        · assumption
        · exact List.mem_append_right _ (by simp)
      · exact ih _ h
  exact fun l h => key l [] h
theorem longs_mem {k : Nat} {s : List UInt8} {r : Rw} (h : r ∈ tab) (hh : hitL k s r = true) : r.lo ∈ longsR k s := once_mem r _ (List.mem_filter.2 ⟨h, hh⟩)
theorem same_refl (k : Nat) (a : List UInt8) : sameR k a a = true := by unfold sameR; simp
theorem same_comm (k : Nat) (a b : List UInt8) : sameR k b a = sameR k a b := by
  unfold sameR
  have e1 : decide (b = a) = decide (a = b) := decide_eq_decide.2 eq_comm
  have e2 : (longsR k b).any (fun x => decide (x ∈ longsR k a)) = (longsR k a).any (fun x => decide (x ∈ longsR k b)) := by
    rw [Bool.eq_iff_iff, List.any_eq_true, List.any_eq_true]
    constructor
    · rintro ⟨x, h1, h2⟩; exact ⟨x, of_decide_eq_true h2, decide_eq_true h1⟩
    · rintro ⟨x, h1, h2⟩; exact ⟨x, of_decide_eq_true h2, decide_eq_true h1⟩
  rw [e1, e2]
theorem longs_big {k : Nat} (h : 5 < k) (a : List UInt8) : longsR k a = [] := by
  have : tab.filter (hitL k a) = [] := by
    rw [List.filter_eq_nil_iff]
    intro r hr
    have := tab_k r hr
    unfold hitL
    simp only [decide_eq_true_eq]
    intro h2
    omega
  unfold longsR; rw [this]; rfl
theorem same_big {k : Nat} (h : 5 < k) (a b : List UInt8) : sameR k a b = decide (a = b) := by
  unfold sameR; rw [longs_big h]; simp
theorem same_mem {k : Nat} {a b x : List UInt8} (h1 : x ∈ longsR k a) (h2 : x ∈ longsR k b) : sameR k a b = true := by
  unfold sameR
  rw [Bool.or_eq_true, List.any_eq_true]
  exact .inr ⟨x, h1, decide_eq_true h2⟩
theorem short_cases (k : Nat) (a : List UInt8) : shortR k a = ([], false) ∨ ∃ x, shortR k a = (x, true) ∧ a ∈ longsR k x ∧ sameR k x a = true := by
  unfold shortR
  by_cases h : (firstR k a).k = 0
  · rw [if_pos h]; exact .inl rfl
  · rw [if_neg h]
    have h1 : ∃ r, tab.find? (hitS k a) = some r := by
      cases hf : tab.find? (hitS k a) with
      | none => exact absurd (show (firstR k a).k = 0 by unfold firstR; rw [hf]; rfl) h
      | some r => exact ⟨r, rfl⟩
    obtain ⟨r, hf⟩ := h1
    have hr := List.mem_of_find?_eq_some hf
    have hs := List.find?_some hf
    have e : firstR k a = r := by unfold firstR; rw [hf]; rfl
    rw [e]
    unfold hitS at hs
    obtain ⟨hk, hlo⟩ := of_decide_eq_true hs
    subst hlo
    have m1 : r.lo ∈ longsR k r.sh := longs_mem hr (decide_eq_true ⟨hk, .inr rfl⟩)
    have m2 : r.lo ∈ longsR k r.lo := longs_mem hr (decide_eq_true ⟨hk, .inl rfl⟩)
    exact .inr ⟨r.sh, rfl, m1, same_mem m1 m2⟩
/-- What holds of every row. -/
theorem row_all {r : Rw} (h : r ∈ tab) : r.lo ∈ longsR r.k r.sh ∧ r.lo ∈ longsR r.k r.lo ∧ r.lo ∈ longsR 0 r.sh ∧ sameR r.k r.lo r.sh = true ∧ sameR 0 r.sh r.lo = true := by
  have m1 : r.lo ∈ longsR r.k r.sh := longs_mem h (decide_eq_true ⟨.inr rfl, .inr rfl⟩)
  have m2 : r.lo ∈ longsR r.k r.lo := longs_mem h (decide_eq_true ⟨.inr rfl, .inl rfl⟩)
  have m3 : r.lo ∈ longsR 0 r.sh := longs_mem h (decide_eq_true ⟨.inl rfl, .inr rfl⟩)
  have m4 : r.lo ∈ longsR 0 r.lo := longs_mem h (decide_eq_true ⟨.inl rfl, .inl rfl⟩)
  exact ⟨m1, m2, m3, same_mem m2 m1, same_mem m3 m4⟩
def rowB (r : Rw) : Bool := (kindsR r.lo >>> r.k) % 2 == 1 && (kindsR r.sh >>> r.k) % 2 == 1 && decide (foldL r.lo = r.lo) && decide (foldL r.sh = r.sh) && decide (r.sh.length ≤ 20)
theorem row_kinds0 : tab.all rowB = true := by kernel_rfl
theorem row_kinds {r : Rw} (h : r ∈ tab) : (kindsR r.lo >>> r.k) % 2 = 1 ∧ (kindsR r.sh >>> r.k) % 2 = 1 ∧ foldL r.lo = r.lo ∧ foldL r.sh = r.sh ∧ r.sh.length ≤ 20 := by
  have := (List.all_eq_true.1 row_kinds0) r h
  unfold rowB at this
  simp only [Bool.and_eq_true, beq_iff_eq, decide_eq_true_eq] at this
  obtain ⟨⟨⟨⟨h1, h2⟩, h3⟩, h4⟩, h5⟩ := this
  exact ⟨h1, h2, h3, h4, h5⟩
theorem kinds64 (s : List UInt8) : kindsR s < 64 := kinds_lt tab s 0 (by omega) fun r hr => (tab_k r hr).2.1
end Go.Proofs.Ytehlnkhbbnddmaa
