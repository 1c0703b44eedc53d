/- Plain: what Decode finds is the code word within the bound. -/
import Derived.Test.YtjhgihgggofocaaSO
namespace Go.Proofs.Ytjhgihgggofocaa
open Go.RowKit
theorem mem_sing {er P : List Nat} {n : Nat} (h : P ∈ singL er n) : ∃ a, a < n ∧ a ∉ er ∧ P = er ++ [a] := by
  unfold singL at h
  obtain ⟨a, ha, rfl⟩ := List.mem_map.1 h
  obtain ⟨h1, h2⟩ := List.mem_filter.1 ha
  exact ⟨a, List.mem_range.1 h1, of_decide_eq_true h2, rfl⟩
theorem sing_mem {er : List Nat} {a n : Nat} (h : a < n) (hn : a ∉ er) : er ++ [a] ∈ singL er n := by
  unfold singL
  exact List.mem_map.2 ⟨a, List.mem_filter.2 ⟨List.mem_range.2 h, decide_eq_true hn⟩, rfl⟩
theorem mem_pair {P : List Nat} {n : Nat} (h : P ∈ (List.range n).flatMap (rowP n)) : ∃ a b, a < b ∧ b < n ∧ P = [a, b] := by
  obtain ⟨a, ha, h⟩ := List.mem_flatMap.1 h
  unfold rowP at h
  obtain ⟨b, hb, rfl⟩ := List.mem_map.1 h
  obtain ⟨k, hk⟩ := List.mem_iff_getElem?.1 hb
  rw [List.getElem?_drop] at hk
  obtain ⟨h1, h2⟩ := List.getElem?_eq_some_iff.1 hk
  rw [List.getElem_range] at h2
  rw [List.length_range] at h1
  exact ⟨a, b, by omega, by omega, rfl⟩
theorem pair_mem {a b n : Nat} (hab : a < b) (hb : b < n) : [a, b] ∈ (List.range n).flatMap (rowP n) := by
  refine List.mem_flatMap.2 ⟨a, List.mem_range.2 (by omega), ?_⟩
  unfold rowP
  refine List.mem_map.2 ⟨b, List.mem_iff_getElem?.2 ⟨b - (a + 1), ?_⟩, rfl⟩
  rw [List.getElem?_drop, show a + 1 + (b - (a + 1)) = b by omega, List.getElem?_range hb]
theorem mem_cand {P er : List Nat} {n : Nat} (h : P ∈ candL n er) : P = er ∨ (er.length ≤ 2 ∧ ∃ a, a < n ∧ a ∉ er ∧ P = er ++ [a]) ∨ (er = [] ∧ ∃ a b, a < b ∧ b < n ∧ P = [a, b]) := by
  unfold candL at h
  rcases List.mem_append.1 h with h | h
  · rcases List.mem_append.1 h with h | h
    · exact .inl (List.mem_singleton.1 h)
    · split at h
      · rename_i h2; exact .inr (.inl ⟨h2, mem_sing h⟩)
      · cases h
  · split at h
    · rename_i h2; exact .inr (.inr ⟨List.eq_nil_of_length_eq_zero h2, mem_pair h⟩)
    · cases h
theorem cand_nodup {P er : List Nat} {n : Nat} (h : P ∈ candL n er) (hd : er.Nodup) : P.Nodup := by
  rcases mem_cand h with rfl | ⟨_, a, _, ha, rfl⟩ | ⟨_, a, b, hab, _, rfl⟩
  · exact hd
  · refine List.nodup_append.2 ⟨hd, by simp, fun x hx y hy => ?_⟩
    rw [List.mem_singleton.1 hy]; rintro rfl; exact ha hx
  · simp; omega
/-- The places, but for erased ones, at which d is not what was read. -/
def diffs (l d er : List Nat) : List Nat := (List.range l.length).filter fun i => decide (i ∉ er ∧ cf d i ≠ cf l i)
theorem mem_diffs {l d er : List Nat} {i : Nat} : i ∈ diffs l d er ↔ i < l.length ∧ i ∉ er ∧ cf d i ≠ cf l i := by
  unfold diffs
  rw [List.mem_filter, List.mem_range, decide_eq_true_eq]
theorem diffs_lt (l d er : List Nat) : (diffs l d er).Pairwise (· < ·) := List.Pairwise.filter _ List.pairwise_lt_range
theorem same_sorted {p q : List Nat} (hp : p.Pairwise (· < ·)) (hq : q.Pairwise (· < ·)) (h : ∀ i, i ∈ p ↔ i ∈ q) : p = q := by
  induction p generalizing q with
  | nil =>
    cases q with
    | nil => rfl
    | cons b q => exact absurd ((h b).2 (by simp)) (by simp)
  | cons a p ih =>
    cases q with
    | nil => exact absurd ((h a).1 (by simp)) (by simp)
    | cons b q =>
      obtain ⟨p1, p2⟩ := List.pairwise_cons.1 hp
      obtain ⟨q1, q2⟩ := List.pairwise_cons.1 hq
      have hab : a = b := by
        rcases List.mem_cons.1 ((h a).1 (by simp)) with e | e
        · exact e
        · rcases List.mem_cons.1 ((h b).2 (by simp)) with e2 | e2
          · exact e2.symm
          · have := q1 a e; have := p1 b e2; omega
      subst hab
      rw [ih p2 q2 fun i => ?_]
      have hi := h i
      simp only [List.mem_cons] at hi
      constructor
      · intro hm
        rcases hi.1 (.inr hm) with e | e
        · have := p1 i hm; omega
        · exact e
      · intro hm
        rcases hi.2 (.inr hm) with e | e
        · have := q1 i hm; omega
        · exact e
theorem free_eq {P er : List Nat} (h : ∀ a ∈ P, a ∉ er) : freeL (er ++ P) er = P := by
  unfold freeL
  rw [List.filter_append, List.filter_eq_nil_iff.2 (fun a ha => by simpa using ha), List.filter_eq_self.2 (fun a ha => by simpa using h a ha), List.nil_append]
theorem ahead_pre {α : Type} {A B pre rest : List α} {P : α} (h : A ++ B = pre ++ P :: rest) (hP : P ∉ A) : ∃ t, pre = A ++ t := by
  rcases List.append_eq_append_iff.1 h with ⟨t, h1, _⟩ | ⟨t, h1, h2⟩
  · exact ⟨t, h1⟩
  · cases t with
    | nil => exact ⟨[], by rw [h1]; simp⟩
    | cons x t =>
      injection h2 with h2 _
      exact absurd (by rw [h1, h2]; simp) hP
/-- Where a code word lies within the bound, it is found, and its errors are told. -/
theorem found_is {l er d c es : List Nat} {e : Int} (hl : El l) (hn : l.length ≤ 63) (hed : er.Nodup) (her : ∀ a ∈ er, a < l.length) (h4 : er.length ≤ 4) (hd : Code_ l.length d) (hb : 2 * (diffs l d er).length + er.length ≤ 4) (hf : Found l er e c es) : e = 0 ∧ c = d ∧ es = diffs l d er := by
  obtain ⟨D, hD⟩ : ∃ D, D = diffs l d er := ⟨_, rfl⟩
  have hDm : ∀ i, i ∈ D ↔ i < l.length ∧ i ∉ er ∧ cf d i ≠ cf l i := fun i => by rw [hD]; exact mem_diffs
  have hDs : D.Pairwise (· < ·) := by rw [hD]; exact diffs_lt _ _ _
  rw [← hD] at hb ⊢
  have hfar : ∀ i, i ∉ er ++ D → cf d i = cf l i := fun i hi => by
    rcases Nat.lt_or_ge i l.length with h | h
    · rcases Decidable.em (cf d i = cf l i) with h2 | h2
      · exact h2
      · exact absurd (List.mem_append.2 (.inr ((hDm i).2 ⟨h, fun h3 => hi (List.mem_append.2 (.inl h3)), h2⟩))) hi
    · rw [cf_none (by rw [hd.len]; exact h), cf_none h]
  have hPm : er ++ D ∈ candL l.length er := by
    unfold candL
    match D, hDm, hDs, hb with
    | [], _, _, _ => simp
    | [a], hm, _, hb =>
      obtain ⟨h1, h2, _⟩ := (hm a).1 (by simp)
      rw [if_pos (by simp only [List.length_singleton] at hb; omega)]
      exact List.mem_append.2 (.inl (List.mem_append.2 (.inr (sing_mem h1 h2))))
    | [a, b], hm, hs, hb =>
      have h0 : er = [] := List.eq_nil_of_length_eq_zero (by simp only [List.length_cons, List.length_nil] at hb; omega)
      obtain ⟨h1, _⟩ := (hm b).1 (by simp)
      have hab : a < b := by simpa using hs
      subst h0
      exact List.mem_append.2 (.inr (pair_mem hab h1))
    | a :: b :: c :: D, _, _, hb => simp only [List.length_cons] at hb; omega
  have info : ∀ P, P ∈ candL l.length er → P.Nodup ∧ P.length ≤ 4 ∧ ∀ p ∈ P, p < l.length := fun P hP => ⟨cand_nodup hP hed, cand_in hP h4 her⟩
  have hno : ∀ P, P ∈ candL l.length er → NoF l P → P ≠ er ++ D := fun P hP hN e => by
    obtain ⟨i1, i2, i3⟩ := info P hP
    subst e
    exact nof_no hl hn i1 i2 i3 hN hd hfar
  rcases hf with ⟨h, _⟩ | ⟨pre, P, rest, hc, hpre, hy, rfl, rfl⟩
  · exact absurd rfl (hno _ hPm (h _ hPm))
  have hPc : P ∈ candL l.length er := by rw [hc]; simp
  obtain ⟨i1, i2, i3⟩ := info P hPc
  obtain ⟨hcc, hco⟩ := yes_code hl i1 i2 i3 hy
  have hnp : er ++ D ∉ pre := fun h => hno _ hPm (hpre _ h) rfl
  -- the two lists of places together
  have hU : ∃ U : List Nat, U.Nodup ∧ U.length ≤ 4 ∧ (∀ p ∈ U, p < l.length) ∧ ∀ i, i ∉ U → i ∉ P ∧ i ∉ er ++ D := by
    refine ⟨P ++ D.filter (fun i => decide (i ∉ P)), ?_, ?_, fun p hp => ?_, fun i hi => ⟨fun h => hi (List.mem_append.2 (.inl h)), fun h => ?_⟩⟩
    · refine List.nodup_append.2 ⟨i1, (List.Pairwise.imp (fun h => Nat.ne_of_lt h) hDs).filter _, fun x hx y hy => ?_⟩
      rintro rfl
      exact of_decide_eq_true (List.mem_filter.1 hy).2 hx
    · have hfl := List.length_filter_le (fun i => decide (i ∉ P)) D
      rw [List.length_append]
      rcases mem_cand hPc with rfl | ⟨h2, a, _, _, rfl⟩ | ⟨rfl, a, b, _, _, rfl⟩
      · omega
      · simp only [List.length_append, List.length_singleton] at i2 ⊢; omega
      · simp only [List.length_cons, List.length_nil] at hb i2 ⊢; omega
    · rcases List.mem_append.1 hp with h | h
      · exact i3 p h
      · exact ((hDm p).1 (List.mem_filter.1 h).1).1
    · rcases List.mem_append.1 h with h | h
      · refine hi (List.mem_append.2 (.inl ?_))
        rcases mem_cand hPc with rfl | ⟨_, a, _, _, rfl⟩ | ⟨rfl, _⟩
        · exact h
        · exact List.mem_append.2 (.inl h)
        · cases h
      · rcases Decidable.em (i ∈ P) with h2 | h2
        · exact hi (List.mem_append.2 (.inl h2))
        · exact hi (List.mem_append.2 (.inr (List.mem_filter.2 ⟨h, decide_eq_true h2⟩)))
  obtain ⟨U, u1, u2, u3, u4⟩ := hU
  have hcd : c = d := code_uniq hn hcc hd u1 u2 u3 fun i hi => by rw [hco i (u4 i hi).1, hfar i (u4 i hi).2]
  subst hcd
  have hDP : ∀ i, i ∈ D → i ∈ P := fun i hi => by
    rcases Decidable.em (i ∈ P) with h | h
    · exact h
    · exact absurd (hco i h) ((hDm i).1 hi).2.2
  refine ⟨rfl, rfl, ?_⟩
  have hDer : ∀ a ∈ D, a ∉ er := fun a ha => ((hDm a).1 ha).2.1
  have hPD : P = er ++ D := by
    rcases mem_cand hPc with rfl | ⟨h2, a, _, ha, rfl⟩ | ⟨rfl, a, b, hab, hbn, rfl⟩
    · have : D = [] := List.eq_nil_iff_forall_not_mem.2 fun i hi => hDer i hi (hDP i hi)
      rw [this, List.append_nil]
    · have hDa : ∀ i ∈ D, i = a := fun i hi => by
        rcases List.mem_append.1 (hDP i hi) with h | h
        · exact absurd h (hDer i hi)
        · exact List.mem_singleton.1 h
      match D, hDa, hDs, hnp with
      | [], _, _, hnp =>
        exfalso
        unfold candL at hc
        rw [List.append_assoc] at hc
        obtain ⟨t, ht⟩ := ahead_pre hc (by simp)
        exact hnp (by rw [ht]; simp)
      | [x], hDa, _, _ => rw [hDa x (by simp)]
      | x :: y :: D, hDa, hs, _ =>
        have h1 := hDa x (by simp); have h3 := hDa y (by simp)
        have := (List.pairwise_cons.1 hs).1 y (by simp)
        omega
    · have hDa : ∀ i ∈ D, i = a ∨ i = b := fun i hi => by simpa using hDP i hi
      unfold candL at hc
      rw [if_pos (show ([] : List Nat).length ≤ 2 by decide), if_pos (show ([] : List Nat).length = 0 from rfl)] at hc
      obtain ⟨t, ht⟩ := ahead_pre hc (fun h => by
        rcases List.mem_append.1 h with h | h
        · simp at h
        · obtain ⟨z, _, _, e⟩ := mem_sing h; simp at e)
      match D, hDa, hDs, hnp, hDm with
      | [], _, _, hnp, _ => exact absurd (by rw [ht]; simp) hnp
      | [x], _, _, hnp, hDm =>
        obtain ⟨x1, x2, _⟩ := (hDm x).1 (by simp)
        exact absurd (by rw [ht]; exact List.mem_append.2 (.inl (List.mem_append.2 (.inr (sing_mem x1 x2))))) hnp
      | [x, y], hDa, hs, _, _ =>
        have hxy : x < y := by simpa using hs
        have h1 := hDa x (by simp); have h3 := hDa y (by simp)
        have e1 : x = a := by omega
        have e2 : y = b := by omega
        rw [e1, e2]; rfl
      | x :: y :: z :: D, hDa, hs, _, _ =>
        obtain ⟨p1, p2⟩ := List.pairwise_cons.1 hs
        have := p1 y (by simp); have := (List.pairwise_cons.1 p2).1 z (by simp)
        have h1 := hDa x (by simp); have h3 := hDa y (by simp); have h5 := hDa z (by simp)
        omega
  rw [hPD, free_eq hDer]
end Go.Proofs.Ytjhgihgggofocaa
