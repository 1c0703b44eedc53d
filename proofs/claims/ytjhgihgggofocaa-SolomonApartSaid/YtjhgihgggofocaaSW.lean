/- What Decode returns is within the bound; the check of it. -/
import Derived.Test.YtjhgihgggofocaaSV
namespace Go.Proofs.Ytjhgihgggofocaa
open Go.RowKit
abbrev encT (b : Bool) : List Value := [.bool b]
theorem encT_len (b : Bool) : (encT b).length = 1 := rfl
def inB (n : Nat) (l : List Nat) : List Bool := (List.range n).map fun p => decide (p ∈ l)
theorem inB_len (n : Nat) (l : List Nat) : (inB n l).length = n := by simp [inB]
theorem inB_at {n : Nat} (l : List Nat) {p : Nat} (h : p < n) : (inB n l)[p]? = some (decide (p ∈ l)) := by unfold inB; rw [List.getElem?_map, List.getElem?_range h]; rfl
theorem inB_nil (n : Nat) : List.replicate n false = inB n [] := by
  apply List.ext_getElem?
  intro i
  rcases Nat.lt_or_ge i n with h | h
  · rw [inB_at _ h, List.getElem?_replicate_of_lt h]; simp
  · rw [List.getElem?_eq_none (by simpa using h), List.getElem?_eq_none (by rw [inB_len]; exact h)]
theorem inB_set (n : Nat) (l : List Nat) (p : Nat) : (inB n l).set p true = inB n (l ++ [p]) := by
  apply List.ext_getElem?
  intro i
  rcases Nat.lt_or_ge i n with h | h
  · rw [List.getElem?_set, inB_len, inB_at _ h, inB_at _ h]
    by_cases e : p = i
    · rw [if_pos e, if_pos (by omega), decide_eq_true (show i ∈ l ++ [p] by simp [e])]
    · rw [if_neg e]
      congr 1
      rw [decide_eq_decide]
      simp; omega
  · rw [List.getElem?_eq_none (by rw [List.length_set, inB_len]; exact h), List.getElem?_eq_none (by rw [inB_len]; exact h)]
theorem told_len (p : Nat → Bool) (i : Nat) : ((List.range (i + 1)).filter p).length = ((List.range i).filter p).length + if p i then 1 else 0 := by
  rw [List.range_succ, List.filter_append, List.length_append]
  cases h : p i <;> simp [h]
theorem told_at (p : Nat → Bool) {i n : Nat} (hi : i < n) (h : p i = true) : ((List.range n).filter p)[((List.range i).filter p).length]? = some i := by
  induction n with
  | zero => omega
  | succ n ih =>
    rw [List.range_succ, List.filter_append]
    by_cases hn : i = n
    · subst hn
      rw [List.getElem?_append_right (Nat.le_refl _), Nat.sub_self]
      simp [h]
    · have := ih (by omega)
      rw [List.getElem?_append_left (List.getElem?_eq_some_iff.1 this).1]; exact this
def dif (g c er : List Nat) (i : Nat) : Bool := decide (i ∉ er ∧ cf c i ≠ cf g i)
theorem diffs_dif (g c er : List Nat) : diffs g c er = (List.range g.length).filter (dif g c er) := rfl
theorem diffs_self (g er : List Nat) : diffs g g er = [] := by
  unfold diffs
  rw [List.filter_eq_nil_iff]
  intro i _
  simp
/-- What is within the bound of what was read. -/
structure Near (l er c es : List Nat) : Prop where
  code : Code_ l.length c
  told : es = diffs l c er
  bound : 2 * es.length + er.length ≤ 4
theorem sorted_one {D : List Nat} {a : Nat} (hs : D.Pairwise (· < ·)) (h : ∀ i ∈ D, i = a) : D.length ≤ 1 := by
  match D, hs, h with
  | [], _, _ => simp
  | [x], _, _ => simp
  | x :: y :: D, hs, h =>
    have h1 := h x (by simp); have h2 := h y (by simp)
    have := (List.pairwise_cons.1 hs).1 y (by simp)
    omega
theorem sorted_two {D : List Nat} {a b : Nat} (hs : D.Pairwise (· < ·)) (h : ∀ i ∈ D, i = a ∨ i = b) : D.length ≤ 2 := by
  match D, hs, h with
  | [], _, _ => simp
  | [x], _, _ => simp
  | [x, y], _, _ => simp
  | x :: y :: z :: D, hs, h =>
    obtain ⟨p1, p2⟩ := List.pairwise_cons.1 hs
    have := p1 y (by simp); have := (List.pairwise_cons.1 p2).1 z (by simp); have := p1 z (by simp)
    have h1 := h x (by simp); have h3 := h y (by simp); have h5 := h z (by simp)
    omega
theorem found_cases {l er c es : List Nat} {e : Int} (hl : El l) (hn : l.length ≤ 63) (hed : er.Nodup) (her : ∀ a ∈ er, a < l.length) (h4 : er.length ≤ 4) (hf : Found l er e c es) :
    (e = 190 ∧ c = [] ∧ es = [] ∧ ∀ d, Code_ l.length d → ¬ 2 * (diffs l d er).length + er.length ≤ 4) ∨ (e = 0 ∧ Near l er c es) := by
  rcases id hf with ⟨_, he, hc, hes⟩ | ⟨pre, P, rest, hcd, _, hy, he, _⟩
  · refine .inl ⟨he, hc, hes, fun d hd hb => ?_⟩
    have := (found_is hl hn hed her h4 hd hb hf).1
    omega
  · have hPc : P ∈ candL l.length er := by rw [hcd]; simp
    have i1 := cand_nodup hPc hed
    obtain ⟨i2, i3⟩ := cand_in hPc h4 her
    obtain ⟨hcc, hco⟩ := yes_code hl i1 i2 i3 hy
    have hDs := diffs_lt l c er
    have hDP : ∀ i ∈ diffs l c er, i ∈ P ∧ i ∉ er := fun i hi => by
      obtain ⟨_, h2, h3⟩ := mem_diffs.1 hi
      rcases Decidable.em (i ∈ P) with h | h
      · exact ⟨h, h2⟩
      · exact absurd (hco i h) h3
    have hb : 2 * (diffs l c er).length + er.length ≤ 4 := by
      rcases mem_cand hPc with rfl | ⟨h2, a, _, _, rfl⟩ | ⟨rfl, a, b, _, _, rfl⟩
      · have : diffs l c P = [] := List.eq_nil_iff_forall_not_mem.2 fun i hi => (hDP i hi).2 (hDP i hi).1
        rw [this]; simp only [List.length_nil]; omega
      · have := sorted_one hDs (a := a) fun i hi => by
          obtain ⟨h1, h3⟩ := hDP i hi
          rcases List.mem_append.1 h1 with h | h
          · exact absurd h h3
          · exact List.mem_singleton.1 h
        omega
      · have := sorted_two hDs (a := a) (b := b) fun i hi => by simpa using (hDP i hi).1
        simp only [List.length_nil]; omega
    have hfi := found_is hl hn hed her h4 hcc hb hf
    exact .inr ⟨he, hcc, hfi.2.2, by rw [hfi.2.2]; exact hb⟩
theorem erN_cast (er : List Nat) : erN (er.map fun n : Nat => (n : Int)) = er := by
  unfold erN
  rw [List.map_map]
  exact (List.map_congr_left fun a _ => Int.toNat_natCast a).trans (List.map_id _)
theorem okE_cast {n : Nat} {er : List Nat} (hd : er.Nodup) (h : ∀ a ∈ er, a < n) : okE n (er.map fun n : Nat => (n : Int)) := by
  refine ⟨fun a ha => ?_, ?_⟩
  · obtain ⟨x, hx, rfl⟩ := List.mem_map.1 ha
    have := h x hx
    omega
  · rw [List.Nodup, List.pairwise_map]
    exact List.Pairwise.imp (fun h e => h (by omega)) hd
/-- Decode at a word and places that are right. -/
theorem dec_gen (u v0 : Value) (w : World) (l er : List Nat) (hl : RdL w 1 encN u l) (he : RdL w 1 encZ v0 er) (hW : isW l = true) (hed : er.Nodup) (her : ∀ a ∈ er, a < l.length) :
    Ret Try.prog 13 [u, v0] w (fun v w' => ∃ A B C D c es e, v = .tuple #[.agg ([.slice A c.length B, .slice C es.length D] : List Value).toArray, .int .i64 e] ∧ Own w' w.heap.size 5 1 encN (.slice A c.length B) c ∧ Own w' w.heap.size 3 1 encZ (.slice C es.length D) es ∧
      ((e = 190 ∧ c = [] ∧ es = [] ∧ (4 < er.length ∨ ∀ d, Code_ l.length d → ¬ 2 * (diffs l d er).length + er.length ≤ 4)) ∨ (e = 0 ∧ Near l er c es)) ∧ Ex w w') := by
  obtain ⟨h1, h2, h3⟩ := isW_iff.1 hW
  have hlen : (er.map fun n : Nat => (n : Int)).length = er.length := List.length_map ..
  have hel : er.length ≤ 63 := by
    rcases Nat.lt_or_ge 63 er.length with h | h
    · exfalso
      have hnd := hed
      -- more places than the word has
      have : ∀ (n : Nat) (P : List Nat), P.Nodup → (∀ a ∈ P, a < n) → P.length ≤ n := by
        intro n
        induction n with
        | zero => intro P _ hP; cases P with
          | nil => simp
          | cons a P => exact absurd (hP a (by simp)) (by omega)
        | succ n ih =>
          intro P hd hP
          have h5 := ih (P.erase n) (hd.erase n) fun a ha => by
            have h6 := (List.Nodup.mem_erase_iff hd).1 ha
            have := hP a h6.2
            omega
          have := List.length_erase (a := n) (l := P)
          split at this <;> omega
      have := this _ er hnd her
      omega
    · exact h
  refine (decode_ret u v0 l _ w hl (rdl_i he) (by omega) (by omega)).mono ?_
  rintro v w' ⟨r, x, c, es, e, rfl, ho, hx', hdp, hx⟩
  obtain ⟨A, B, rfl⟩ := ho.shape
  obtain ⟨C, D, rfl⟩ := hx'.shape
  refine ⟨A, B, C, D, c, es, e, rfl, ho, hx', ?_, hx⟩
  rcases hdp with ⟨h | h, _⟩ | ⟨_, _, ⟨h, h5, h6, h7⟩ | ⟨h, hf⟩⟩
  · rw [hW] at h; cases h
  · exact absurd (okE_cast hed her) h
  · exact .inl ⟨h5, h6, h7, .inl (by omega)⟩
  · rw [erN_cast] at hf
    rcases found_cases h3 h2 hed her (by omega) hf with ⟨a, b, c, d⟩ | h8
    · exact .inl ⟨a, b, c, .inr d⟩
    · exact .inr h8
end Go.Proofs.Ytjhgihgggofocaa
