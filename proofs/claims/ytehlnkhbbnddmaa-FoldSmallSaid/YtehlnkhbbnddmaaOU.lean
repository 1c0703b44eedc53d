/- Chapter 05, plain: what is folded is plain; what is plain is folded already; folding makes nothing longer. -/
import Derived.Test.YtehlnkhbbnddmaaOP
namespace Go.Proofs.Ytehlnkhbbnddmaa
/-- The byte at i may stand there. -/
def okAt (l : List UInt8) (i : Nat) : Prop := ∀ c, l[i]? = some c → isPlain c.toNat = true ∨ (c = 32 ∧ 0 < i ∧ i + 1 < l.length ∧ l[i - 1]? ≠ some 32)
def Pl (l : List UInt8) : Prop := ∀ i, okAt l i
theorem ite_all {c : Prop} [Decidable c] {a b : List UInt8} (ha : a.all (fun x => isPlain x.toNat) = true) (hb : b.all (fun x => isPlain x.toNat) = true) : (if c then a else b).all (fun x => isPlain x.toNat) = true := by split <;> assumption
theorem letsU_all (c : Nat) : (letsU c).all (fun x => isPlain x.toNat) = true := by
  unfold letsU
  iterate 13 (refine ite_all (by decide) ?_)
  decide
theorem lets_all (a b : Nat) : (lets a b).all (fun x => isPlain x.toNat) = true := by
  unfold lets
  refine ite_all ?_ (ite_all ?_ (by decide))
  · exact ite_all (by decide) (ite_all (by decide) (ite_all (by decide) (by decide)))
  · exact ite_all (by decide) (ite_all (by decide) (letsU_all _))
theorem one1_all (c : UInt8) (r : List UInt8) : (one1 c r).1.all (fun x => isPlain x.toNat) = true := by
  unfold one1
  split
  · simpa
  · split
    · rename_i h
      have h2 : (UInt8.ofNat (c.toNat - 32)).toNat = c.toNat - 32 := UInt8.toNat_ofNat_of_lt' (show c.toNat - 32 < 256 by omega)
      simp only [List.all_cons, List.all_nil, Bool.and_true, h2]
      exact (isPlain_iff _).2 (by omega)
    · split
      · split
        · rfl
        · exact lets_all _ _
      · rfl
theorem one1_le (c : UInt8) (r : List UInt8) : (one1 c r).1.length ≤ (one1 c r).2 := by
  unfold one1
  split
  · simp
  · split
    · simp
    · split
      · split
        · simp
        · exact lets_len _ _
      · simp
theorem pl_nil : Pl [] := fun i c h => by simp at h
theorem plain_ne {c : UInt8} (h : isPlain c.toNat = true) : c ≠ 32 := by rintro rfl; revert h; decide
/-- Plain bytes behind. -/
theorem pl_app {out t : List UInt8} (h : Pl out) (ht : t.all (fun x => isPlain x.toNat) = true) : Pl (out ++ t) := fun i c hc => by
  rcases Nat.lt_or_ge i out.length with hi | hi
  · rw [List.getElem?_append_left hi] at hc
    rcases h i c hc with h1 | ⟨h1, h2, h3, h4⟩
    · exact .inl h1
    · exact .inr ⟨h1, h2, by rw [List.length_append]; omega, by rw [List.getElem?_append_left (by omega)]; exact h4⟩
  · rw [List.getElem?_append_right hi] at hc
    exact .inl ((List.all_eq_true.1 ht) c (List.mem_of_getElem? hc))
theorem pl_last {out : List UInt8} (h : Pl out) : out[out.length - 1]? ≠ some 32 := fun e => by
  have hi := (List.getElem?_eq_some_iff.1 e).1
  rcases h _ _ e with h1 | ⟨_, _, h3, _⟩
  · exact plain_ne h1 rfl
  · omega
theorem pl_sp {out t : List UInt8} (h : Pl out) (ho : out ≠ []) (hn : t ≠ []) (ht : t.all (fun x => isPlain x.toNat) = true) : Pl (out ++ [32] ++ t) := fun i c hc => by
  have hol := List.length_pos_iff.2 ho
  have htl := List.length_pos_iff.2 hn
  rw [List.append_assoc] at hc ⊢
  rcases Nat.lt_trichotomy i out.length with hi | hi | hi
  · rw [List.getElem?_append_left hi] at hc
    rcases h i c hc with h1 | ⟨h1, h2, h3, h4⟩
    · exact .inl h1
    · exact .inr ⟨h1, h2, by rw [List.length_append]; omega, by rw [List.getElem?_append_left (by omega)]; exact h4⟩
  · subst hi
    rw [List.getElem?_append_right (Nat.le_refl _), Nat.sub_self] at hc
    simp at hc
    exact .inr ⟨hc.symm, hol, by simp; omega, by rw [List.getElem?_append_left (by omega)]; exact pl_last h⟩
  · rw [List.getElem?_append_right (by omega)] at hc
    rw [List.getElem?_append_right (by simp; omega)] at hc
    exact .inl ((List.all_eq_true.1 ht) c (List.mem_of_getElem? hc))
theorem put_pl {gap : Bool} {out t : List UInt8} (h : Pl out) (hn : t ≠ []) (ht : t.all (fun x => isPlain x.toNat) = true) : Pl (put gap out t) := by
  unfold put
  split
  · rename_i h2; exact pl_sp h h2.2 hn ht
  · exact pl_app h ht
theorem put_len (gap : Bool) (out t : List UInt8) : (put gap out t).length ≤ out.length + (if gap then 1 else 0) + t.length := by
  unfold put
  split
  · rename_i h; rw [if_pos h.1]; simp only [List.length_append, List.length_singleton]; omega
  · rw [List.length_append]; omega
theorem fo_pl : ∀ (n : Nat) (l : List UInt8) (gap : Bool) (out : List UInt8), Pl out → Pl (fo n l gap out)
  | 0, _, _, _, h => h
  | _ + 1, [], _, _, h => h
  | n + 1, c :: r, gap, out, h => by
    show Pl (if (one1 c r).1 = [] then fo n _ true out else fo n _ false (put gap out (one1 c r).1))
    split
    · exact fo_pl n _ _ _ h
    · rename_i hn; exact fo_pl n _ _ _ (put_pl h hn (one1_all c r))
theorem fo_len : ∀ (n : Nat) (l : List UInt8) (gap : Bool) (out : List UInt8), (fo n l gap out).length ≤ out.length + (if gap then 1 else 0) + l.length
  | 0, _, _, out => by show out.length ≤ _; omega
  | _ + 1, [], _, out => by show out.length ≤ _; omega
  | n + 1, c :: r, gap, out => by
    have h1 := one1_n c r
    have h2 := one1_le c r
    have h3 := put_len gap out (one1 c r).1
    show (if (one1 c r).1 = [] then fo n _ true out else fo n _ false (put gap out (one1 c r).1)).length ≤ _
    split
    · have := fo_len n ((c :: r).drop (one1 c r).2) true out
      rw [List.length_drop] at this
      simp only [if_true] at this
      omega
    · have := fo_len n ((c :: r).drop (one1 c r).2) false (put gap out (one1 c r).1)
      rw [List.length_drop] at this
      simp only [Bool.false_eq_true, if_false] at this
      omega
theorem fold_pl (l : List UInt8) : Pl (foldL l) := fo_pl _ _ _ _ pl_nil
theorem fold_len (l : List UInt8) : (foldL l).length ≤ l.length := by
  have := fo_len l.length l false []
  simp only [List.length_nil, Bool.false_eq_true, if_false] at this
  unfold foldL; omega
theorem one1_sp (r : List UInt8) : one1 32 r = ([], 1) := by
  unfold one1
  rw [if_neg (by decide), if_neg (by decide)]
  cases r with
  | nil => rfl
  | cons d r => simp only; rw [if_pos]; unfold lets; rw [if_neg (by decide), if_neg (by decide)]
/-- The loop on what is plain: at place i. -/
theorem pl_run {l : List UInt8} (h : Pl l) : ∀ (m i : Nat), l.length - i = m → i ≤ l.length →
    (i = 0 ∨ l[i - 1]? ≠ some 32 → fo l.length (l.drop i) false (l.take i) = l) ∧ (0 < i → l[i - 1]? = some 32 → fo l.length (l.drop i) true (l.take (i - 1)) = l) := by
  intro m
  induction m with
  | zero =>
    intro i hm hi
    have e : i = l.length := by omega
    subst e
    rw [List.drop_length, fo_nil, fo_nil, List.take_length]
    refine ⟨fun _ => rfl, fun h0 h1 => absurd h1 (pl_last h)⟩
  | succ m ih =>
    intro i hm hi
    obtain ⟨c, hc⟩ : ∃ c, l[i]? = some c := ⟨_, List.getElem?_eq_getElem (by omega)⟩
    obtain ⟨ih1, ih2⟩ := ih (i + 1) (by omega) (by omega)
    rw [show i + 1 - 1 = i from rfl] at ih1 ih2
    have htk : l.take (i + 1) = l.take i ++ [c] := by rw [List.take_add_one, hc]; rfl
    have hst : ∀ gap out, fo l.length (l.drop i) gap out = if (one1 c (l.drop (i + 1))).1 = [] then fo l.length ((l.drop i).drop (one1 c (l.drop (i + 1))).2) true out else fo l.length ((l.drop i).drop (one1 c (l.drop (i + 1))).2) false (put gap out (one1 c (l.drop (i + 1))).1) := fun gap out => by
      rw [drop_cons hc]; exact fo_step (by rw [← drop_cons hc, List.length_drop]; omega)
    rcases h i c hc with h1 | ⟨h1, h2, h3, h4⟩
    · have ho : one1 c (l.drop (i + 1)) = ([c], 1) := by unfold one1; rw [if_pos h1]
      have hne : l[i]? ≠ some 32 := by rw [hc]; intro e; injection e with e; exact plain_ne h1 e
      have ih3 := ih1 (.inr hne)
      rw [hst, hst, ho]
      simp only [List.drop_drop]
      rw [if_neg (by simp), if_neg (by simp)]
      refine ⟨fun _ => ?_, fun h5 h6 => ?_⟩
      · rw [put_no (by simp), ← htk]; exact ih3
      · have h7 : 0 < i - 1 := by
          rcases h (i - 1) 32 h6 with e | ⟨_, e, _, _⟩
          · exact absurd rfl (plain_ne e)
          · exact e
        have h8 : l.take i = l.take (i - 1) ++ [32] := by
          have : l.take (i - 1 + 1) = l.take (i - 1) ++ [32] := by rw [List.take_add_one, h6]; rfl
          rwa [show i - 1 + 1 = i from by omega] at this
        rw [put_sp rfl (fun e => by have := congrArg List.length e; rw [List.length_take, List.length_nil] at this; omega), ← h8, ← htk]; exact ih3
    · subst h1
      rw [hst, hst, one1_sp]
      simp only [List.drop_drop]
      rw [if_pos trivial, if_pos trivial]
      refine ⟨fun _ => ih2 (by omega) hc, fun _ h6 => absurd h6 h4⟩
theorem fold_self {l : List UInt8} (h : Pl l) : foldL l = l := by
  have := (pl_run h l.length 0 (by omega) (by omega)).1 (.inl rfl)
  simpa [foldL] using this
theorem ok_step {l : List UInt8} {i : Nat} {c : UInt8} (hok : ∀ j, j < i → okAt l j) (hc : l[i]? = some c) (h : isPlain c.toNat = true ∨ (c.toNat = 32 ∧ 0 < i ∧ i + 1 < l.length ∧ ∀ e, l[i - 1]? = some e → e.toNat ≠ 32)) : ∀ j, j < i + 1 → okAt l j := fun j hj => by
  rcases Nat.lt_or_ge j i with h2 | h2
  · exact hok j h2
  · obtain rfl : j = i := by omega
    intro d hd
    rw [hc] at hd; injection hd with hd; subst hd
    rcases h with h | ⟨h3, h4, h5, h6⟩
    · exact .inl h
    · exact .inr ⟨UInt8.toNat_inj.1 h3, h4, h5, fun e => h6 32 e rfl⟩
theorem fold_twice (l : List UInt8) : foldL (foldL l) = foldL l := fold_self (fold_pl l)
theorem fold_iff (l : List UInt8) : foldL l = l ↔ Pl l := ⟨fun h => by rw [← h]; exact fold_pl l, fold_self⟩
end Go.Proofs.Ytehlnkhbbnddmaa
