/- Chapter 05, plain: two texts, folded together. -/
import Derived.Test.YtlbcjhbdkeeahaaOL
import Derived.Test.YtlbcjhbdkeeahaaPA
namespace Go.Proofs.Ytlbcjhbdkeeahaa
def joinL (a b : List UInt8) : List UInt8 := if a = [] ∨ b = [] then a ++ b else a ++ [32] ++ b
theorem put_ne {gap : Bool} {out t : List UInt8} (h : t ≠ []) : put gap out t ≠ [] := by
  unfold put
  split
  · simp
  · intro e; exact h (List.append_eq_nil_iff.1 e).2
theorem put_pre {gap : Bool} {p x t : List UInt8} (h : x ≠ []) : put gap (p ++ x) t = p ++ put gap x t := by
  unfold put
  have h2 : p ++ x ≠ [] := fun e => h (List.append_eq_nil_iff.1 e).2
  cases gap <;> simp [h]
theorem put_nil (gap : Bool) (t : List UInt8) : put gap [] t = t := by unfold put; simp
theorem fo_pre : ∀ (n : Nat) (l : List UInt8) (gap : Bool) (p x : List UInt8), x ≠ [] → fo n l gap (p ++ x) = p ++ fo n l gap x
  | 0, _, _, _, _, _ => rfl
  | _ + 1, [], _, _, _, _ => rfl
  | n + 1, c :: r, gap, p, x, h => by
    show (if (one1 c r).1 = [] then fo n _ true (p ++ x) else fo n _ false (put gap (p ++ x) (one1 c r).1)) = p ++ (if (one1 c r).1 = [] then fo n _ true x else fo n _ false (put gap x (one1 c r).1))
    split
    · exact fo_pre n _ _ _ _ h
    · rename_i ht; rw [put_pre h]; exact fo_pre n _ _ _ _ (put_ne ht)
theorem fo_gapless : ∀ (n : Nat) (l : List UInt8) (gap : Bool), fo n l gap [] = fo n l false []
  | 0, _, _ => rfl
  | _ + 1, [], _ => rfl
  | n + 1, c :: r, gap => by
    show (if (one1 c r).1 = [] then fo n _ true [] else fo n _ false (put gap [] (one1 c r).1)) = (if (one1 c r).1 = [] then fo n _ true [] else fo n _ false (put false [] (one1 c r).1))
    rw [put_nil, put_nil]
theorem fo_ne : ∀ (n : Nat) (l : List UInt8) (gap : Bool) (x : List UInt8), x ≠ [] → fo n l gap x ≠ []
  | 0, _, _, _, h => h
  | _ + 1, [], _, _, h => h
  | n + 1, c :: r, gap, x, h => by
    show (if (one1 c r).1 = [] then fo n _ true x else fo n _ false (put gap x (one1 c r).1)) ≠ []
    split
    · exact fo_ne n _ _ _ h
    · rename_i ht; exact fo_ne n _ _ _ (put_ne ht)
/-- What comes behind a gap. -/
theorem fo_behind : ∀ (n : Nat) (l : List UInt8) (out : List UInt8), fo n l true out = joinL out (fo n l false [])
  | 0, _, out => by unfold joinL; rw [if_pos (.inr rfl)]; exact (List.append_nil _).symm
  | _ + 1, [], out => by unfold joinL; rw [if_pos (.inr rfl)]; exact (List.append_nil _).symm
  | n + 1, c :: r, out => by
    show (if (one1 c r).1 = [] then fo n ((c :: r).drop (one1 c r).2) true out else fo n ((c :: r).drop (one1 c r).2) false (put true out (one1 c r).1)) = joinL out (if (one1 c r).1 = [] then fo n ((c :: r).drop (one1 c r).2) true [] else fo n ((c :: r).drop (one1 c r).2) false (put false [] (one1 c r).1))
    split
    · rw [fo_gapless]; exact fo_behind n _ out
    · rename_i ht
      rw [put_nil]
      unfold joinL
      by_cases ho : out = []
      · subst ho; rw [put_nil, if_pos (.inl rfl)]; rfl
      · rw [if_neg (by rintro (e | e); exact ho e; exact fo_ne _ _ _ _ ht e), put_sp rfl ho]
        exact fo_pre n _ _ _ _ ht
/-- One byte below 128 between. -/
theorem one1_app {x c : UInt8} (hc : c.toNat < 128) (r b : List UInt8) : one1 x (r ++ c :: b) = one1 x r := by
  unfold one1
  split
  · rfl
  · split
    · rfl
    · cases r with
      | nil => simp only [List.nil_append]; rw [if_pos (lets_low _ _ hc)]
      | cons d r => rfl
theorem fo_over {c : UInt8} (hc : c.toNat < 128) (h0 : (one1 c []).1 = []) (b : List UInt8) : ∀ (n : Nat) (a : List UInt8) (gap : Bool) (out : List UInt8), (a ++ c :: b).length ≤ n → ∀ m, b.length ≤ m → fo n (a ++ c :: b) gap out = fo m b true (fo n a gap out)
  | 0, _, _, _, h => by simp at h
  | n + 1, [], gap, out, h => fun m hm => by
    show (if (one1 c b).1 = [] then fo n ((c :: b).drop (one1 c b).2) true out else _) = fo m b true out
    rw [one1_low hc h0 b, if_pos rfl]
    show fo n b true out = _
    have h1 : b.length ≤ n := by simpa using h
    have key : ∀ k, b.length ≤ k → fo k b true out = fo b.length b true out := by
      intro k hk
      induction k with
      | zero => have e : b.length = 0 := by omega
                rw [e]
      | succ k ih =>
        by_cases e : b.length = k + 1
        · rw [e]
        · rw [fo_fuel k b true out (by omega)]; exact ih (by omega)
    rw [key n h1, key m hm]
  | n + 1, x :: r, gap, out, h => fun m hm => by
    have h1 := one1_n x r
    have hd : ((x :: (r ++ c :: b)).drop (one1 x r).2) = (x :: r).drop (one1 x r).2 ++ c :: b := by
      rw [← List.cons_append, List.drop_append_of_le_length h1.2.1]
    have hl : ((x :: r).drop (one1 x r).2 ++ c :: b).length ≤ n := by
      rw [List.length_append, List.length_drop]
      simp only [List.cons_append, List.length_cons, List.length_append] at h ⊢
      have := h1.2.1
      simp only [List.length_cons] at this
      omega
    show (if (one1 x (r ++ c :: b)).1 = [] then fo n ((x :: (r ++ c :: b)).drop (one1 x (r ++ c :: b)).2) true out else fo n ((x :: (r ++ c :: b)).drop (one1 x (r ++ c :: b)).2) false (put gap out (one1 x (r ++ c :: b)).1)) = fo m b true (if (one1 x r).1 = [] then fo n ((x :: r).drop (one1 x r).2) true out else fo n ((x :: r).drop (one1 x r).2) false (put gap out (one1 x r).1))
    rw [one1_app hc, hd]
    split
    · exact fo_over hc h0 b n _ true out hl m hm
    · exact fo_over hc h0 b n _ false _ hl m hm
theorem fo_more (l : List UInt8) (gap : Bool) (out : List UInt8) : ∀ k, l.length ≤ k → fo k l gap out = fo l.length l gap out := by
  intro k hk
  induction k with
  | zero => have e : l.length = 0 := by omega
            rw [e]
  | succ k ih =>
    by_cases e : l.length = k + 1
    · rw [e]
    · rw [fo_fuel k l gap out (by omega)]; exact ih (by omega)
theorem fold_joined {c : UInt8} (hc : c.toNat < 128) (h0 : foldL [c] = []) (a b : List UInt8) : foldL (a ++ c :: b) = joinL (foldL a) (foldL b) := by
  unfold foldL
  rw [fo_over hc (fold_one h0) b _ a false [] (Nat.le_refl _) b.length (Nat.le_refl _), fo_behind, fo_more a false [] _ (by rw [List.length_append]; omega)]
end Go.Proofs.Ytlbcjhbdkeeahaa
