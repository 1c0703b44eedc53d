/- Chapter 05, plain: capitals for small letters, commas for what folds to nothing. -/
import Derived.Test.YtlbcjhbdkeeahaaOU
import Derived.Test.YtlbcjhbdkeeahaaLN
namespace Go.Proofs.Ytlbcjhbdkeeahaa
theorem letsU_low (c : Nat) (h : c < 128) : letsU c = [] := by
  unfold letsU
  repeat rw [if_neg (by omega)]
theorem lets_low (a b : Nat) (h : b < 128) : lets a b = [] := by
  unfold lets
  by_cases h1 : a = 197
  · rw [if_pos h1]
    repeat rw [if_neg (by omega)]
  · rw [if_neg h1]
    by_cases h2 : a = 195
    · rw [if_pos h2, if_neg (by omega), if_neg (by omega), if_neg (by omega), letsU_low b h]
    · rw [if_neg h2]
theorem fo_map (f : UInt8 → UInt8) (h : ∀ c r, one1 (f c) (r.map f) = one1 c r) : ∀ (n : Nat) (l : List UInt8) (gap : Bool) (out : List UInt8), fo n (l.map f) gap out = fo n l gap out
  | 0, _, _, _ => rfl
  | _ + 1, [], _, _ => rfl
  | n + 1, c :: r, gap, out => by
    show (if (one1 (f c) (r.map f)).1 = [] then fo n ((f c :: r.map f).drop (one1 (f c) (r.map f)).2) true out else fo n ((f c :: r.map f).drop (one1 (f c) (r.map f)).2) false (put gap out (one1 (f c) (r.map f)).1)) = (if (one1 c r).1 = [] then fo n ((c :: r).drop (one1 c r).2) true out else fo n ((c :: r).drop (one1 c r).2) false (put gap out (one1 c r).1))
    rw [h, ← List.map_cons, ← List.map_drop, fo_map f h n, fo_map f h n]
theorem fold_map (f : UInt8 → UInt8) (h : ∀ c r, one1 (f c) (r.map f) = one1 c r) (l : List UInt8) : foldL (l.map f) = foldL l := by
  unfold foldL
  rw [List.length_map]; exact fo_map f h _ _ _ _
/-- The second byte only counts from 128 on. -/
theorem one1_head (f : UInt8 → UInt8) (h : ∀ d, f d = d ∨ (d.toNat < 128 ∧ (f d).toNat < 128)) (c : UInt8) (r : List UInt8) : one1 c (r.map f) = one1 c r := by
  unfold one1
  split
  · rfl
  · split
    · rfl
    · cases r with
      | nil => rfl
      | cons d r =>
        simp only [List.map_cons]
        rcases h d with h1 | ⟨h1, h2⟩
        · rw [h1]
        · rw [lets_low _ _ h1, lets_low _ _ h2]
def cap1 (c : UInt8) : UInt8 := if 97 ≤ c.toNat ∧ c.toNat ≤ 122 then UInt8.ofNat (c.toNat - 32) else c
theorem cap1_nat {c : UInt8} (h : 97 ≤ c.toNat ∧ c.toNat ≤ 122) : (cap1 c).toNat = c.toNat - 32 := by
  unfold cap1
  rw [if_pos h]; exact UInt8.toNat_ofNat_of_lt' (show c.toNat - 32 < 256 by omega)
theorem cap1_no {c : UInt8} (h : ¬ (97 ≤ c.toNat ∧ c.toNat ≤ 122)) : cap1 c = c := if_neg h
theorem cap1_one (c : UInt8) (r : List UInt8) : one1 (cap1 c) (r.map cap1) = one1 c r := by
  rw [one1_head cap1 (fun d => by
    by_cases h : 97 ≤ d.toNat ∧ d.toNat ≤ 122
    · exact .inr ⟨by omega, by rw [cap1_nat h]; omega⟩
    · exact .inl (cap1_no h))]
  by_cases h : 97 ≤ c.toNat ∧ c.toNat ≤ 122
  · rw [one1_small h, one1_plain (by rw [cap1_nat h]; omega)]
    unfold cap1; rw [if_pos h]
  · rw [cap1_no h]
def com (c : UInt8) : UInt8 := if c.toNat < 128 ∧ foldL [c] = [] then 44 else c
theorem com_yes {c : UInt8} (h1 : c.toNat < 128) (h2 : foldL [c] = []) : com c = 44 := if_pos ⟨h1, h2⟩
theorem com_no {c : UInt8} (h : ¬ c.toNat < 128 ∨ foldL [c] ≠ []) : com c = c := if_neg fun e => by rcases h with h | h; exact h e.1; exact h e.2
theorem fold_one {c : UInt8} (h : foldL [c] = []) : (one1 c []).1 = [] := by
  by_cases h1 : (one1 c []).1 = []
  · exact h1
  · exfalso
    have h2 : foldL [c] = fo 0 ([c].drop (one1 c []).2) false (put false [] (one1 c []).1) := by
      show (if (one1 c []).1 = [] then _ else _) = _
      rw [if_neg h1]
    rw [h2] at h
    exact h1 (by simpa [fo, put] using h)
theorem one1_low {c : UInt8} (h1 : c.toNat < 128) (h2 : (one1 c []).1 = []) (r : List UInt8) : one1 c r = ([], 1) := by
  unfold one1 at h2 ⊢
  split at h2
  · simp at h2
  · rename_i h3
    rw [if_neg h3]
    split at h2
    · simp at h2
    · rename_i h4
      rw [if_neg h4]
      cases r with
      | nil => rfl
      | cons d r =>
        simp only
        rw [if_pos]
        unfold lets; rw [if_neg (by omega), if_neg (by omega)]
theorem com_one (c : UInt8) (r : List UInt8) : one1 (com c) (r.map com) = one1 c r := by
  rw [one1_head com (fun d => by
    by_cases h : d.toNat < 128 ∧ foldL [d] = []
    · exact .inr ⟨h.1, by rw [com_yes h.1 h.2]; decide⟩
    · exact .inl (if_neg h))]
  by_cases h : c.toNat < 128 ∧ foldL [c] = []
  · rw [com_yes h.1 h.2, one1_low h.1 (fold_one h.2), one1_low (by decide) (by decide)]
  · rw [show com c = c from if_neg h]
theorem fold_up (l : List UInt8) : foldL (l.map cap1) = foldL l := fold_map cap1 cap1_one l
theorem fold_com (l : List UInt8) : foldL (l.map com) = foldL l := fold_map com com_one l
/-- The first i have been changed. -/
def upto (f : UInt8 → UInt8) (l : List UInt8) (i : Nat) : List UInt8 := (l.take i).map f ++ l.drop i
theorem upto_zero (f : UInt8 → UInt8) (l : List UInt8) : upto f l 0 = l := rfl
theorem upto_end (f : UInt8 → UInt8) (l : List UInt8) : upto f l l.length = l.map f := by unfold upto; simp
theorem upto_len (f : UInt8 → UInt8) (l : List UInt8) (i : Nat) : (upto f l i).length = l.length := by unfold upto; simp; omega
theorem upto_step {f : UInt8 → UInt8} {l : List UInt8} {i : Nat} {c : UInt8} (h : l[i]? = some c) : (upto f l i).set i (f c) = upto f l (i + 1) := by
  have hi := (List.getElem?_eq_some_iff.1 h).1
  unfold upto
  rw [drop_cons h, List.set_append_right _ _ (by simp; omega), List.take_add_one, h]
  simp [Nat.min_eq_left (Nat.le_of_lt hi)]
theorem upto_same {f : UInt8 → UInt8} {l : List UInt8} {i : Nat} {c : UInt8} (h : l[i]? = some c) (hf : f c = c) : upto f l (i + 1) = upto f l i := by
  have hi := (List.getElem?_eq_some_iff.1 h).1
  unfold upto
  rw [List.take_add_one, h, drop_cons h]
  simp [hf]
end Go.Proofs.Ytlbcjhbdkeeahaa
