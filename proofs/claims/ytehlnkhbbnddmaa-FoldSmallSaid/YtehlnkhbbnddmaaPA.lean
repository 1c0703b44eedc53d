/- Chapter 05, plain: the words of a text. -/
import Derived.Test.YtehlnkhbbnddmaaOU
import Derived.Test.YtehlnkhbbnddmaaOQ
namespace Go.Proofs.Ytehlnkhbbnddmaa
def wds : List UInt8 → List UInt8 → List (List UInt8)
  | [], cur => if cur = [] then [] else [cur]
  | c :: r, cur => if c = 32 then (if cur = [] then wds r [] else cur :: wds r []) else wds r (cur ++ [c])
def wordsL (l : List UInt8) : List (List UInt8) := wds l []
/-- The loop at place i, a word having begun at a. -/
structure WS (l : List UInt8) (i a : Nat) (out : List (List UInt8)) : Prop where
  le : a ≤ i
  top : i ≤ l.length + 1
  fin : i = l.length + 1 → a = i
  eq : out ++ (if i ≤ l.length then wds (l.drop i) ((l.take i).drop a) else []) = wordsL l
  len : out.length ≤ i
theorem ws_start (l : List UInt8) : WS l 0 0 [] := ⟨Nat.le_refl _, by omega, fun h => by omega, by rw [if_pos (by omega)]; rfl, Nat.le_refl _⟩
theorem cur_snoc {l : List UInt8} {i a : Nat} {c : UInt8} (hc : l[i]? = some c) (ha : a ≤ i) : (l.take (i + 1)).drop a = (l.take i).drop a ++ [c] := by
  have hi := (List.getElem?_eq_some_iff.1 hc).1
  rw [List.take_add_one, hc, List.drop_append_of_le_length (by rw [List.length_take]; omega)]; rfl
theorem ws_keep {l : List UInt8} {i a : Nat} {out : List (List UInt8)} {c : UInt8} (h : WS l i a out) (hc : l[i]? = some c) (h32 : c ≠ 32) : WS l (i + 1) a out := by
  obtain ⟨h1, h2, h3, h4, h5⟩ := h
  have hi := (List.getElem?_eq_some_iff.1 hc).1
  refine ⟨by omega, by omega, fun h => by omega, ?_, by omega⟩
  rw [if_pos (by omega), drop_cons hc] at h4
  rw [if_pos (by omega), cur_snoc hc h1, ← h4]
  show _ = out ++ (if c = 32 then _ else wds (l.drop (i + 1)) ((l.take i).drop a ++ [c]))
  rw [if_neg h32]
theorem ws_rest {l : List UInt8} {i a : Nat} {out : List (List UInt8)} (h : WS l i a out) (hi : i ≤ l.length) (hc : i = l.length ∨ l[i]? = some 32) :
    out ++ ((if (l.take i).drop a = [] then [] else [(l.take i).drop a]) ++ (if i + 1 ≤ l.length then wds (l.drop (i + 1)) ((l.take (i + 1)).drop (i + 1)) else [])) = wordsL l := by
  obtain ⟨h1, h2, h3, h4, h5⟩ := h
  rw [if_pos hi] at h4
  rw [← h4]
  congr 1
  rcases hc with e | hc
  · subst e
    rw [if_neg (show ¬ l.length + 1 ≤ l.length by omega), List.drop_length, List.append_nil]; rfl
  · have hlt := (List.getElem?_eq_some_iff.1 hc).1
    rw [if_pos (show i + 1 ≤ l.length by omega), drop_cons hc, List.drop_eq_nil_of_le (show (l.take (i + 1)).length ≤ i + 1 by rw [List.length_take]; omega)]
    show _ = (if (32 : UInt8) = 32 then (if (l.take i).drop a = [] then wds (l.drop (i + 1)) [] else (l.take i).drop a :: wds (l.drop (i + 1)) []) else _)
    rw [if_pos rfl]
    by_cases h9 : (l.take i).drop a = []
    · rw [if_pos h9, if_pos h9]; rfl
    · rw [if_neg h9, if_neg h9]; rfl
theorem ws_cut {l : List UInt8} {i a : Nat} {out : List (List UInt8)} (h : WS l i a out) (hi : i ≤ l.length) (hc : i = l.length ∨ l[i]? = some 32) (hlt : a < i) : WS l (i + 1) (i + 1) (out ++ [(l.take i).drop a]) := by
  have h4 := ws_rest h hi hc
  rw [if_neg (fun e => by have := congrArg List.length e; rw [List.length_drop, List.length_take, List.length_nil] at this; omega), ← List.append_assoc] at h4
  exact ⟨Nat.le_refl _, by omega, fun _ => rfl, h4, by rw [List.length_append, List.length_singleton]; have := h.len; omega⟩
theorem ws_skip {l : List UInt8} {i a : Nat} {out : List (List UInt8)} (h : WS l i a out) (hi : i ≤ l.length) (hc : i = l.length ∨ l[i]? = some 32) (hge : ¬ a < i) : WS l (i + 1) (i + 1) out := by
  have h4 := ws_rest h hi hc
  have h1 := h.le
  rw [if_pos (List.drop_eq_nil_of_le (by rw [List.length_take]; omega)), List.nil_append] at h4
  exact ⟨Nat.le_refl _, by omega, fun _ => rfl, h4, by have := h.len; omega⟩
theorem ws_end {l : List UInt8} {i a : Nat} {out : List (List UInt8)} (h : WS l i a out) (hi : ¬ i ≤ l.length) : out = wordsL l := by
  have := h.eq
  rwa [if_neg hi, List.append_nil] at this
end Go.Proofs.Ytehlnkhbbnddmaa
