/- Chapter 05, plain: the table of words. -/
import Derived.Test.YtehlnkhbbnddmaaOB
namespace Go.Proofs.Ytehlnkhbbnddmaa
structure Rw where
  k : Nat
  lo : List UInt8
  sh : List UInt8
deriving DecidableEq
abbrev Rw.c (r : Rw) : List Value := [.int .u8 (r.k : Int), .string ⟨r.lo.toArray⟩, .string ⟨r.sh.toArray⟩]
theorem Rw.c_len (r : Rw) : r.c.length = 3 := rfl
abbrev encT (t : List UInt8) : List Value := [.string ⟨t.toArray⟩]
theorem encT_len (t : List UInt8) : (encT t).length = 1 := rfl
def tab : List Rw := [
  ⟨1, [78, 79, 82, 84, 72], [78]⟩,
  ⟨1, [83, 79, 85, 84, 72], [83]⟩,
  ⟨1, [69, 65, 83, 84], [69]⟩,
  ⟨1, [87, 69, 83, 84], [87]⟩,
  ⟨1, [78, 79, 82, 84, 72, 69, 65, 83, 84], [78, 69]⟩,
  ⟨1, [78, 79, 82, 84, 72, 87, 69, 83, 84], [78, 87]⟩,
  ⟨1, [83, 79, 85, 84, 72, 69, 65, 83, 84], [83, 69]⟩,
  ⟨1, [83, 79, 85, 84, 72, 87, 69, 83, 84], [83, 87]⟩,
  ⟨2, [83, 84, 82, 69, 69, 84], [83, 84]⟩,
  ⟨2, [65, 86, 69, 78, 85, 69], [65, 86, 69]⟩,
  ⟨2, [65, 86, 69, 78, 85, 69], [65, 86]⟩,
  ⟨2, [82, 79, 65, 68], [82, 68]⟩,
  ⟨2, [68, 82, 73, 86, 69], [68, 82]⟩,
  ⟨2, [76, 65, 78, 69], [76, 78]⟩,
  ⟨2, [67, 79, 85, 82, 84], [67, 84]⟩,
  ⟨2, [80, 76, 65, 67, 69], [80, 76]⟩,
  ⟨2, [83, 81, 85, 65, 82, 69], [83, 81]⟩,
  ⟨2, [66, 79, 85, 76, 69, 86, 65, 82, 68], [66, 76, 86, 68]⟩,
  ⟨2, [84, 69, 82, 82, 65, 67, 69], [84, 69, 82]⟩,
  ⟨2, [72, 73, 71, 72, 87, 65, 89], [72, 87, 89]⟩,
  ⟨2, [67, 82, 69, 83, 67, 69, 78, 84], [67, 82, 69, 83]⟩,
  ⟨2, [87, 65, 89], [87, 65, 89]⟩,
  ⟨2, [83, 84, 82, 65, 83, 83, 69], [83, 84, 82]⟩,
  ⟨2, [80, 76, 65, 84, 90], [80, 76]⟩,
  ⟨2, [87, 69, 71], [87, 69, 71]⟩,
  ⟨2, [65, 76, 76, 69, 69], [65, 76]⟩,
  ⟨3, [65, 80, 65, 82, 84, 77, 69, 78, 84], [65, 80, 84]⟩,
  ⟨3, [83, 85, 73, 84, 69], [83, 84, 69]⟩,
  ⟨3, [70, 76, 79, 79, 82], [70, 76]⟩,
  ⟨3, [82, 79, 79, 77], [82, 77]⟩,
  ⟨3, [70, 76, 65, 84], [70, 76]⟩,
  ⟨3, [85, 78, 73, 84], [85, 78, 73, 84]⟩,
  ⟨4, [66, 79, 88], [66, 79, 88]⟩,
  ⟨4, [80, 79, 83, 84, 66, 79, 88], [80, 66]⟩,
  ⟨4, [80, 79, 83, 84, 70, 65, 67, 72], [80, 70]⟩,
  ⟨5, [83, 65, 73, 78, 84], [83, 84]⟩,
  ⟨5, [83, 65, 73, 78, 84, 69], [83, 84, 69]⟩,
  ⟨5, [77, 79, 85, 78, 84], [77, 84]⟩,
  ⟨5, [70, 79, 82, 84], [70, 84]⟩,
  ⟨5, [68, 79, 67, 84, 79, 82], [68, 82]⟩]
theorem tab40 : tab.length = 40 := by decide
theorem tab_k : ∀ r ∈ tab, 1 ≤ r.k ∧ r.k ≤ 5 ∧ r.lo.length ≤ 20 := by decide
/-- The row is of this kind, and one of its words is s. -/
def hitL (k : Nat) (s : List UInt8) (r : Rw) : Bool := decide ((k = 0 ∨ r.k = k) ∧ (r.lo = s ∨ r.sh = s))
def hitS (k : Nat) (s : List UInt8) (r : Rw) : Bool := decide ((k = 0 ∨ r.k = k) ∧ r.lo = s)
def zeroR : Rw := ⟨0, [], []⟩
def firstR (k : Nat) (s : List UInt8) : Rw := (tab.find? (hitS k s)).getD zeroR
def shortR (k : Nat) (s : List UInt8) : List UInt8 × Bool := if (firstR k s).k = 0 then ([], false) else ((firstR k s).sh, true)
/-- The words of rows, each once. -/
def once (l : List Rw) : List (List UInt8) := l.foldl (fun out r => if r.lo ∈ out then out else out ++ [r.lo]) []
def longsR (k : Nat) (s : List UInt8) : List (List UInt8) := once (tab.filter (hitL k s))
def kindsR (s : List UInt8) : Nat := tab.foldl (fun m r => if r.lo = s ∨ r.sh = s then m ||| (1 <<< r.k) else m) 0
def sameR (k : Nat) (a b : List UInt8) : Bool := decide (a = b) || (longsR k a).any (fun x => decide (x ∈ longsR k b))
theorem find_none (p : Rw → Bool) (l : List Rw) (h : ∀ (j : Nat) (r : Rw), l[j]? = some r → p r = false) : l.find? p = none := by
  rw [List.find?_eq_none]
  intro r hr
  obtain ⟨j, hj⟩ := List.mem_iff_getElem?.1 hr
  rw [h j r hj]; simp
theorem find_at (p : Rw → Bool) : ∀ (l : List Rw) (i : Nat) (r : Rw), l[i]? = some r → p r = true → (∀ (j : Nat) (r' : Rw), j < i → l[j]? = some r' → p r' = false) → l.find? p = some r
  | [], _, _, h, _, _ => by simp at h
  | x :: l, 0, r, h, hp, _ => by simp at h; subst h; simp [hp]
  | x :: l, i + 1, r, h, hp, hn => by
    have hx := hn 0 x (by omega) rfl
    rw [List.find?_cons, hx]
    exact find_at p l i r (by simpa using h) hp fun j r' hj hr => hn (j + 1) r' (by omega) (by simpa using hr)
theorem kinds_lt : ∀ (l : List Rw) (s : List UInt8) (m : Nat), m < 64 → (∀ r ∈ l, r.k ≤ 5) → l.foldl (fun m r => if r.lo = s ∨ r.sh = s then m ||| (1 <<< r.k) else m) m < 64
  | [], _, _, h, _ => h
  | r :: l, s, m, h, hk => by
    rw [List.foldl_cons]
    refine kinds_lt l s _ ?_ fun x hx => hk x (by simp [hx])
    split
    · have h5 := hk r (by simp)
      have : 1 <<< r.k < 64 := by rw [Nat.shiftLeft_eq, Nat.one_mul]; exact Nat.lt_of_le_of_lt (Nat.pow_le_pow_right (by omega) h5) (by decide)
      exact Nat.or_lt_two_pow (n := 6) h this
    · exact h
theorem take_rw {α : Type} (l : List α) (i : Nat) (r : α) (h : l[i]? = some r) : l.take (i + 1) = l.take i ++ [r] := by
  have hi := (List.getElem?_eq_some_iff.1 h).1
  rw [List.take_add_one, h]; rfl
end Go.Proofs.Ytehlnkhbbnddmaa
