/- Chapter 05, plain: words, kinds, short forms, step by step. -/
import Derived.Test.YtehlnkhbbnddmaaOC
import Derived.Test.YtehlnkhbbnddmaaOD
import Derived.Test.YtehlnkhbbnddmaaOF
namespace Go.Proofs.Ytehlnkhbbnddmaa
theorem once_snoc (l : List Rw) (r : Rw) : once (l ++ [r]) = if r.lo ∈ once l then once l else once l ++ [r.lo] := by
  unfold once
  rw [List.foldl_append]; rfl
theorem once_in {l : List Rw} {i : Nat} {r : Rw} {out : List (List UInt8)} (hr : l[i]? = some r) (h : once (l.take i) = out) (hm : r.lo ∈ out) : once (l.take (i + 1)) = out := by
  subst h; rw [take_rw l i r hr, once_snoc, if_pos hm]
theorem once_out {l : List Rw} {i : Nat} {r : Rw} {out : List (List UInt8)} (hr : l[i]? = some r) (h : once (l.take i) = out) (hm : r.lo ∉ out) : once (l.take (i + 1)) = out ++ [r.lo] := by
  subst h; rw [take_rw l i r hr, once_snoc, if_neg hm]
theorem once_len : ∀ (l : List Rw), (once l).length ≤ l.length := by
  have key : ∀ (l : List Rw) (out : List (List UInt8)), (l.foldl (fun out r => if r.lo ∈ out then out else out ++ [r.lo]) out).length ≤ out.length + l.length := by
    intro l
    induction l with
    | nil => intro out; exact Nat.le_refl _
    | cons r l ih =>
      intro out
      rw [List.foldl_cons]
      have h := ih (if r.lo ∈ out then out else out ++ [r.lo])
      rw [List.length_cons]
      split at h
      · rename_i hm; rw [if_pos hm]; omega
      · rename_i hm; rw [if_neg hm]; rw [List.length_append, List.length_singleton] at h; omega
  intro l
  have := key l []
  simpa [once] using this
theorem sel_len (k : Nat) (s : List UInt8) : (tab.filter (hitL k s)).length ≤ 40 := List.length_filter_le _ _
theorem longs_len (k : Nat) (s : List UInt8) : (longsR k s).length ≤ 40 := Nat.le_trans (once_len _) (sel_len k s)
def kindF (s : List UInt8) (l : List Rw) : Nat := l.foldl (fun m r => if r.lo = s ∨ r.sh = s then m ||| (1 <<< r.k) else m) 0
theorem kindF_lt (s : List UInt8) (i : Nat) : kindF s (tab.take i) < 64 := kinds_lt _ s 0 (by omega) fun r hr => (tab_k r (List.mem_of_mem_take hr)).2.1
theorem kindF_snoc (s : List UInt8) (l : List Rw) (r : Rw) : kindF s (l ++ [r]) = if r.lo = s ∨ r.sh = s then kindF s l ||| (1 <<< r.k) else kindF s l := by
  unfold kindF
  rw [List.foldl_append]; rfl
theorem kind_in {s : List UInt8} {i : Nat} {r : Rw} {m : Nat} (hr : tab[i]? = some r) (h : kindF s (tab.take i) = m) (hm : r.lo = s ∨ r.sh = s) : kindF s (tab.take (i + 1)) = m ||| (1 <<< r.k) := by
  subst h; rw [take_rw tab i r hr, kindF_snoc, if_pos hm]
theorem kind_out {s : List UInt8} {i : Nat} {r : Rw} {m : Nat} (hr : tab[i]? = some r) (h : kindF s (tab.take i) = m) (h1 : r.lo ≠ s) (h2 : r.sh ≠ s) : kindF s (tab.take (i + 1)) = m := by
  subst h; rw [take_rw tab i r hr, kindF_snoc, if_neg (by rintro (e | e); exact h1 e; exact h2 e)]
theorem shl_lt {r : Rw} {i : Nat} (hr : tab[i]? = some r) : 1 <<< r.k < 64 := by
  have h5 := (tab_k r (List.mem_of_getElem? hr)).2.1
  rw [Nat.shiftLeft_eq, Nat.one_mul]; exact Nat.lt_of_le_of_lt (Nat.pow_le_pow_right (by omega) h5) (by decide)
theorem first_of (k : Nat) (s : List UInt8) : firstR k s = zeroR ∨ firstR k s ∈ tab := by
  unfold firstR
  cases h : tab.find? (hitS k s) with
  | none => exact .inl rfl
  | some r => exact .inr (List.mem_of_find?_eq_some h)
theorem short_eq (k : Nat) (s : List UInt8) : veqs (firstR k s).c [.int .u8 0, .string ⟨#[]⟩, .string ⟨#[]⟩] = decide ((firstR k s).k = 0) := by
  rcases first_of k s with h | h
  · rw [h]; rfl
  · have h1 := (tab_k _ h).1
    generalize firstR k s = r at h1
    simp [veqs, veq]
    omega
end Go.Proofs.Ytehlnkhbbnddmaa
