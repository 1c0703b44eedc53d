/- Lent slices of integers: a copy with marks behind it. -/
import Derived.Test.YtjhgihgggofocaaLJ
namespace Go.Proofs.Ytjhgihgggofocaa
open Go.RowKit
def mkZ (k i : Nat) : Int := 1000003 * ((k : Int) + 7) + (i : Int)
def mzs (k n : Nat) : List Int := (List.range n).map (mkZ k)
theorem mzs_len (k n : Nat) : (mzs k n).length = n := by simp [mzs]
theorem mzs_more (k n : Nat) : mzs k (n + 1) = mzs k n ++ [mkZ k n] := by unfold mzs; rw [List.range_succ, List.map_append]; rfl
theorem mzs_at (k n i : Nat) (h : i < n) : (mzs k n)[i]? = some (mkZ k i) := by unfold mzs; rw [List.getElem?_map, List.getElem?_range h]; rfl
theorem keptz_l {l m : List Int} {i : Nat} (h : i < l.length) : (l ++ m)[i]? = some l[i] := by
  rw [List.getElem?_append_left h]; exact List.getElem?_eq_getElem h
theorem keptz_m {l : List Int} {i : Nat} (h1 : l.length ≤ i) (h2 : i < l.length + 12) : (l ++ mzs 1 12)[i]? = some (mkZ 1 (i - l.length)) := by
  rw [List.getElem?_append_right h1]; exact mzs_at 1 12 _ (by omega)
section
variable {w w' : World} {B : Nat} {e : TypeId}
theorem lentz_rdl {g cap n : Nat} {l m : List Int} (hn : (l ++ m).length = n) (h : Own w B e 1 encI (.slice (some ⟨g, 0, none⟩) n cap) (l ++ m)) : RdL w 1 encI (.slice (some ⟨g, 0, none⟩) l.length cap) l := by
  subst hn
  obtain ⟨A, c, hv, h1, h2, h3⟩ := h.rdl encI_len
  injection hv with hv1 hv2 hv3
  subst hv1 hv3
  rw [List.length_append] at h1 h3
  refine ⟨_, cap, rfl, by omega, h2, fun hl => ?_⟩
  obtain ⟨ad, hA, hb, hc⟩ := h3 (by omega)
  exact ⟨ad, hA, hb, fun i a hi => hc i a (by rw [List.getElem?_append_left (List.getElem?_eq_some_iff.1 hi).1]; exact hi)⟩
theorem getz_one {l : List Int} {i : Nat} (h : i < l.length) : l[i]? = some l[i] := List.getElem?_eq_getElem h
theorem lentz_big {g cap : Nat} {l : List Int} (h : Own w B e 1 encI (.slice (some ⟨g, 0, none⟩) (l.length + 12) cap) (l ++ mzs 1 12)) : RdL w 1 encI (.slice (some ⟨g, 0, none⟩) (l.length + 12) cap) (l ++ mzs 1 12) := h.rdl encI_len
theorem lentz_norm {g cap : Nat} {l : List Int} (h : Own w B e 1 encI (.slice (some ⟨g, 0, none⟩) (l.length + 12) cap) (l ++ mzs 1 12)) : Own w B e 1 encI (.slice (some ⟨g, 0, none⟩) (l ++ mzs 1 12).length cap) (l ++ mzs 1 12) := by
  rw [show (l ++ mzs 1 12).length = l.length + 12 from by rw [List.length_append, mzs_len]]; exact h
theorem lentz_len (l : List Int) : (l ++ mzs 1 12).length = l.length + 12 := by rw [List.length_append, mzs_len]
theorem Own.capz {g n c : Nat} {l : List Int} (h : Own w B e 1 encI (.slice (some ⟨g, 0, none⟩) n c) l) : l.length ≤ c := by
  rcases h.2 with ⟨hv, _⟩ | ⟨g', cap, cur, hv, _, _, h1, _⟩
  · injection hv with hv; cases hv
  · injection hv with _ _ hv; omega
theorem lentz_cap {g cap : Nat} {l : List Int} (h : Own w B e 1 encI (.slice (some ⟨g, 0, none⟩) (l.length + 12) cap) (l ++ mzs 1 12)) : l.length + 12 ≤ cap := by have := Own.capz h; rwa [lentz_len] at this
theorem lentz_cap2 {g cap : Nat} {l : List Int} (h : Own w B e 1 encI (.slice (some ⟨g, 0, none⟩) (l.length + 12) cap) (l ++ mzs 1 12)) : (l ++ mzs 1 12).length ≤ cap := Own.capz h
end
end Go.Proofs.Ytjhgihgggofocaa
