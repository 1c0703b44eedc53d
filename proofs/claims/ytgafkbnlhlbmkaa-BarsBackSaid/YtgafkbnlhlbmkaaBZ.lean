/- A text upside down: the letters, what a round keeps. -/
import Derived.Test.YtgafkbnlhlbmkaaBB
import Derived.Test.YtgafkbnlhlbmkaaLW
import Derived.Test.YtgafkbnlhlbmkaaYB
import Derived.Shelf.Strings.BuilderRune
namespace Go.Proofs.Ytgafkbnlhlbmkaa
open Go.RowKit Go.Shelf
def flip (c : UInt8) : UInt8 := if c = 65 then 68 else if c = 68 then 65 else c
def turnL (t : List UInt8) : List UInt8 := (t.map flip).reverse
theorem turnL_len (t : List UInt8) : (turnL t).length = t.length := by simp [turnL]
theorem flip_a {c : UInt8} (h : (c.toNat : Int) = 65) : flip c = 68 := by
  have : c = 65 := UInt8.toNat_inj.1 (by simpa using Int.ofNat.inj h)
  unfold flip; rw [if_pos this]
theorem flip_d {c : UInt8} (h : (c.toNat : Int) = 68) : flip c = 65 := by
  have : c = 68 := UInt8.toNat_inj.1 (by simpa using Int.ofNat.inj h)
  subst this; rfl
theorem flip_o {c : UInt8} (h1 : ¬ (c.toNat : Int) = 65) (h2 : ¬ (c.toNat : Int) = 68) : flip c = c := by
  unfold flip
  rw [if_neg (fun e => h1 (by subst e; rfl)), if_neg (fun e => h2 (by subst e; rfl))]
theorem flip_lo {c : UInt8} (h : c.toNat < 128) : (flip c).toNat < 128 := by
  unfold flip; split
  · decide
  · split
    · decide
    · exact h
theorem turn_more {t : List UInt8} {j : Nat} {c : UInt8} (hj : j < t.length) (h : t[t.length - 1 - j]? = some c) : (turnL t).take (j + 1) = (turnL t).take j ++ [flip c] := by
  have e : (turnL t)[j]? = some (flip c) := by
    unfold turnL
    rw [List.getElem?_reverse (by simpa using hj), List.length_map, List.getElem?_map, h]; rfl
  rw [List.take_add_one, e]; rfl
/-- What a round of the loop keeps: what lay below w0's end; blocks of other types than bytes, but b. -/
def Kr (w0 : World) (b : Nat) (w w' : World) : Prop := Below w0.heap.size w w' ∧ ∀ (k : Nat) (c : Array Value) (T : TypeId) (fz : Nat × Nat), w.heap[k]? = some (.cells c T fz) → T ≠ 5 → k ≠ b → w'.heap[k]? = some (.cells c T fz)
theorem Kr.trans {w0 : World} {b : Nat} {x y z : World} (h : Kr w0 b x y) (k : Kr w0 b y z) : Kr w0 b x z := ⟨Below.trans h.1 k.1, fun i c T fz hi hT hb => k.2 i c T fz (h.2 i c T fz hi hT hb) hT hb⟩
theorem Rn.kept {w0 w w' : World} {b g e cap : Nat} {t : List UInt8} (h : Rn w g e cap t) (k : Kr w0 b w w') (he : e ≠ 5) (hg : g ≠ b) : Rn w' g e cap t := ⟨k.2 g _ _ _ h.1 he hg, h.2⟩
theorem grown0 {w w' : World} (hx : Ex w w') : w.grownBy w' none := ⟨hx.os, hx.tape, hx.output, hx.size, fun k hk _ => hx.block k hk⟩
end Go.Proofs.Ytgafkbnlhlbmkaa
