/-
  No cell of these rows narrows 'for every input' (looked for: loops, veiled, ifaces, maps, wideKeys, modest, calm, conditions, laid).
  DERIVED. THE GIVEN ROWS OF THIS SEAT. 7 by the template 'for every input the law returns true; each argument reads behind the call as it read before'; 0 by the template 'total and deterministic' (their statements: YtgafkbnlhlbmkaaTotals.lean).
  GIVEN WITH THE SEED: the statements are not yours to turn. If you find one false, say at which input.
  Laid BY PROGRAM, IN A SANDBOX (cutbox-rows.mjs): the forced cells as the released guide's own fill.sh prints them over the translation f3456fc5e1926999… (all of the seat's roots in one cut). By AI agents, Wed Nov 11 2026. No macro, syntax, notation, axiom, sorry.
-/
import Derived.Test.YtgafkbnlhlbmkaaChecked
import GoSem.Claim
import GoSem.ClaimJoined
import GoSem.ClaimMapViews
import Derived.JoinedTies
import Derived.KernelRfl
namespace Go.Proofs.Ytgafkbnlhlbmkaa
/- THE CELL 'sum', in the pinned program and in every row, IS THE sha256 OF THE DUMP (.gsa) THAT YtgafkbnlhlbmkaaProg.lean LOADS. Nothing in Lean hashes anything: it is a label: what it is worth is what the hold of that sum in a sandbox is worth. -/
noncomputable def Try.pinned : Pinned := { name := "ytgafkbnlhlbmkaa", sum := "f3456fc5e192699924e4dff5709dd1ea415393ec141f403ee7de686009b758a7", checked := Try.checked }
namespace Rows
def none {H : Type} : Left H := { results := [], args := [] }

/-- 'letterbaglaw20.BarsWrites': WHATEVER THE INPUT: true; the input reads as it did. -/
def barsWritesSpec : ChangeSpec := { name := "barsWrites", fn := fun _ => fun
  | [d] => { results := [.lit (.bool true)], args := [d] }
  | _ => none }
def barsWritesRow : OpenClaim := { program := "ytgafkbnlhlbmkaa", sum := "f3456fc5e192699924e4dff5709dd1ea415393ec141f403ee7de686009b758a7", func := "letterbag/letterbaglaw20.BarsWrites", spec := "barsWrites", inPlace := ["internal/abi.NoEscape", "internal/bytealg.IndexByteString", "internal/bytealg.IndexString"], unfollowed := true, recurses := true, named := ["internal/bytealg.MaxLen"], apart := false }
def BarsWritesSaid : Prop := barsWritesRow.holds Try.pinned (OpenSpec.ofChange barsWritesSpec)

/-- ITS FALSE NEIGHBOUR: 'it returns false'. Refute it at one input. -/
def barsWritesWrong : ChangeSpec := { name := "barsWrites", fn := fun _ => fun
  | [d] => { results := [.lit (.bool false)], args := [d] }
  | _ => none }
def BarsWritesWrongFalsely : Prop := barsWritesRow.holds Try.pinned (OpenSpec.ofChange barsWritesWrong)

/-- 'letterbaglaw20.BarsBack': WHATEVER THE INPUT: true; the input reads as it did. -/
def barsBackSpec : ChangeSpec := { name := "barsBack", fn := fun _ => fun
  | [d1, d2] => { results := [.lit (.bool true)], args := [d1, d2] }
  | _ => none }
def barsBackRow : OpenClaim := { program := "ytgafkbnlhlbmkaa", sum := "f3456fc5e192699924e4dff5709dd1ea415393ec141f403ee7de686009b758a7", func := "letterbag/letterbaglaw20.BarsBack", spec := "barsBack", inPlace := ["internal/abi.NoEscape", "internal/bytealg.IndexByteString", "internal/bytealg.IndexString"], unfollowed := true, recurses := true, named := ["internal/bytealg.MaxLen"], apart := false }
def BarsBackSaid : Prop := barsBackRow.holds Try.pinned (OpenSpec.ofChange barsBackSpec)

/-- ITS FALSE NEIGHBOUR: 'it returns false'. Refute it at one input. -/
def barsBackWrong : ChangeSpec := { name := "barsBack", fn := fun _ => fun
  | [d1, d2] => { results := [.lit (.bool false)], args := [d1, d2] }
  | _ => none }
def BarsBackWrongFalsely : Prop := barsBackRow.holds Try.pinned (OpenSpec.ofChange barsBackWrong)

/-- 'letterbaglaw20.BarsTurns': WHATEVER THE INPUT: true; the input reads as it did. -/
def barsTurnsSpec : ChangeSpec := { name := "barsTurns", fn := fun _ => fun
  | [d1, d2] => { results := [.lit (.bool true)], args := [d1, d2] }
  | _ => none }
def barsTurnsRow : OpenClaim := { program := "ytgafkbnlhlbmkaa", sum := "f3456fc5e192699924e4dff5709dd1ea415393ec141f403ee7de686009b758a7", func := "letterbag/letterbaglaw20.BarsTurns", spec := "barsTurns", inPlace := ["internal/bytealg.IndexByteString", "internal/bytealg.IndexString", "internal/abi.NoEscape"], unfollowed := true, recurses := true, named := ["internal/bytealg.MaxLen"], apart := false }
def BarsTurnsSaid : Prop := barsTurnsRow.holds Try.pinned (OpenSpec.ofChange barsTurnsSpec)

/-- ITS FALSE NEIGHBOUR: 'it returns false'. Refute it at one input. -/
def barsTurnsWrong : ChangeSpec := { name := "barsTurns", fn := fun _ => fun
  | [d1, d2] => { results := [.lit (.bool false)], args := [d1, d2] }
  | _ => none }
def BarsTurnsWrongFalsely : Prop := barsTurnsRow.holds Try.pinned (OpenSpec.ofChange barsTurnsWrong)

/-- 'letterbaglaw20.BarsApart': WHATEVER THE INPUT: true; the input reads as it did. -/
def barsApartSpec : ChangeSpec := { name := "barsApart", fn := fun _ => fun
  | [d1, d2] => { results := [.lit (.bool true)], args := [d1, d2] }
  | _ => none }
def barsApartRow : OpenClaim := { program := "ytgafkbnlhlbmkaa", sum := "f3456fc5e192699924e4dff5709dd1ea415393ec141f403ee7de686009b758a7", func := "letterbag/letterbaglaw20.BarsApart", spec := "barsApart", inPlace := ["internal/abi.NoEscape", "internal/bytealg.IndexByteString", "internal/bytealg.IndexString"], unfollowed := true, recurses := true, named := ["internal/bytealg.MaxLen"], apart := false }
def BarsApartSaid : Prop := barsApartRow.holds Try.pinned (OpenSpec.ofChange barsApartSpec)

/-- ITS FALSE NEIGHBOUR: 'it returns false'. Refute it at one input. -/
def barsApartWrong : ChangeSpec := { name := "barsApart", fn := fun _ => fun
  | [d1, d2] => { results := [.lit (.bool false)], args := [d1, d2] }
  | _ => none }
def BarsApartWrongFalsely : Prop := barsApartRow.holds Try.pinned (OpenSpec.ofChange barsApartWrong)

/-- 'letterbaglaw20.BarsReads': WHATEVER THE INPUT: true; the input reads as it did. -/
def barsReadsSpec : ChangeSpec := { name := "barsReads", fn := fun _ => fun
  | [d] => { results := [.lit (.bool true)], args := [d] }
  | _ => none }
def barsReadsRow : OpenClaim := { program := "ytgafkbnlhlbmkaa", sum := "f3456fc5e192699924e4dff5709dd1ea415393ec141f403ee7de686009b758a7", func := "letterbag/letterbaglaw20.BarsReads", spec := "barsReads", inPlace := ["internal/abi.NoEscape", "internal/bytealg.IndexByteString", "internal/bytealg.IndexString"], unfollowed := true, recurses := true, named := ["internal/bytealg.MaxLen"], apart := false }
def BarsReadsSaid : Prop := barsReadsRow.holds Try.pinned (OpenSpec.ofChange barsReadsSpec)

/-- ITS FALSE NEIGHBOUR: 'it returns false'. Refute it at one input. -/
def barsReadsWrong : ChangeSpec := { name := "barsReads", fn := fun _ => fun
  | [d] => { results := [.lit (.bool false)], args := [d] }
  | _ => none }
def BarsReadsWrongFalsely : Prop := barsReadsRow.holds Try.pinned (OpenSpec.ofChange barsReadsWrong)

/-- 'letterbaglaw20.BarsFrames': WHATEVER THE INPUT: true; the input reads as it did. -/
def barsFramesSpec : ChangeSpec := { name := "barsFrames", fn := fun _ => fun
  | [d1, d2, d3] => { results := [.lit (.bool true)], args := [d1, d2, d3] }
  | _ => none }
def barsFramesRow : OpenClaim := { program := "ytgafkbnlhlbmkaa", sum := "f3456fc5e192699924e4dff5709dd1ea415393ec141f403ee7de686009b758a7", func := "letterbag/letterbaglaw20.BarsFrames", spec := "barsFrames", inPlace := ["internal/bytealg.IndexByteString", "internal/bytealg.IndexString", "internal/abi.NoEscape"], unfollowed := true, recurses := true, named := ["internal/bytealg.MaxLen"], apart := false }
def BarsFramesSaid : Prop := barsFramesRow.holds Try.pinned (OpenSpec.ofChange barsFramesSpec)

/-- ITS FALSE NEIGHBOUR: 'it returns false'. Refute it at one input. -/
def barsFramesWrong : ChangeSpec := { name := "barsFrames", fn := fun _ => fun
  | [d1, d2, d3] => { results := [.lit (.bool false)], args := [d1, d2, d3] }
  | _ => none }
def BarsFramesWrongFalsely : Prop := barsFramesRow.holds Try.pinned (OpenSpec.ofChange barsFramesWrong)

/-- 'letterbaglaw20.BarsWrong': WHATEVER THE INPUT: true; the input reads as it did. -/
def barsWrongSpec : ChangeSpec := { name := "barsWrong", fn := fun _ => fun
  | [d1, d2] => { results := [.lit (.bool true)], args := [d1, d2] }
  | _ => none }
def barsWrongRow : OpenClaim := { program := "ytgafkbnlhlbmkaa", sum := "f3456fc5e192699924e4dff5709dd1ea415393ec141f403ee7de686009b758a7", func := "letterbag/letterbaglaw20.BarsWrong", spec := "barsWrong", inPlace := ["internal/bytealg.IndexByteString", "internal/bytealg.IndexString", "internal/abi.NoEscape"], unfollowed := true, recurses := true, named := ["internal/bytealg.MaxLen"], apart := false }
def BarsWrongSaid : Prop := barsWrongRow.holds Try.pinned (OpenSpec.ofChange barsWrongSpec)

/-- ITS FALSE NEIGHBOUR: 'it returns false'. Refute it at one input. -/
def barsWrongWrong : ChangeSpec := { name := "barsWrong", fn := fun _ => fun
  | [d1, d2] => { results := [.lit (.bool false)], args := [d1, d2] }
  | _ => none }
def BarsWrongWrongFalsely : Prop := barsWrongRow.holds Try.pinned (OpenSpec.ofChange barsWrongWrong)

/- THE SECOND FORM. 'bulk': how many values and letters a reading holds, each counted each time it is reached (what is shared counts as often as it is met; a slice's spare places count too). A statement '..UptoSaid' is the law's where the arguments, and the package variables that the reading takes, are together of bulk at most 1048576: NARROWER than '..Said'. Prove '..Said' where nothing that the law and all that it calls make is longer than what came in: it says more and counts as full. Else prove '..UptoSaid'. A law counts once. -/
mutual
def uptoBulk {H : Type} : DataW H → Nat
  | .lit (.string bytes) => bytes.length + 1
  | .lit _ => 1
  | .nil => 1
  | .ptr d => uptoBulk d + 1
  | .slice elems spare => uptoBulkAll elems + uptoBulkAll spare + 1
  | .agg parts => uptoBulkAll parts + 1
  | .iface _ d => uptoBulk d + 1
  | .map entries => uptoBulkEntries entries + 1
  | .held _ => 1
def uptoBulkAll {H : Type} : List (DataW H) → Nat
  | [] => 0
  | d :: r => uptoBulk d + uptoBulkAll r
def uptoBulkEntries {H : Type} : List (Lit × DataW H) → Nat
  | [] => 0
  | x :: r => uptoBulkEntry x + uptoBulkEntries r
def uptoBulkEntry {H : Type} : Lit × DataW H → Nat
  | (.string bytes, d) => bytes.length + uptoBulk d + 1
  | (_, d) => uptoBulk d + 1
 end
def uptoSmall : (H : Type) → List (DataW H) → Bool := fun _ ds => decide (uptoBulkAll ds ≤ 1048576)
def OpenSpec.upto (s : _root_.Go.ChangeSpec) : _root_.Go.OpenSpec := { _root_.Go.OpenSpec.ofChange s with cond := some uptoSmall }

/-- 'letterbaglaw20.BarsWrites', WHERE WHAT IT READS IS OF BULK AT MOST 1048576: true; the input reads as it did. -/
def barsWritesUptoRow : OpenClaim := { program := "ytgafkbnlhlbmkaa", sum := "f3456fc5e192699924e4dff5709dd1ea415393ec141f403ee7de686009b758a7", func := "letterbag/letterbaglaw20.BarsWrites", spec := "barsWrites", inPlace := ["internal/abi.NoEscape", "internal/bytealg.IndexByteString", "internal/bytealg.IndexString"], unfollowed := true, recurses := true, named := ["internal/bytealg.MaxLen"], apart := false, narrowed := true }
def BarsWritesUptoSaid : Prop := barsWritesUptoRow.holds Try.pinned (OpenSpec.upto barsWritesSpec)

/-- 'letterbaglaw20.BarsBack', WHERE WHAT IT READS IS OF BULK AT MOST 1048576: true; the input reads as it did. -/
def barsBackUptoRow : OpenClaim := { program := "ytgafkbnlhlbmkaa", sum := "f3456fc5e192699924e4dff5709dd1ea415393ec141f403ee7de686009b758a7", func := "letterbag/letterbaglaw20.BarsBack", spec := "barsBack", inPlace := ["internal/abi.NoEscape", "internal/bytealg.IndexByteString", "internal/bytealg.IndexString"], unfollowed := true, recurses := true, named := ["internal/bytealg.MaxLen"], apart := false, narrowed := true }
def BarsBackUptoSaid : Prop := barsBackUptoRow.holds Try.pinned (OpenSpec.upto barsBackSpec)

/-- 'letterbaglaw20.BarsTurns', WHERE WHAT IT READS IS OF BULK AT MOST 1048576: true; the input reads as it did. -/
def barsTurnsUptoRow : OpenClaim := { program := "ytgafkbnlhlbmkaa", sum := "f3456fc5e192699924e4dff5709dd1ea415393ec141f403ee7de686009b758a7", func := "letterbag/letterbaglaw20.BarsTurns", spec := "barsTurns", inPlace := ["internal/bytealg.IndexByteString", "internal/bytealg.IndexString", "internal/abi.NoEscape"], unfollowed := true, recurses := true, named := ["internal/bytealg.MaxLen"], apart := false, narrowed := true }
def BarsTurnsUptoSaid : Prop := barsTurnsUptoRow.holds Try.pinned (OpenSpec.upto barsTurnsSpec)

/-- 'letterbaglaw20.BarsApart', WHERE WHAT IT READS IS OF BULK AT MOST 1048576: true; the input reads as it did. -/
def barsApartUptoRow : OpenClaim := { program := "ytgafkbnlhlbmkaa", sum := "f3456fc5e192699924e4dff5709dd1ea415393ec141f403ee7de686009b758a7", func := "letterbag/letterbaglaw20.BarsApart", spec := "barsApart", inPlace := ["internal/abi.NoEscape", "internal/bytealg.IndexByteString", "internal/bytealg.IndexString"], unfollowed := true, recurses := true, named := ["internal/bytealg.MaxLen"], apart := false, narrowed := true }
def BarsApartUptoSaid : Prop := barsApartUptoRow.holds Try.pinned (OpenSpec.upto barsApartSpec)

/-- 'letterbaglaw20.BarsReads', WHERE WHAT IT READS IS OF BULK AT MOST 1048576: true; the input reads as it did. -/
def barsReadsUptoRow : OpenClaim := { program := "ytgafkbnlhlbmkaa", sum := "f3456fc5e192699924e4dff5709dd1ea415393ec141f403ee7de686009b758a7", func := "letterbag/letterbaglaw20.BarsReads", spec := "barsReads", inPlace := ["internal/abi.NoEscape", "internal/bytealg.IndexByteString", "internal/bytealg.IndexString"], unfollowed := true, recurses := true, named := ["internal/bytealg.MaxLen"], apart := false, narrowed := true }
def BarsReadsUptoSaid : Prop := barsReadsUptoRow.holds Try.pinned (OpenSpec.upto barsReadsSpec)

/-- 'letterbaglaw20.BarsFrames', WHERE WHAT IT READS IS OF BULK AT MOST 1048576: true; the input reads as it did. -/
def barsFramesUptoRow : OpenClaim := { program := "ytgafkbnlhlbmkaa", sum := "f3456fc5e192699924e4dff5709dd1ea415393ec141f403ee7de686009b758a7", func := "letterbag/letterbaglaw20.BarsFrames", spec := "barsFrames", inPlace := ["internal/bytealg.IndexByteString", "internal/bytealg.IndexString", "internal/abi.NoEscape"], unfollowed := true, recurses := true, named := ["internal/bytealg.MaxLen"], apart := false, narrowed := true }
def BarsFramesUptoSaid : Prop := barsFramesUptoRow.holds Try.pinned (OpenSpec.upto barsFramesSpec)

/-- 'letterbaglaw20.BarsWrong', WHERE WHAT IT READS IS OF BULK AT MOST 1048576: true; the input reads as it did. -/
def barsWrongUptoRow : OpenClaim := { program := "ytgafkbnlhlbmkaa", sum := "f3456fc5e192699924e4dff5709dd1ea415393ec141f403ee7de686009b758a7", func := "letterbag/letterbaglaw20.BarsWrong", spec := "barsWrong", inPlace := ["internal/bytealg.IndexByteString", "internal/bytealg.IndexString", "internal/abi.NoEscape"], unfollowed := true, recurses := true, named := ["internal/bytealg.MaxLen"], apart := false, narrowed := true }
def BarsWrongUptoSaid : Prop := barsWrongUptoRow.holds Try.pinned (OpenSpec.upto barsWrongSpec)

end Rows
end Go.Proofs.Ytgafkbnlhlbmkaa
