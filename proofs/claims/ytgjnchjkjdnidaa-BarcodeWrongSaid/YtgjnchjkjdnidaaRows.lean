/-
  No cell of these rows narrows 'for every input' (looked for: loops, veiled, ifaces, maps, wideKeys, modest, calm, conditions, laid).
  DERIVED. THE GIVEN ROWS OF THIS SEAT. 5 by the template 'for every input the law returns true; each argument reads behind the call as it read before'; 0 by the template 'total and deterministic' (their statements: YtgjnchjkjdnidaaTotals.lean).
  GIVEN WITH THE SEED: the statements are not yours to turn. If you find one false, say at which input.
  Laid BY PROGRAM, IN A SANDBOX (cutbox-rows.mjs): the forced cells as the released guide's own fill.sh prints them over the translation 3b92bff88f29e290… (all of the seat's roots in one cut). By AI agents, Wed Nov 11 2026. No macro, syntax, notation, axiom, sorry.
-/
import Derived.Test.YtgjnchjkjdnidaaChecked
import GoSem.Claim
import GoSem.ClaimJoined
import GoSem.ClaimMapViews
import Derived.JoinedTies
import Derived.KernelRfl
namespace Go.Proofs.Ytgjnchjkjdnidaa
/- THE CELL 'sum', in the pinned program and in every row, IS THE sha256 OF THE DUMP (.gsa) THAT YtgjnchjkjdnidaaProg.lean LOADS. Nothing in Lean hashes anything: it is a label: what it is worth is what the hold of that sum in a sandbox is worth. -/
noncomputable def Try.pinned : Pinned := { name := "ytgjnchjkjdnidaa", sum := "3b92bff88f29e290491023e6239f00706c6a4d45b8e4d9dc54cac339a0c3bdeb", checked := Try.checked }
namespace Rows
def none {H : Type} : Left H := { results := [], args := [] }

/-- 'letterbaglaw22.BarcodeMeasured': WHATEVER THE INPUT: true; the input reads as it did. -/
def barcodeMeasuredSpec : ChangeSpec := { name := "barcodeMeasured", fn := fun _ => fun
  | [d1, d2, d3, d4] => { results := [.lit (.bool true)], args := [d1, d2, d3, d4] }
  | _ => none }
def barcodeMeasuredRow : OpenClaim := { program := "ytgjnchjkjdnidaa", sum := "3b92bff88f29e290491023e6239f00706c6a4d45b8e4d9dc54cac339a0c3bdeb", func := "letterbag/letterbaglaw22.BarcodeMeasured", spec := "barcodeMeasured", inPlace := ["internal/abi.NoEscape", "internal/bytealg.IndexByteString", "internal/bytealg.IndexString", "internal/bytealg.MakeNoZero"], unfollowed := true, recurses := true, named := ["internal/bytealg.MaxLen"], apart := false }
def BarcodeMeasuredSaid : Prop := barcodeMeasuredRow.holds Try.pinned (OpenSpec.ofChange barcodeMeasuredSpec)

/-- ITS FALSE NEIGHBOUR: 'it returns false'. Refute it at one input. -/
def barcodeMeasuredWrong : ChangeSpec := { name := "barcodeMeasured", fn := fun _ => fun
  | [d1, d2, d3, d4] => { results := [.lit (.bool false)], args := [d1, d2, d3, d4] }
  | _ => none }
def BarcodeMeasuredWrongFalsely : Prop := barcodeMeasuredRow.holds Try.pinned (OpenSpec.ofChange barcodeMeasuredWrong)

/-- 'letterbaglaw22.BarcodeReads': WHATEVER THE INPUT: true; the input reads as it did. -/
def barcodeReadsSpec : ChangeSpec := { name := "barcodeReads", fn := fun _ => fun
  | [d1, d2, d3] => { results := [.lit (.bool true)], args := [d1, d2, d3] }
  | _ => none }
def barcodeReadsRow : OpenClaim := { program := "ytgjnchjkjdnidaa", sum := "3b92bff88f29e290491023e6239f00706c6a4d45b8e4d9dc54cac339a0c3bdeb", func := "letterbag/letterbaglaw22.BarcodeReads", spec := "barcodeReads", inPlace := ["internal/abi.NoEscape", "internal/bytealg.IndexByteString", "internal/bytealg.IndexString", "internal/bytealg.MakeNoZero"], unfollowed := true, recurses := true, named := ["internal/bytealg.MaxLen"], apart := false }
def BarcodeReadsSaid : Prop := barcodeReadsRow.holds Try.pinned (OpenSpec.ofChange barcodeReadsSpec)

/-- ITS FALSE NEIGHBOUR: 'it returns false'. Refute it at one input. -/
def barcodeReadsWrong : ChangeSpec := { name := "barcodeReads", fn := fun _ => fun
  | [d1, d2, d3] => { results := [.lit (.bool false)], args := [d1, d2, d3] }
  | _ => none }
def BarcodeReadsWrongFalsely : Prop := barcodeReadsRow.holds Try.pinned (OpenSpec.ofChange barcodeReadsWrong)

/-- 'letterbaglaw22.BarcodeNear': WHATEVER THE INPUT: true; the input reads as it did. -/
def barcodeNearSpec : ChangeSpec := { name := "barcodeNear", fn := fun _ => fun
  | [d1, d2, d3] => { results := [.lit (.bool true)], args := [d1, d2, d3] }
  | _ => none }
def barcodeNearRow : OpenClaim := { program := "ytgjnchjkjdnidaa", sum := "3b92bff88f29e290491023e6239f00706c6a4d45b8e4d9dc54cac339a0c3bdeb", func := "letterbag/letterbaglaw22.BarcodeNear", spec := "barcodeNear", inPlace := ["internal/abi.NoEscape", "internal/bytealg.IndexByteString", "internal/bytealg.IndexString", "internal/bytealg.MakeNoZero"], unfollowed := true, recurses := true, named := ["internal/bytealg.MaxLen"], apart := false }
def BarcodeNearSaid : Prop := barcodeNearRow.holds Try.pinned (OpenSpec.ofChange barcodeNearSpec)

/-- ITS FALSE NEIGHBOUR: 'it returns false'. Refute it at one input. -/
def barcodeNearWrong : ChangeSpec := { name := "barcodeNear", fn := fun _ => fun
  | [d1, d2, d3] => { results := [.lit (.bool false)], args := [d1, d2, d3] }
  | _ => none }
def BarcodeNearWrongFalsely : Prop := barcodeNearRow.holds Try.pinned (OpenSpec.ofChange barcodeNearWrong)

/-- 'letterbaglaw22.BarcodeApart': WHATEVER THE INPUT: true; the input reads as it did. -/
def barcodeApartSpec : ChangeSpec := { name := "barcodeApart", fn := fun _ => fun
  | [d1, d2, d3] => { results := [.lit (.bool true)], args := [d1, d2, d3] }
  | _ => none }
def barcodeApartRow : OpenClaim := { program := "ytgjnchjkjdnidaa", sum := "3b92bff88f29e290491023e6239f00706c6a4d45b8e4d9dc54cac339a0c3bdeb", func := "letterbag/letterbaglaw22.BarcodeApart", spec := "barcodeApart", inPlace := ["internal/abi.NoEscape", "internal/bytealg.IndexByteString", "internal/bytealg.IndexString", "internal/bytealg.MakeNoZero"], unfollowed := true, recurses := true, named := ["internal/bytealg.MaxLen"], apart := false }
def BarcodeApartSaid : Prop := barcodeApartRow.holds Try.pinned (OpenSpec.ofChange barcodeApartSpec)

/-- ITS FALSE NEIGHBOUR: 'it returns false'. Refute it at one input. -/
def barcodeApartWrong : ChangeSpec := { name := "barcodeApart", fn := fun _ => fun
  | [d1, d2, d3] => { results := [.lit (.bool false)], args := [d1, d2, d3] }
  | _ => none }
def BarcodeApartWrongFalsely : Prop := barcodeApartRow.holds Try.pinned (OpenSpec.ofChange barcodeApartWrong)

/-- 'letterbaglaw22.BarcodeWrong': WHATEVER THE INPUT: true; the input reads as it did. -/
def barcodeWrongSpec : ChangeSpec := { name := "barcodeWrong", fn := fun _ => fun
  | [d1, d2] => { results := [.lit (.bool true)], args := [d1, d2] }
  | _ => none }
def barcodeWrongRow : OpenClaim := { program := "ytgjnchjkjdnidaa", sum := "3b92bff88f29e290491023e6239f00706c6a4d45b8e4d9dc54cac339a0c3bdeb", func := "letterbag/letterbaglaw22.BarcodeWrong", spec := "barcodeWrong", inPlace := ["internal/abi.NoEscape", "internal/bytealg.IndexByteString", "internal/bytealg.IndexString", "internal/bytealg.MakeNoZero"], unfollowed := true, recurses := true, named := ["internal/bytealg.MaxLen"], apart := false }
def BarcodeWrongSaid : Prop := barcodeWrongRow.holds Try.pinned (OpenSpec.ofChange barcodeWrongSpec)

/-- ITS FALSE NEIGHBOUR: 'it returns false'. Refute it at one input. -/
def barcodeWrongWrong : ChangeSpec := { name := "barcodeWrong", fn := fun _ => fun
  | [d1, d2] => { results := [.lit (.bool false)], args := [d1, d2] }
  | _ => none }
def BarcodeWrongWrongFalsely : Prop := barcodeWrongRow.holds Try.pinned (OpenSpec.ofChange barcodeWrongWrong)

/- THE SECOND FORM. 'bulk': how many values and letters a reading holds, each counted each time it is reached (what is shared counts as often as it is met; a slice's spare places count too). A statement '..UptoSaid' is the law's where the arguments, and the package variables that the reading takes, are together of bulk at most 1048576: NARROWER than '..Said'. Prove '..Said' where nothing that the law and all that it calls make is longer than what came in: it says more and counts as full. Else prove '..UptoSaid'. A law counts once. -/
mutual
def uptoBulk {H : Type} : DataW H → Nat
  | .lit (.string bytes) => bytes.length + 1
  | .lit _ => 1
  | .nil => 1
  | .ptr d => uptoBulk d + 1
  | .slice elems spare => uptoBulkAll elems + uptoBulkAll spare + 1
  | .agg parts => uptoBulkAll parts + 1
  | .iface _ d => uptoBulk d + 1
  | .map entries => uptoBulkEntries entries + 1
  | .held _ => 1
def uptoBulkAll {H : Type} : List (DataW H) → Nat
  | [] => 0
  | d :: r => uptoBulk d + uptoBulkAll r
def uptoBulkEntries {H : Type} : List (Lit × DataW H) → Nat
  | [] => 0
  | x :: r => uptoBulkEntry x + uptoBulkEntries r
def uptoBulkEntry {H : Type} : Lit × DataW H → Nat
  | (.string bytes, d) => bytes.length + uptoBulk d + 1
  | (_, d) => uptoBulk d + 1
 end
def uptoSmall : (H : Type) → List (DataW H) → Bool := fun _ ds => decide (uptoBulkAll ds ≤ 1048576)
def OpenSpec.upto (s : _root_.Go.ChangeSpec) : _root_.Go.OpenSpec := { _root_.Go.OpenSpec.ofChange s with cond := some uptoSmall }

/-- 'letterbaglaw22.BarcodeMeasured', WHERE WHAT IT READS IS OF BULK AT MOST 1048576: true; the input reads as it did. -/
def barcodeMeasuredUptoRow : OpenClaim := { program := "ytgjnchjkjdnidaa", sum := "3b92bff88f29e290491023e6239f00706c6a4d45b8e4d9dc54cac339a0c3bdeb", func := "letterbag/letterbaglaw22.BarcodeMeasured", spec := "barcodeMeasured", inPlace := ["internal/abi.NoEscape", "internal/bytealg.IndexByteString", "internal/bytealg.IndexString", "internal/bytealg.MakeNoZero"], unfollowed := true, recurses := true, named := ["internal/bytealg.MaxLen"], apart := false, narrowed := true }
def BarcodeMeasuredUptoSaid : Prop := barcodeMeasuredUptoRow.holds Try.pinned (OpenSpec.upto barcodeMeasuredSpec)

/-- 'letterbaglaw22.BarcodeReads', WHERE WHAT IT READS IS OF BULK AT MOST 1048576: true; the input reads as it did. -/
def barcodeReadsUptoRow : OpenClaim := { program := "ytgjnchjkjdnidaa", sum := "3b92bff88f29e290491023e6239f00706c6a4d45b8e4d9dc54cac339a0c3bdeb", func := "letterbag/letterbaglaw22.BarcodeReads", spec := "barcodeReads", inPlace := ["internal/abi.NoEscape", "internal/bytealg.IndexByteString", "internal/bytealg.IndexString", "internal/bytealg.MakeNoZero"], unfollowed := true, recurses := true, named := ["internal/bytealg.MaxLen"], apart := false, narrowed := true }
def BarcodeReadsUptoSaid : Prop := barcodeReadsUptoRow.holds Try.pinned (OpenSpec.upto barcodeReadsSpec)

/-- 'letterbaglaw22.BarcodeNear', WHERE WHAT IT READS IS OF BULK AT MOST 1048576: true; the input reads as it did. -/
def barcodeNearUptoRow : OpenClaim := { program := "ytgjnchjkjdnidaa", sum := "3b92bff88f29e290491023e6239f00706c6a4d45b8e4d9dc54cac339a0c3bdeb", func := "letterbag/letterbaglaw22.BarcodeNear", spec := "barcodeNear", inPlace := ["internal/abi.NoEscape", "internal/bytealg.IndexByteString", "internal/bytealg.IndexString", "internal/bytealg.MakeNoZero"], unfollowed := true, recurses := true, named := ["internal/bytealg.MaxLen"], apart := false, narrowed := true }
def BarcodeNearUptoSaid : Prop := barcodeNearUptoRow.holds Try.pinned (OpenSpec.upto barcodeNearSpec)

/-- 'letterbaglaw22.BarcodeApart', WHERE WHAT IT READS IS OF BULK AT MOST 1048576: true; the input reads as it did. -/
def barcodeApartUptoRow : OpenClaim := { program := "ytgjnchjkjdnidaa", sum := "3b92bff88f29e290491023e6239f00706c6a4d45b8e4d9dc54cac339a0c3bdeb", func := "letterbag/letterbaglaw22.BarcodeApart", spec := "barcodeApart", inPlace := ["internal/abi.NoEscape", "internal/bytealg.IndexByteString", "internal/bytealg.IndexString", "internal/bytealg.MakeNoZero"], unfollowed := true, recurses := true, named := ["internal/bytealg.MaxLen"], apart := false, narrowed := true }
def BarcodeApartUptoSaid : Prop := barcodeApartUptoRow.holds Try.pinned (OpenSpec.upto barcodeApartSpec)

/-- 'letterbaglaw22.BarcodeWrong', WHERE WHAT IT READS IS OF BULK AT MOST 1048576: true; the input reads as it did. -/
def barcodeWrongUptoRow : OpenClaim := { program := "ytgjnchjkjdnidaa", sum := "3b92bff88f29e290491023e6239f00706c6a4d45b8e4d9dc54cac339a0c3bdeb", func := "letterbag/letterbaglaw22.BarcodeWrong", spec := "barcodeWrong", inPlace := ["internal/abi.NoEscape", "internal/bytealg.IndexByteString", "internal/bytealg.IndexString", "internal/bytealg.MakeNoZero"], unfollowed := true, recurses := true, named := ["internal/bytealg.MaxLen"], apart := false, narrowed := true }
def BarcodeWrongUptoSaid : Prop := barcodeWrongUptoRow.holds Try.pinned (OpenSpec.upto barcodeWrongSpec)

end Rows
end Go.Proofs.Ytgjnchjkjdnidaa
