/-
  No cell of these rows narrows 'for every input' (looked for: loops, veiled, ifaces, maps, wideKeys, modest, calm, conditions, laid).
  DERIVED. THE GIVEN ROWS OF THIS SEAT. 5 by the template 'for every input the law returns true; each argument reads behind the call as it read before'; 0 by the template 'total and deterministic' (their statements: YtehlnkhbbnddmaaTotals.lean).
  GIVEN WITH THE SEED: the statements are not yours to turn. If you find one false, say at which input.
  Laid BY PROGRAM, IN A SANDBOX (cutbox-rows.mjs): the forced cells as the released guide's own fill.sh prints them over the translation a2fb60bf1acc6b81… (all of the seat's roots in one cut). By AI agents, Wed Nov 11 2026. No macro, syntax, notation, axiom, sorry.
-/
import Derived.Test.YtehlnkhbbnddmaaChecked
import GoSem.Claim
import GoSem.ClaimJoined
import GoSem.ClaimMapViews
import Derived.JoinedTies
import Derived.KernelRfl
namespace Go.Proofs.Ytehlnkhbbnddmaa
/- THE CELL 'sum', in the pinned program and in every row, IS THE sha256 OF THE DUMP (.gsa) THAT YtehlnkhbbnddmaaProg.lean LOADS. Nothing in Lean hashes anything: it is a label: what it is worth is what the hold of that sum in a sandbox is worth. -/
noncomputable def Try.pinned : Pinned := { name := "ytehlnkhbbnddmaa", sum := "a2fb60bf1acc6b81b34e2eeb8695a79de78a83138b59cb419e03c18937df089d", checked := Try.checked }
namespace Rows
def none {H : Type} : Left H := { results := [], args := [] }

/-- 'letterbaglaw05.FoldCase': WHATEVER THE INPUT: true; the input reads as it did. -/
def foldCaseSpec : ChangeSpec := { name := "foldCase", fn := fun _ => fun
  | [d] => { results := [.lit (.bool true)], args := [d] }
  | _ => none }
def foldCaseRow : OpenClaim := { program := "ytehlnkhbbnddmaa", sum := "a2fb60bf1acc6b81b34e2eeb8695a79de78a83138b59cb419e03c18937df089d", func := "letterbag/letterbaglaw05.FoldCase", spec := "foldCase", unfollowed := true, recurses := true, apart := false }
def FoldCaseSaid : Prop := foldCaseRow.holds Try.pinned (OpenSpec.ofChange foldCaseSpec)

/-- ITS FALSE NEIGHBOUR: 'it returns false'. Refute it at one input. -/
def foldCaseWrong : ChangeSpec := { name := "foldCase", fn := fun _ => fun
  | [d] => { results := [.lit (.bool false)], args := [d] }
  | _ => none }
def FoldCaseWrongFalsely : Prop := foldCaseRow.holds Try.pinned (OpenSpec.ofChange foldCaseWrong)

/-- 'letterbaglaw05.FoldTwice': WHATEVER THE INPUT: true; the input reads as it did. -/
def foldTwiceSpec : ChangeSpec := { name := "foldTwice", fn := fun _ => fun
  | [d] => { results := [.lit (.bool true)], args := [d] }
  | _ => none }
def foldTwiceRow : OpenClaim := { program := "ytehlnkhbbnddmaa", sum := "a2fb60bf1acc6b81b34e2eeb8695a79de78a83138b59cb419e03c18937df089d", func := "letterbag/letterbaglaw05.FoldTwice", spec := "foldTwice", unfollowed := true, recurses := true, apart := false }
def FoldTwiceSaid : Prop := foldTwiceRow.holds Try.pinned (OpenSpec.ofChange foldTwiceSpec)

/-- ITS FALSE NEIGHBOUR: 'it returns false'. Refute it at one input. -/
def foldTwiceWrong : ChangeSpec := { name := "foldTwice", fn := fun _ => fun
  | [d] => { results := [.lit (.bool false)], args := [d] }
  | _ => none }
def FoldTwiceWrongFalsely : Prop := foldTwiceRow.holds Try.pinned (OpenSpec.ofChange foldTwiceWrong)

/-- 'letterbaglaw05.FoldBoth': WHATEVER THE INPUT: true; the input reads as it did. -/
def foldBothSpec : ChangeSpec := { name := "foldBoth", fn := fun _ => fun
  | [d1, d2, d3] => { results := [.lit (.bool true)], args := [d1, d2, d3] }
  | _ => none }
def foldBothRow : OpenClaim := { program := "ytehlnkhbbnddmaa", sum := "a2fb60bf1acc6b81b34e2eeb8695a79de78a83138b59cb419e03c18937df089d", func := "letterbag/letterbaglaw05.FoldBoth", spec := "foldBoth", unfollowed := true, recurses := true, apart := false }
def FoldBothSaid : Prop := foldBothRow.holds Try.pinned (OpenSpec.ofChange foldBothSpec)

/-- ITS FALSE NEIGHBOUR: 'it returns false'. Refute it at one input. -/
def foldBothWrong : ChangeSpec := { name := "foldBoth", fn := fun _ => fun
  | [d1, d2, d3] => { results := [.lit (.bool false)], args := [d1, d2, d3] }
  | _ => none }
def FoldBothWrongFalsely : Prop := foldBothRow.holds Try.pinned (OpenSpec.ofChange foldBothWrong)

/-- 'letterbaglaw05.FoldSmall': WHATEVER THE INPUT: true; the input reads as it did. -/
def foldSmallSpec : ChangeSpec := { name := "foldSmall", fn := fun _ => fun
  | [] => { results := [.lit (.bool true)], args := [] }
  | _ => none }
def foldSmallRow : OpenClaim := { program := "ytehlnkhbbnddmaa", sum := "a2fb60bf1acc6b81b34e2eeb8695a79de78a83138b59cb419e03c18937df089d", func := "letterbag/letterbaglaw05.FoldSmall", spec := "foldSmall", unfollowed := true, recurses := true, apart := false }
def FoldSmallSaid : Prop := foldSmallRow.holds Try.pinned (OpenSpec.ofChange foldSmallSpec)

/-- ITS FALSE NEIGHBOUR: 'it returns false'. Refute it at one input. -/
def foldSmallWrong : ChangeSpec := { name := "foldSmall", fn := fun _ => fun
  | [] => { results := [.lit (.bool false)], args := [] }
  | _ => none }
def FoldSmallWrongFalsely : Prop := foldSmallRow.holds Try.pinned (OpenSpec.ofChange foldSmallWrong)

/-- 'letterbaglaw05.FoldJoined': WHATEVER THE INPUT: true; the input reads as it did. -/
def foldJoinedSpec : ChangeSpec := { name := "foldJoined", fn := fun _ => fun
  | [d1, d2, d3] => { results := [.lit (.bool true)], args := [d1, d2, d3] }
  | _ => none }
def foldJoinedRow : OpenClaim := { program := "ytehlnkhbbnddmaa", sum := "a2fb60bf1acc6b81b34e2eeb8695a79de78a83138b59cb419e03c18937df089d", func := "letterbag/letterbaglaw05.FoldJoined", spec := "foldJoined", inPlace := ["internal/bytealg.IndexByteString", "internal/bytealg.IndexString", "internal/abi.NoEscape", "internal/bytealg.MakeNoZero"], unfollowed := true, recurses := true, named := ["internal/bytealg.MaxLen"], apart := false }
def FoldJoinedSaid : Prop := foldJoinedRow.holds Try.pinned (OpenSpec.ofChange foldJoinedSpec)

/-- ITS FALSE NEIGHBOUR: 'it returns false'. Refute it at one input. -/
def foldJoinedWrong : ChangeSpec := { name := "foldJoined", fn := fun _ => fun
  | [d1, d2, d3] => { results := [.lit (.bool false)], args := [d1, d2, d3] }
  | _ => none }
def FoldJoinedWrongFalsely : Prop := foldJoinedRow.holds Try.pinned (OpenSpec.ofChange foldJoinedWrong)

/- THE SECOND FORM. 'bulk': how many values and letters a reading holds, each counted each time it is reached (what is shared counts as often as it is met; a slice's spare places count too). A statement '..UptoSaid' is the law's where the arguments, and the package variables that the reading takes, are together of bulk at most 1048576: NARROWER than '..Said'. Prove '..Said' where nothing that the law and all that it calls make is longer than what came in: it says more and counts as full. Else prove '..UptoSaid'. A law counts once. -/
mutual
def uptoBulk {H : Type} : DataW H → Nat
  | .lit (.string bytes) => bytes.length + 1
  | .lit _ => 1
  | .nil => 1
  | .ptr d => uptoBulk d + 1
  | .slice elems spare => uptoBulkAll elems + uptoBulkAll spare + 1
  | .agg parts => uptoBulkAll parts + 1
  | .iface _ d => uptoBulk d + 1
  | .map entries => uptoBulkEntries entries + 1
  | .held _ => 1
def uptoBulkAll {H : Type} : List (DataW H) → Nat
  | [] => 0
  | d :: r => uptoBulk d + uptoBulkAll r
def uptoBulkEntries {H : Type} : List (Lit × DataW H) → Nat
  | [] => 0
  | x :: r => uptoBulkEntry x + uptoBulkEntries r
def uptoBulkEntry {H : Type} : Lit × DataW H → Nat
  | (.string bytes, d) => bytes.length + uptoBulk d + 1
  | (_, d) => uptoBulk d + 1
 end
def uptoSmall : (H : Type) → List (DataW H) → Bool := fun _ ds => decide (uptoBulkAll ds ≤ 1048576)
def OpenSpec.upto (s : _root_.Go.ChangeSpec) : _root_.Go.OpenSpec := { _root_.Go.OpenSpec.ofChange s with cond := some uptoSmall }

/-- 'letterbaglaw05.FoldCase', WHERE WHAT IT READS IS OF BULK AT MOST 1048576: true; the input reads as it did. -/
def foldCaseUptoRow : OpenClaim := { program := "ytehlnkhbbnddmaa", sum := "a2fb60bf1acc6b81b34e2eeb8695a79de78a83138b59cb419e03c18937df089d", func := "letterbag/letterbaglaw05.FoldCase", spec := "foldCase", unfollowed := true, recurses := true, apart := false, narrowed := true }
def FoldCaseUptoSaid : Prop := foldCaseUptoRow.holds Try.pinned (OpenSpec.upto foldCaseSpec)

/-- 'letterbaglaw05.FoldTwice', WHERE WHAT IT READS IS OF BULK AT MOST 1048576: true; the input reads as it did. -/
def foldTwiceUptoRow : OpenClaim := { program := "ytehlnkhbbnddmaa", sum := "a2fb60bf1acc6b81b34e2eeb8695a79de78a83138b59cb419e03c18937df089d", func := "letterbag/letterbaglaw05.FoldTwice", spec := "foldTwice", unfollowed := true, recurses := true, apart := false, narrowed := true }
def FoldTwiceUptoSaid : Prop := foldTwiceUptoRow.holds Try.pinned (OpenSpec.upto foldTwiceSpec)

/-- 'letterbaglaw05.FoldBoth', WHERE WHAT IT READS IS OF BULK AT MOST 1048576: true; the input reads as it did. -/
def foldBothUptoRow : OpenClaim := { program := "ytehlnkhbbnddmaa", sum := "a2fb60bf1acc6b81b34e2eeb8695a79de78a83138b59cb419e03c18937df089d", func := "letterbag/letterbaglaw05.FoldBoth", spec := "foldBoth", unfollowed := true, recurses := true, apart := false, narrowed := true }
def FoldBothUptoSaid : Prop := foldBothUptoRow.holds Try.pinned (OpenSpec.upto foldBothSpec)

/-- 'letterbaglaw05.FoldSmall', WHERE WHAT IT READS IS OF BULK AT MOST 1048576: true; the input reads as it did. -/
def foldSmallUptoRow : OpenClaim := { program := "ytehlnkhbbnddmaa", sum := "a2fb60bf1acc6b81b34e2eeb8695a79de78a83138b59cb419e03c18937df089d", func := "letterbag/letterbaglaw05.FoldSmall", spec := "foldSmall", unfollowed := true, recurses := true, apart := false, narrowed := true }
def FoldSmallUptoSaid : Prop := foldSmallUptoRow.holds Try.pinned (OpenSpec.upto foldSmallSpec)

/-- 'letterbaglaw05.FoldJoined', WHERE WHAT IT READS IS OF BULK AT MOST 1048576: true; the input reads as it did. -/
def foldJoinedUptoRow : OpenClaim := { program := "ytehlnkhbbnddmaa", sum := "a2fb60bf1acc6b81b34e2eeb8695a79de78a83138b59cb419e03c18937df089d", func := "letterbag/letterbaglaw05.FoldJoined", spec := "foldJoined", inPlace := ["internal/bytealg.IndexByteString", "internal/bytealg.IndexString", "internal/abi.NoEscape", "internal/bytealg.MakeNoZero"], unfollowed := true, recurses := true, named := ["internal/bytealg.MaxLen"], apart := false, narrowed := true }
def FoldJoinedUptoSaid : Prop := foldJoinedUptoRow.holds Try.pinned (OpenSpec.upto foldJoinedSpec)

end Rows
end Go.Proofs.Ytehlnkhbbnddmaa
