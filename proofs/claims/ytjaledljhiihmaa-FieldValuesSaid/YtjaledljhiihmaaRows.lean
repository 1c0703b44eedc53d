/-
  No cell of these rows narrows 'for every input' (looked for: loops, veiled, ifaces, maps, wideKeys, modest, calm, conditions, laid).
  DERIVED. THE GIVEN ROWS OF THIS SEAT. 8 by the template 'for every input the law returns true; each argument reads behind the call as it read before'; 0 by the template 'total and deterministic' (their statements: YtjaledljhiihmaaTotals.lean).
  GIVEN WITH THE SEED: the statements are not yours to turn. If you find one false, say at which input.
  Laid BY PROGRAM, IN A SANDBOX (cutbox-rows.mjs): the forced cells as the released guide's own fill.sh prints them over the translation 64e9706f01e039e4… (all of the seat's roots in one cut). By AI agents, Wed Nov 11 2026. No macro, syntax, notation, axiom, sorry.
-/
import Derived.Test.YtjaledljhiihmaaChecked
import GoSem.Claim
import GoSem.ClaimJoined
import GoSem.ClaimMapViews
import Derived.JoinedTies
import Derived.KernelRfl
namespace Go.Proofs.Ytjaledljhiihmaa
/- THE CELL 'sum', in the pinned program and in every row, IS THE sha256 OF THE DUMP (.gsa) THAT YtjaledljhiihmaaProg.lean LOADS. Nothing in Lean hashes anything: it is a label: what it is worth is what the hold of that sum in a sandbox is worth. -/
noncomputable def Try.pinned : Pinned := { name := "ytjaledljhiihmaa", sum := "64e9706f01e039e48562eb9a262419461072f201b1ee8101f6918ebe3e95eec5", checked := Try.checked }
namespace Rows
def none {H : Type} : Left H := { results := [], args := [] }

/-- 'letterbaglaw18.FieldPowers': WHATEVER THE INPUT: true; the input reads as it did. -/
def fieldPowersSpec : ChangeSpec := { name := "fieldPowers", fn := fun _ => fun
  | [d1, d2, d3] => { results := [.lit (.bool true)], args := [d1, d2, d3] }
  | _ => none }
def fieldPowersRow : OpenClaim := { program := "ytjaledljhiihmaa", sum := "64e9706f01e039e48562eb9a262419461072f201b1ee8101f6918ebe3e95eec5", func := "letterbag/letterbaglaw18.FieldPowers", spec := "fieldPowers", unfollowed := true, recurses := true, apart := false }
def FieldPowersSaid : Prop := fieldPowersRow.holds Try.pinned (OpenSpec.ofChange fieldPowersSpec)

/-- ITS FALSE NEIGHBOUR: 'it returns false'. Refute it at one input. -/
def fieldPowersWrong : ChangeSpec := { name := "fieldPowers", fn := fun _ => fun
  | [d1, d2, d3] => { results := [.lit (.bool false)], args := [d1, d2, d3] }
  | _ => none }
def FieldPowersWrongFalsely : Prop := fieldPowersRow.holds Try.pinned (OpenSpec.ofChange fieldPowersWrong)

/-- 'letterbaglaw18.FieldTells': WHATEVER THE INPUT: true; the input reads as it did. -/
def fieldTellsSpec : ChangeSpec := { name := "fieldTells", fn := fun _ => fun
  | [d1, d2, d3] => { results := [.lit (.bool true)], args := [d1, d2, d3] }
  | _ => none }
def fieldTellsRow : OpenClaim := { program := "ytjaledljhiihmaa", sum := "64e9706f01e039e48562eb9a262419461072f201b1ee8101f6918ebe3e95eec5", func := "letterbag/letterbaglaw18.FieldTells", spec := "fieldTells", unfollowed := true, recurses := true, apart := false }
def FieldTellsSaid : Prop := fieldTellsRow.holds Try.pinned (OpenSpec.ofChange fieldTellsSpec)

/-- ITS FALSE NEIGHBOUR: 'it returns false'. Refute it at one input. -/
def fieldTellsWrong : ChangeSpec := { name := "fieldTells", fn := fun _ => fun
  | [d1, d2, d3] => { results := [.lit (.bool false)], args := [d1, d2, d3] }
  | _ => none }
def FieldTellsWrongFalsely : Prop := fieldTellsRow.holds Try.pinned (OpenSpec.ofChange fieldTellsWrong)

/-- 'letterbaglaw18.FieldValues': WHATEVER THE INPUT: true; the input reads as it did. -/
def fieldValuesSpec : ChangeSpec := { name := "fieldValues", fn := fun _ => fun
  | [d1, d2, d3, d4] => { results := [.lit (.bool true)], args := [d1, d2, d3, d4] }
  | _ => none }
def fieldValuesRow : OpenClaim := { program := "ytjaledljhiihmaa", sum := "64e9706f01e039e48562eb9a262419461072f201b1ee8101f6918ebe3e95eec5", func := "letterbag/letterbaglaw18.FieldValues", spec := "fieldValues", unfollowed := true, recurses := true, apart := false }
def FieldValuesSaid : Prop := fieldValuesRow.holds Try.pinned (OpenSpec.ofChange fieldValuesSpec)

/-- ITS FALSE NEIGHBOUR: 'it returns false'. Refute it at one input. -/
def fieldValuesWrong : ChangeSpec := { name := "fieldValues", fn := fun _ => fun
  | [d1, d2, d3, d4] => { results := [.lit (.bool false)], args := [d1, d2, d3, d4] }
  | _ => none }
def FieldValuesWrongFalsely : Prop := fieldValuesRow.holds Try.pinned (OpenSpec.ofChange fieldValuesWrong)

/-- 'letterbaglaw18.FieldLaws': WHATEVER THE INPUT: true; the input reads as it did. -/
def fieldLawsSpec : ChangeSpec := { name := "fieldLaws", fn := fun _ => fun
  | [d1, d2, d3] => { results := [.lit (.bool true)], args := [d1, d2, d3] }
  | _ => none }
def fieldLawsRow : OpenClaim := { program := "ytjaledljhiihmaa", sum := "64e9706f01e039e48562eb9a262419461072f201b1ee8101f6918ebe3e95eec5", func := "letterbag/letterbaglaw18.FieldLaws", spec := "fieldLaws", unfollowed := true, recurses := true, apart := false }
def FieldLawsSaid : Prop := fieldLawsRow.holds Try.pinned (OpenSpec.ofChange fieldLawsSpec)

/-- ITS FALSE NEIGHBOUR: 'it returns false'. Refute it at one input. -/
def fieldLawsWrong : ChangeSpec := { name := "fieldLaws", fn := fun _ => fun
  | [d1, d2, d3] => { results := [.lit (.bool false)], args := [d1, d2, d3] }
  | _ => none }
def FieldLawsWrongFalsely : Prop := fieldLawsRow.holds Try.pinned (OpenSpec.ofChange fieldLawsWrong)

/-- 'letterbaglaw18.FieldRoots': WHATEVER THE INPUT: true; the input reads as it did. -/
def fieldRootsSpec : ChangeSpec := { name := "fieldRoots", fn := fun _ => fun
  | [d1, d2] => { results := [.lit (.bool true)], args := [d1, d2] }
  | _ => none }
def fieldRootsRow : OpenClaim := { program := "ytjaledljhiihmaa", sum := "64e9706f01e039e48562eb9a262419461072f201b1ee8101f6918ebe3e95eec5", func := "letterbag/letterbaglaw18.FieldRoots", spec := "fieldRoots", unfollowed := true, recurses := true, apart := false }
def FieldRootsSaid : Prop := fieldRootsRow.holds Try.pinned (OpenSpec.ofChange fieldRootsSpec)

/-- ITS FALSE NEIGHBOUR: 'it returns false'. Refute it at one input. -/
def fieldRootsWrong : ChangeSpec := { name := "fieldRoots", fn := fun _ => fun
  | [d1, d2] => { results := [.lit (.bool false)], args := [d1, d2] }
  | _ => none }
def FieldRootsWrongFalsely : Prop := fieldRootsRow.holds Try.pinned (OpenSpec.ofChange fieldRootsWrong)

/-- 'letterbaglaw18.FieldThrough': WHATEVER THE INPUT: true; the input reads as it did. -/
def fieldThroughSpec : ChangeSpec := { name := "fieldThrough", fn := fun _ => fun
  | [d1, d2] => { results := [.lit (.bool true)], args := [d1, d2] }
  | _ => none }
def fieldThroughRow : OpenClaim := { program := "ytjaledljhiihmaa", sum := "64e9706f01e039e48562eb9a262419461072f201b1ee8101f6918ebe3e95eec5", func := "letterbag/letterbaglaw18.FieldThrough", spec := "fieldThrough", unfollowed := true, recurses := true, apart := false }
def FieldThroughSaid : Prop := fieldThroughRow.holds Try.pinned (OpenSpec.ofChange fieldThroughSpec)

/-- ITS FALSE NEIGHBOUR: 'it returns false'. Refute it at one input. -/
def fieldThroughWrong : ChangeSpec := { name := "fieldThrough", fn := fun _ => fun
  | [d1, d2] => { results := [.lit (.bool false)], args := [d1, d2] }
  | _ => none }
def FieldThroughWrongFalsely : Prop := fieldThroughRow.holds Try.pinned (OpenSpec.ofChange fieldThroughWrong)

/-- 'letterbaglaw18.FieldPolys': WHATEVER THE INPUT: true; the input reads as it did. -/
def fieldPolysSpec : ChangeSpec := { name := "fieldPolys", fn := fun _ => fun
  | [d1, d2] => { results := [.lit (.bool true)], args := [d1, d2] }
  | _ => none }
def fieldPolysRow : OpenClaim := { program := "ytjaledljhiihmaa", sum := "64e9706f01e039e48562eb9a262419461072f201b1ee8101f6918ebe3e95eec5", func := "letterbag/letterbaglaw18.FieldPolys", spec := "fieldPolys", unfollowed := true, recurses := true, apart := false }
def FieldPolysSaid : Prop := fieldPolysRow.holds Try.pinned (OpenSpec.ofChange fieldPolysSpec)

/-- ITS FALSE NEIGHBOUR: 'it returns false'. Refute it at one input. -/
def fieldPolysWrong : ChangeSpec := { name := "fieldPolys", fn := fun _ => fun
  | [d1, d2] => { results := [.lit (.bool false)], args := [d1, d2] }
  | _ => none }
def FieldPolysWrongFalsely : Prop := fieldPolysRow.holds Try.pinned (OpenSpec.ofChange fieldPolysWrong)

/-- 'letterbaglaw18.FieldDivides': WHATEVER THE INPUT: true; the input reads as it did. -/
def fieldDividesSpec : ChangeSpec := { name := "fieldDivides", fn := fun _ => fun
  | [d1, d2] => { results := [.lit (.bool true)], args := [d1, d2] }
  | _ => none }
def fieldDividesRow : OpenClaim := { program := "ytjaledljhiihmaa", sum := "64e9706f01e039e48562eb9a262419461072f201b1ee8101f6918ebe3e95eec5", func := "letterbag/letterbaglaw18.FieldDivides", spec := "fieldDivides", unfollowed := true, recurses := true, apart := false }
def FieldDividesSaid : Prop := fieldDividesRow.holds Try.pinned (OpenSpec.ofChange fieldDividesSpec)

/-- ITS FALSE NEIGHBOUR: 'it returns false'. Refute it at one input. -/
def fieldDividesWrong : ChangeSpec := { name := "fieldDivides", fn := fun _ => fun
  | [d1, d2] => { results := [.lit (.bool false)], args := [d1, d2] }
  | _ => none }
def FieldDividesWrongFalsely : Prop := fieldDividesRow.holds Try.pinned (OpenSpec.ofChange fieldDividesWrong)

/- THE SECOND FORM. 'bulk': how many values and letters a reading holds, each counted each time it is reached (what is shared counts as often as it is met; a slice's spare places count too). A statement '..UptoSaid' is the law's where the arguments, and the package variables that the reading takes, are together of bulk at most 1048576: NARROWER than '..Said'. Prove '..Said' where nothing that the law and all that it calls make is longer than what came in: it says more and counts as full. Else prove '..UptoSaid'. A law counts once. -/
mutual
def uptoBulk {H : Type} : DataW H → Nat
  | .lit (.string bytes) => bytes.length + 1
  | .lit _ => 1
  | .nil => 1
  | .ptr d => uptoBulk d + 1
  | .slice elems spare => uptoBulkAll elems + uptoBulkAll spare + 1
  | .agg parts => uptoBulkAll parts + 1
  | .iface _ d => uptoBulk d + 1
  | .map entries => uptoBulkEntries entries + 1
  | .held _ => 1
def uptoBulkAll {H : Type} : List (DataW H) → Nat
  | [] => 0
  | d :: r => uptoBulk d + uptoBulkAll r
def uptoBulkEntries {H : Type} : List (Lit × DataW H) → Nat
  | [] => 0
  | x :: r => uptoBulkEntry x + uptoBulkEntries r
def uptoBulkEntry {H : Type} : Lit × DataW H → Nat
  | (.string bytes, d) => bytes.length + uptoBulk d + 1
  | (_, d) => uptoBulk d + 1
 end
def uptoSmall : (H : Type) → List (DataW H) → Bool := fun _ ds => decide (uptoBulkAll ds ≤ 1048576)
def OpenSpec.upto (s : _root_.Go.ChangeSpec) : _root_.Go.OpenSpec := { _root_.Go.OpenSpec.ofChange s with cond := some uptoSmall }

/-- 'letterbaglaw18.FieldPowers', WHERE WHAT IT READS IS OF BULK AT MOST 1048576: true; the input reads as it did. -/
def fieldPowersUptoRow : OpenClaim := { program := "ytjaledljhiihmaa", sum := "64e9706f01e039e48562eb9a262419461072f201b1ee8101f6918ebe3e95eec5", func := "letterbag/letterbaglaw18.FieldPowers", spec := "fieldPowers", unfollowed := true, recurses := true, apart := false, narrowed := true }
def FieldPowersUptoSaid : Prop := fieldPowersUptoRow.holds Try.pinned (OpenSpec.upto fieldPowersSpec)

/-- 'letterbaglaw18.FieldTells', WHERE WHAT IT READS IS OF BULK AT MOST 1048576: true; the input reads as it did. -/
def fieldTellsUptoRow : OpenClaim := { program := "ytjaledljhiihmaa", sum := "64e9706f01e039e48562eb9a262419461072f201b1ee8101f6918ebe3e95eec5", func := "letterbag/letterbaglaw18.FieldTells", spec := "fieldTells", unfollowed := true, recurses := true, apart := false, narrowed := true }
def FieldTellsUptoSaid : Prop := fieldTellsUptoRow.holds Try.pinned (OpenSpec.upto fieldTellsSpec)

/-- 'letterbaglaw18.FieldValues', WHERE WHAT IT READS IS OF BULK AT MOST 1048576: true; the input reads as it did. -/
def fieldValuesUptoRow : OpenClaim := { program := "ytjaledljhiihmaa", sum := "64e9706f01e039e48562eb9a262419461072f201b1ee8101f6918ebe3e95eec5", func := "letterbag/letterbaglaw18.FieldValues", spec := "fieldValues", unfollowed := true, recurses := true, apart := false, narrowed := true }
def FieldValuesUptoSaid : Prop := fieldValuesUptoRow.holds Try.pinned (OpenSpec.upto fieldValuesSpec)

/-- 'letterbaglaw18.FieldLaws', WHERE WHAT IT READS IS OF BULK AT MOST 1048576: true; the input reads as it did. -/
def fieldLawsUptoRow : OpenClaim := { program := "ytjaledljhiihmaa", sum := "64e9706f01e039e48562eb9a262419461072f201b1ee8101f6918ebe3e95eec5", func := "letterbag/letterbaglaw18.FieldLaws", spec := "fieldLaws", unfollowed := true, recurses := true, apart := false, narrowed := true }
def FieldLawsUptoSaid : Prop := fieldLawsUptoRow.holds Try.pinned (OpenSpec.upto fieldLawsSpec)

/-- 'letterbaglaw18.FieldRoots', WHERE WHAT IT READS IS OF BULK AT MOST 1048576: true; the input reads as it did. -/
def fieldRootsUptoRow : OpenClaim := { program := "ytjaledljhiihmaa", sum := "64e9706f01e039e48562eb9a262419461072f201b1ee8101f6918ebe3e95eec5", func := "letterbag/letterbaglaw18.FieldRoots", spec := "fieldRoots", unfollowed := true, recurses := true, apart := false, narrowed := true }
def FieldRootsUptoSaid : Prop := fieldRootsUptoRow.holds Try.pinned (OpenSpec.upto fieldRootsSpec)

/-- 'letterbaglaw18.FieldThrough', WHERE WHAT IT READS IS OF BULK AT MOST 1048576: true; the input reads as it did. -/
def fieldThroughUptoRow : OpenClaim := { program := "ytjaledljhiihmaa", sum := "64e9706f01e039e48562eb9a262419461072f201b1ee8101f6918ebe3e95eec5", func := "letterbag/letterbaglaw18.FieldThrough", spec := "fieldThrough", unfollowed := true, recurses := true, apart := false, narrowed := true }
def FieldThroughUptoSaid : Prop := fieldThroughUptoRow.holds Try.pinned (OpenSpec.upto fieldThroughSpec)

/-- 'letterbaglaw18.FieldPolys', WHERE WHAT IT READS IS OF BULK AT MOST 1048576: true; the input reads as it did. -/
def fieldPolysUptoRow : OpenClaim := { program := "ytjaledljhiihmaa", sum := "64e9706f01e039e48562eb9a262419461072f201b1ee8101f6918ebe3e95eec5", func := "letterbag/letterbaglaw18.FieldPolys", spec := "fieldPolys", unfollowed := true, recurses := true, apart := false, narrowed := true }
def FieldPolysUptoSaid : Prop := fieldPolysUptoRow.holds Try.pinned (OpenSpec.upto fieldPolysSpec)

/-- 'letterbaglaw18.FieldDivides', WHERE WHAT IT READS IS OF BULK AT MOST 1048576: true; the input reads as it did. -/
def fieldDividesUptoRow : OpenClaim := { program := "ytjaledljhiihmaa", sum := "64e9706f01e039e48562eb9a262419461072f201b1ee8101f6918ebe3e95eec5", func := "letterbag/letterbaglaw18.FieldDivides", spec := "fieldDivides", unfollowed := true, recurses := true, apart := false, narrowed := true }
def FieldDividesUptoSaid : Prop := fieldDividesUptoRow.holds Try.pinned (OpenSpec.upto fieldDividesSpec)

end Rows
end Go.Proofs.Ytjaledljhiihmaa
