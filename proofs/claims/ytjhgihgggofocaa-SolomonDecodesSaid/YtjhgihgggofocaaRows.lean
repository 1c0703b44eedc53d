/-
  No cell of these rows narrows 'for every input' (looked for: loops, veiled, ifaces, maps, wideKeys, modest, calm, conditions, laid).
  DERIVED. THE GIVEN ROWS OF THIS SEAT. 7 by the template 'for every input the law returns true; each argument reads behind the call as it read before'; 0 by the template 'total and deterministic' (their statements: YtjhgihgggofocaaTotals.lean).
  GIVEN WITH THE SEED: the statements are not yours to turn. If you find one false, say at which input.
  Laid BY PROGRAM, IN A SANDBOX (cutbox-rows.mjs): the forced cells as the released guide's own fill.sh prints them over the translation e09aaefef2fdd782… (all of the seat's roots in one cut). By AI agents, Wed Nov 11 2026. No macro, syntax, notation, axiom, sorry.
-/
import Derived.Test.YtjhgihgggofocaaChecked
import GoSem.Claim
import GoSem.ClaimJoined
import GoSem.ClaimMapViews
import Derived.JoinedTies
import Derived.KernelRfl
namespace Go.Proofs.Ytjhgihgggofocaa
/- THE CELL 'sum', in the pinned program and in every row, IS THE sha256 OF THE DUMP (.gsa) THAT YtjhgihgggofocaaProg.lean LOADS. Nothing in Lean hashes anything: it is a label: what it is worth is what the hold of that sum in a sandbox is worth. -/
noncomputable def Try.pinned : Pinned := { name := "ytjhgihgggofocaa", sum := "e09aaefef2fdd782e06c66c02c053f2ca3f15daac856cbd0fb9e4ad878400363", checked := Try.checked }
namespace Rows
def none {H : Type} : Left H := { results := [], args := [] }

/-- 'letterbaglaw19.SolomonDecodes': WHATEVER THE INPUT: true; the input reads as it did. -/
def solomonDecodesSpec : ChangeSpec := { name := "solomonDecodes", fn := fun _ => fun
  | [d1, d2] => { results := [.lit (.bool true)], args := [d1, d2] }
  | _ => none }
def solomonDecodesRow : OpenClaim := { program := "ytjhgihgggofocaa", sum := "e09aaefef2fdd782e06c66c02c053f2ca3f15daac856cbd0fb9e4ad878400363", func := "letterbag/letterbaglaw19.SolomonDecodes", spec := "solomonDecodes", unfollowed := true, recurses := true, apart := false }
def SolomonDecodesSaid : Prop := solomonDecodesRow.holds Try.pinned (OpenSpec.ofChange solomonDecodesSpec)

/-- ITS FALSE NEIGHBOUR: 'it returns false'. Refute it at one input. -/
def solomonDecodesWrong : ChangeSpec := { name := "solomonDecodes", fn := fun _ => fun
  | [d1, d2] => { results := [.lit (.bool false)], args := [d1, d2] }
  | _ => none }
def SolomonDecodesWrongFalsely : Prop := solomonDecodesRow.holds Try.pinned (OpenSpec.ofChange solomonDecodesWrong)

/-- 'letterbaglaw19.SolomonApart': WHATEVER THE INPUT: true; the input reads as it did. -/
def solomonApartSpec : ChangeSpec := { name := "solomonApart", fn := fun _ => fun
  | [d1, d2] => { results := [.lit (.bool true)], args := [d1, d2] }
  | _ => none }
def solomonApartRow : OpenClaim := { program := "ytjhgihgggofocaa", sum := "e09aaefef2fdd782e06c66c02c053f2ca3f15daac856cbd0fb9e4ad878400363", func := "letterbag/letterbaglaw19.SolomonApart", spec := "solomonApart", unfollowed := true, recurses := true, apart := false }
def SolomonApartSaid : Prop := solomonApartRow.holds Try.pinned (OpenSpec.ofChange solomonApartSpec)

/-- ITS FALSE NEIGHBOUR: 'it returns false'. Refute it at one input. -/
def solomonApartWrong : ChangeSpec := { name := "solomonApart", fn := fun _ => fun
  | [d1, d2] => { results := [.lit (.bool false)], args := [d1, d2] }
  | _ => none }
def SolomonApartWrongFalsely : Prop := solomonApartRow.holds Try.pinned (OpenSpec.ofChange solomonApartWrong)

/-- 'letterbaglaw19.SolomonTells': WHATEVER THE INPUT: true; the input reads as it did. -/
def solomonTellsSpec : ChangeSpec := { name := "solomonTells", fn := fun _ => fun
  | [d] => { results := [.lit (.bool true)], args := [d] }
  | _ => none }
def solomonTellsRow : OpenClaim := { program := "ytjhgihgggofocaa", sum := "e09aaefef2fdd782e06c66c02c053f2ca3f15daac856cbd0fb9e4ad878400363", func := "letterbag/letterbaglaw19.SolomonTells", spec := "solomonTells", unfollowed := true, recurses := true, apart := false }
def SolomonTellsSaid : Prop := solomonTellsRow.holds Try.pinned (OpenSpec.ofChange solomonTellsSpec)

/-- ITS FALSE NEIGHBOUR: 'it returns false'. Refute it at one input. -/
def solomonTellsWrong : ChangeSpec := { name := "solomonTells", fn := fun _ => fun
  | [d] => { results := [.lit (.bool false)], args := [d] }
  | _ => none }
def SolomonTellsWrongFalsely : Prop := solomonTellsRow.holds Try.pinned (OpenSpec.ofChange solomonTellsWrong)

/-- 'letterbaglaw19.SolomonCorrects': WHATEVER THE INPUT: true; the input reads as it did. -/
def solomonCorrectsSpec : ChangeSpec := { name := "solomonCorrects", fn := fun _ => fun
  | [d1, d2] => { results := [.lit (.bool true)], args := [d1, d2] }
  | _ => none }
def solomonCorrectsRow : OpenClaim := { program := "ytjhgihgggofocaa", sum := "e09aaefef2fdd782e06c66c02c053f2ca3f15daac856cbd0fb9e4ad878400363", func := "letterbag/letterbaglaw19.SolomonCorrects", spec := "solomonCorrects", unfollowed := true, recurses := true, apart := false }
def SolomonCorrectsSaid : Prop := solomonCorrectsRow.holds Try.pinned (OpenSpec.ofChange solomonCorrectsSpec)

/-- ITS FALSE NEIGHBOUR: 'it returns false'. Refute it at one input. -/
def solomonCorrectsWrong : ChangeSpec := { name := "solomonCorrects", fn := fun _ => fun
  | [d1, d2] => { results := [.lit (.bool false)], args := [d1, d2] }
  | _ => none }
def SolomonCorrectsWrongFalsely : Prop := solomonCorrectsRow.holds Try.pinned (OpenSpec.ofChange solomonCorrectsWrong)

/-- 'letterbaglaw19.SolomonWithin': WHATEVER THE INPUT: true; the input reads as it did. -/
def solomonWithinSpec : ChangeSpec := { name := "solomonWithin", fn := fun _ => fun
  | [d1, d2] => { results := [.lit (.bool true)], args := [d1, d2] }
  | _ => none }
def solomonWithinRow : OpenClaim := { program := "ytjhgihgggofocaa", sum := "e09aaefef2fdd782e06c66c02c053f2ca3f15daac856cbd0fb9e4ad878400363", func := "letterbag/letterbaglaw19.SolomonWithin", spec := "solomonWithin", unfollowed := true, recurses := true, apart := false }
def SolomonWithinSaid : Prop := solomonWithinRow.holds Try.pinned (OpenSpec.ofChange solomonWithinSpec)

/-- ITS FALSE NEIGHBOUR: 'it returns false'. Refute it at one input. -/
def solomonWithinWrong : ChangeSpec := { name := "solomonWithin", fn := fun _ => fun
  | [d1, d2] => { results := [.lit (.bool false)], args := [d1, d2] }
  | _ => none }
def SolomonWithinWrongFalsely : Prop := solomonWithinRow.holds Try.pinned (OpenSpec.ofChange solomonWithinWrong)

/-- 'letterbaglaw19.SolomonSums': WHATEVER THE INPUT: true; the input reads as it did. -/
def solomonSumsSpec : ChangeSpec := { name := "solomonSums", fn := fun _ => fun
  | [d1, d2, d3, d4] => { results := [.lit (.bool true)], args := [d1, d2, d3, d4] }
  | _ => none }
def solomonSumsRow : OpenClaim := { program := "ytjhgihgggofocaa", sum := "e09aaefef2fdd782e06c66c02c053f2ca3f15daac856cbd0fb9e4ad878400363", func := "letterbag/letterbaglaw19.SolomonSums", spec := "solomonSums", unfollowed := true, recurses := true, apart := false }
def SolomonSumsSaid : Prop := solomonSumsRow.holds Try.pinned (OpenSpec.ofChange solomonSumsSpec)

/-- ITS FALSE NEIGHBOUR: 'it returns false'. Refute it at one input. -/
def solomonSumsWrong : ChangeSpec := { name := "solomonSums", fn := fun _ => fun
  | [d1, d2, d3, d4] => { results := [.lit (.bool false)], args := [d1, d2, d3, d4] }
  | _ => none }
def SolomonSumsWrongFalsely : Prop := solomonSumsRow.holds Try.pinned (OpenSpec.ofChange solomonSumsWrong)

/-- 'letterbaglaw19.SolomonWrong': WHATEVER THE INPUT: true; the input reads as it did. -/
def solomonWrongSpec : ChangeSpec := { name := "solomonWrong", fn := fun _ => fun
  | [d1, d2, d3] => { results := [.lit (.bool true)], args := [d1, d2, d3] }
  | _ => none }
def solomonWrongRow : OpenClaim := { program := "ytjhgihgggofocaa", sum := "e09aaefef2fdd782e06c66c02c053f2ca3f15daac856cbd0fb9e4ad878400363", func := "letterbag/letterbaglaw19.SolomonWrong", spec := "solomonWrong", unfollowed := true, recurses := true, apart := false }
def SolomonWrongSaid : Prop := solomonWrongRow.holds Try.pinned (OpenSpec.ofChange solomonWrongSpec)

/-- ITS FALSE NEIGHBOUR: 'it returns false'. Refute it at one input. -/
def solomonWrongWrong : ChangeSpec := { name := "solomonWrong", fn := fun _ => fun
  | [d1, d2, d3] => { results := [.lit (.bool false)], args := [d1, d2, d3] }
  | _ => none }
def SolomonWrongWrongFalsely : Prop := solomonWrongRow.holds Try.pinned (OpenSpec.ofChange solomonWrongWrong)

/- THE SECOND FORM. 'bulk': how many values and letters a reading holds, each counted each time it is reached (what is shared counts as often as it is met; a slice's spare places count too). A statement '..UptoSaid' is the law's where the arguments, and the package variables that the reading takes, are together of bulk at most 1048576: NARROWER than '..Said'. Prove '..Said' where nothing that the law and all that it calls make is longer than what came in: it says more and counts as full. Else prove '..UptoSaid'. A law counts once. -/
mutual
def uptoBulk {H : Type} : DataW H → Nat
  | .lit (.string bytes) => bytes.length + 1
  | .lit _ => 1
  | .nil => 1
  | .ptr d => uptoBulk d + 1
  | .slice elems spare => uptoBulkAll elems + uptoBulkAll spare + 1
  | .agg parts => uptoBulkAll parts + 1
  | .iface _ d => uptoBulk d + 1
  | .map entries => uptoBulkEntries entries + 1
  | .held _ => 1
def uptoBulkAll {H : Type} : List (DataW H) → Nat
  | [] => 0
  | d :: r => uptoBulk d + uptoBulkAll r
def uptoBulkEntries {H : Type} : List (Lit × DataW H) → Nat
  | [] => 0
  | x :: r => uptoBulkEntry x + uptoBulkEntries r
def uptoBulkEntry {H : Type} : Lit × DataW H → Nat
  | (.string bytes, d) => bytes.length + uptoBulk d + 1
  | (_, d) => uptoBulk d + 1
 end
def uptoSmall : (H : Type) → List (DataW H) → Bool := fun _ ds => decide (uptoBulkAll ds ≤ 1048576)
def OpenSpec.upto (s : _root_.Go.ChangeSpec) : _root_.Go.OpenSpec := { _root_.Go.OpenSpec.ofChange s with cond := some uptoSmall }

/-- 'letterbaglaw19.SolomonDecodes', WHERE WHAT IT READS IS OF BULK AT MOST 1048576: true; the input reads as it did. -/
def solomonDecodesUptoRow : OpenClaim := { program := "ytjhgihgggofocaa", sum := "e09aaefef2fdd782e06c66c02c053f2ca3f15daac856cbd0fb9e4ad878400363", func := "letterbag/letterbaglaw19.SolomonDecodes", spec := "solomonDecodes", unfollowed := true, recurses := true, apart := false, narrowed := true }
def SolomonDecodesUptoSaid : Prop := solomonDecodesUptoRow.holds Try.pinned (OpenSpec.upto solomonDecodesSpec)

/-- 'letterbaglaw19.SolomonApart', WHERE WHAT IT READS IS OF BULK AT MOST 1048576: true; the input reads as it did. -/
def solomonApartUptoRow : OpenClaim := { program := "ytjhgihgggofocaa", sum := "e09aaefef2fdd782e06c66c02c053f2ca3f15daac856cbd0fb9e4ad878400363", func := "letterbag/letterbaglaw19.SolomonApart", spec := "solomonApart", unfollowed := true, recurses := true, apart := false, narrowed := true }
def SolomonApartUptoSaid : Prop := solomonApartUptoRow.holds Try.pinned (OpenSpec.upto solomonApartSpec)

/-- 'letterbaglaw19.SolomonTells', WHERE WHAT IT READS IS OF BULK AT MOST 1048576: true; the input reads as it did. -/
def solomonTellsUptoRow : OpenClaim := { program := "ytjhgihgggofocaa", sum := "e09aaefef2fdd782e06c66c02c053f2ca3f15daac856cbd0fb9e4ad878400363", func := "letterbag/letterbaglaw19.SolomonTells", spec := "solomonTells", unfollowed := true, recurses := true, apart := false, narrowed := true }
def SolomonTellsUptoSaid : Prop := solomonTellsUptoRow.holds Try.pinned (OpenSpec.upto solomonTellsSpec)

/-- 'letterbaglaw19.SolomonCorrects', WHERE WHAT IT READS IS OF BULK AT MOST 1048576: true; the input reads as it did. -/
def solomonCorrectsUptoRow : OpenClaim := { program := "ytjhgihgggofocaa", sum := "e09aaefef2fdd782e06c66c02c053f2ca3f15daac856cbd0fb9e4ad878400363", func := "letterbag/letterbaglaw19.SolomonCorrects", spec := "solomonCorrects", unfollowed := true, recurses := true, apart := false, narrowed := true }
def SolomonCorrectsUptoSaid : Prop := solomonCorrectsUptoRow.holds Try.pinned (OpenSpec.upto solomonCorrectsSpec)

/-- 'letterbaglaw19.SolomonWithin', WHERE WHAT IT READS IS OF BULK AT MOST 1048576: true; the input reads as it did. -/
def solomonWithinUptoRow : OpenClaim := { program := "ytjhgihgggofocaa", sum := "e09aaefef2fdd782e06c66c02c053f2ca3f15daac856cbd0fb9e4ad878400363", func := "letterbag/letterbaglaw19.SolomonWithin", spec := "solomonWithin", unfollowed := true, recurses := true, apart := false, narrowed := true }
def SolomonWithinUptoSaid : Prop := solomonWithinUptoRow.holds Try.pinned (OpenSpec.upto solomonWithinSpec)

/-- 'letterbaglaw19.SolomonSums', WHERE WHAT IT READS IS OF BULK AT MOST 1048576: true; the input reads as it did. -/
def solomonSumsUptoRow : OpenClaim := { program := "ytjhgihgggofocaa", sum := "e09aaefef2fdd782e06c66c02c053f2ca3f15daac856cbd0fb9e4ad878400363", func := "letterbag/letterbaglaw19.SolomonSums", spec := "solomonSums", unfollowed := true, recurses := true, apart := false, narrowed := true }
def SolomonSumsUptoSaid : Prop := solomonSumsUptoRow.holds Try.pinned (OpenSpec.upto solomonSumsSpec)

/-- 'letterbaglaw19.SolomonWrong', WHERE WHAT IT READS IS OF BULK AT MOST 1048576: true; the input reads as it did. -/
def solomonWrongUptoRow : OpenClaim := { program := "ytjhgihgggofocaa", sum := "e09aaefef2fdd782e06c66c02c053f2ca3f15daac856cbd0fb9e4ad878400363", func := "letterbag/letterbaglaw19.SolomonWrong", spec := "solomonWrong", unfollowed := true, recurses := true, apart := false, narrowed := true }
def SolomonWrongUptoSaid : Prop := solomonWrongUptoRow.holds Try.pinned (OpenSpec.upto solomonWrongSpec)

end Rows
end Go.Proofs.Ytjhgihgggofocaa
