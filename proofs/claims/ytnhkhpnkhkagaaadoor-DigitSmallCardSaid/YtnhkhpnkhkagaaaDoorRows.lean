/-
  NARROWER THAN 'FOR EVERY INPUT', by the rows' own cells (each row's printed sentence says how): DigitMisses: laid · DigitOne: laid · DigitTells: laid · DigitSmall: laid · DigitFinds: laid · DigitWeights: laid · DigitLuhn: laid · DigitFills: laid · DigitWrong: laid.
  DERIVED. THE GIVEN ROWS OF THIS SEAT. 9 by the template 'for every input the law returns true; each argument reads behind the call as it read before'; 0 by the template 'total and deterministic' (their statements: YtnhkhpnkhkagaaaDoorTotals.lean).
  GIVEN WITH THE SEED: the statements are not yours to turn. If you find one false, say at which input.
  Laid BY PROGRAM, IN A SANDBOX (cutbox-rows.mjs): the forced cells as the released guide's own fill.sh prints them over the translation 301509d0d2f5447a… (all of the seat's roots in one cut). By AI agents, Wed Nov 11 2026. No macro, syntax, notation, axiom, sorry.
-/
import Derived.Test.YtnhkhpnkhkagaaaDoorChecked
import GoSem.PinnedTables
import GoSem.Claim
import GoSem.ClaimJoined
import GoSem.ClaimMapViews
import Derived.JoinedTies
import Derived.KernelRfl
namespace Go.Proofs.YtnhkhpnkhkagaaaDoor
/- THE CELL 'sum', in the pinned program and in every row, IS THE sha256 OF THE DUMP (.gsa) THAT YtnhkhpnkhkagaaaDoorProg.lean LOADS. Nothing in Lean hashes anything: it is a label: what it is worth is what the hold of that sum in a sandbox is worth. -/
noncomputable def Tryd.pinned : Pinned := { name := "ytnhkhpnkhkagaaadoor", sum := "301509d0d2f5447a276ec927df68a70f32edd58a6691449b03540b5ba42de2da", checked := Tryd.checked }
namespace Rows
def none {H : Type} : Left H := { results := [], args := [] }

/- WHAT THE LISTED PACKAGE-LEVEL VARIABLES READ AS WHEN THE CALL BEGINS. Each datum BY PROGRAM (the guide's laid-datum.mjs) off the statement by which the dump's own 'gosem.cut.vars' lays the variable. In a bare row this is a premise. The card (YtnhkhpnkhkagaaaDoorCards.lean) ties it to the program's text. -/
def laid_unicode_utf8_acceptRanges {H : Type} : DataW H := .agg [.agg [.lit (.int .u8 128), .lit (.int .u8 191)], .agg [.lit (.int .u8 160), .lit (.int .u8 191)], .agg [.lit (.int .u8 128), .lit (.int .u8 159)], .agg [.lit (.int .u8 144), .lit (.int .u8 191)], .agg [.lit (.int .u8 128), .lit (.int .u8 143)], .agg [.lit (.int .u8 0), .lit (.int .u8 0)], .agg [.lit (.int .u8 0), .lit (.int .u8 0)], .agg [.lit (.int .u8 0), .lit (.int .u8 0)], .agg [.lit (.int .u8 0), .lit (.int .u8 0)], .agg [.lit (.int .u8 0), .lit (.int .u8 0)], .agg [.lit (.int .u8 0), .lit (.int .u8 0)], .agg [.lit (.int .u8 0), .lit (.int .u8 0)], .agg [.lit (.int .u8 0), .lit (.int .u8 0)], .agg [.lit (.int .u8 0), .lit (.int .u8 0)], .agg [.lit (.int .u8 0), .lit (.int .u8 0)], .agg [.lit (.int .u8 0), .lit (.int .u8 0)]]
/-- One of Go's own tables, pinned by name: the form's constant. -/
def laid_unicode_utf8_first : DataW Unit := Go.Pinned.utf8First

/-- 'letterbaglaw16.DigitMisses': WHATEVER THE INPUT: true; the input reads as it did. -/
def digitMissesSpec : ChangeSpec := { name := "digitMisses", fn := fun _ => fun
  | [d1, d2] => { results := [.lit (.bool true)], args := [d1, d2] }
  | _ => none }
def digitMissesRow : OpenClaim := { program := "ytnhkhpnkhkagaaadoor", sum := "301509d0d2f5447a276ec927df68a70f32edd58a6691449b03540b5ba42de2da", func := "letterbag/letterbaglaw16.DigitMisses", spec := "digitMisses", inPlace := ["internal/bytealg.CountString", "internal/bytealg.IndexByteString", "internal/bytealg.IndexString", "internal/abi.NoEscape", "internal/bytealg.MakeNoZero"], unfollowed := true, recurses := true, named := ["internal/bytealg.MaxLen", "unicode/utf8.first", "unicode/utf8.acceptRanges"], apart := false, laid := [("unicode/utf8.acceptRanges", laid_unicode_utf8_acceptRanges), ("unicode/utf8.first", laid_unicode_utf8_first)] }
def DigitMissesSaid : Prop := digitMissesRow.holds Tryd.pinned (OpenSpec.ofChange digitMissesSpec)

/-- ITS FALSE NEIGHBOUR: 'it returns false'. Refute it at one input. -/
def digitMissesWrong : ChangeSpec := { name := "digitMisses", fn := fun _ => fun
  | [d1, d2] => { results := [.lit (.bool false)], args := [d1, d2] }
  | _ => none }
def DigitMissesWrongFalsely : Prop := digitMissesRow.holds Tryd.pinned (OpenSpec.ofChange digitMissesWrong)

/-- 'letterbaglaw16.DigitOne': WHATEVER THE INPUT: true; the input reads as it did. -/
def digitOneSpec : ChangeSpec := { name := "digitOne", fn := fun _ => fun
  | [d1, d2, d3] => { results := [.lit (.bool true)], args := [d1, d2, d3] }
  | _ => none }
def digitOneRow : OpenClaim := { program := "ytnhkhpnkhkagaaadoor", sum := "301509d0d2f5447a276ec927df68a70f32edd58a6691449b03540b5ba42de2da", func := "letterbag/letterbaglaw16.DigitOne", spec := "digitOne", inPlace := ["internal/bytealg.CountString", "internal/bytealg.IndexByteString", "internal/bytealg.IndexString", "internal/abi.NoEscape", "internal/bytealg.MakeNoZero"], unfollowed := true, recurses := true, named := ["internal/bytealg.MaxLen", "unicode/utf8.first", "unicode/utf8.acceptRanges"], apart := false, laid := [("unicode/utf8.acceptRanges", laid_unicode_utf8_acceptRanges), ("unicode/utf8.first", laid_unicode_utf8_first)] }
def DigitOneSaid : Prop := digitOneRow.holds Tryd.pinned (OpenSpec.ofChange digitOneSpec)

/-- ITS FALSE NEIGHBOUR: 'it returns false'. Refute it at one input. -/
def digitOneWrong : ChangeSpec := { name := "digitOne", fn := fun _ => fun
  | [d1, d2, d3] => { results := [.lit (.bool false)], args := [d1, d2, d3] }
  | _ => none }
def DigitOneWrongFalsely : Prop := digitOneRow.holds Tryd.pinned (OpenSpec.ofChange digitOneWrong)

/-- 'letterbaglaw16.DigitTells': WHATEVER THE INPUT: true; the input reads as it did. -/
def digitTellsSpec : ChangeSpec := { name := "digitTells", fn := fun _ => fun
  | [d1, d2] => { results := [.lit (.bool true)], args := [d1, d2] }
  | _ => none }
def digitTellsRow : OpenClaim := { program := "ytnhkhpnkhkagaaadoor", sum := "301509d0d2f5447a276ec927df68a70f32edd58a6691449b03540b5ba42de2da", func := "letterbag/letterbaglaw16.DigitTells", spec := "digitTells", inPlace := ["internal/bytealg.CountString", "internal/bytealg.IndexByteString", "internal/bytealg.IndexString", "internal/abi.NoEscape", "internal/bytealg.MakeNoZero"], unfollowed := true, recurses := true, named := ["internal/bytealg.MaxLen", "unicode/utf8.first", "unicode/utf8.acceptRanges"], apart := false, laid := [("unicode/utf8.acceptRanges", laid_unicode_utf8_acceptRanges), ("unicode/utf8.first", laid_unicode_utf8_first)] }
def DigitTellsSaid : Prop := digitTellsRow.holds Tryd.pinned (OpenSpec.ofChange digitTellsSpec)

/-- ITS FALSE NEIGHBOUR: 'it returns false'. Refute it at one input. -/
def digitTellsWrong : ChangeSpec := { name := "digitTells", fn := fun _ => fun
  | [d1, d2] => { results := [.lit (.bool false)], args := [d1, d2] }
  | _ => none }
def DigitTellsWrongFalsely : Prop := digitTellsRow.holds Tryd.pinned (OpenSpec.ofChange digitTellsWrong)

/-- 'letterbaglaw16.DigitSmall': WHATEVER THE INPUT: true; the input reads as it did. -/
def digitSmallSpec : ChangeSpec := { name := "digitSmall", fn := fun _ => fun
  | [] => { results := [.lit (.bool true)], args := [] }
  | _ => none }
def digitSmallRow : OpenClaim := { program := "ytnhkhpnkhkagaaadoor", sum := "301509d0d2f5447a276ec927df68a70f32edd58a6691449b03540b5ba42de2da", func := "letterbag/letterbaglaw16.DigitSmall", spec := "digitSmall", inPlace := ["internal/bytealg.CountString", "internal/bytealg.IndexByteString", "internal/bytealg.IndexString", "internal/abi.NoEscape", "internal/bytealg.MakeNoZero"], unfollowed := true, recurses := true, named := ["internal/bytealg.MaxLen", "unicode/utf8.first", "unicode/utf8.acceptRanges"], apart := false, laid := [("unicode/utf8.acceptRanges", laid_unicode_utf8_acceptRanges), ("unicode/utf8.first", laid_unicode_utf8_first)] }
def DigitSmallSaid : Prop := digitSmallRow.holds Tryd.pinned (OpenSpec.ofChange digitSmallSpec)

/-- ITS FALSE NEIGHBOUR: 'it returns false'. Refute it at one input. -/
def digitSmallWrong : ChangeSpec := { name := "digitSmall", fn := fun _ => fun
  | [] => { results := [.lit (.bool false)], args := [] }
  | _ => none }
def DigitSmallWrongFalsely : Prop := digitSmallRow.holds Tryd.pinned (OpenSpec.ofChange digitSmallWrong)

/-- 'letterbaglaw16.DigitFinds': WHATEVER THE INPUT: true; the input reads as it did. -/
def digitFindsSpec : ChangeSpec := { name := "digitFinds", fn := fun _ => fun
  | [d] => { results := [.lit (.bool true)], args := [d] }
  | _ => none }
def digitFindsRow : OpenClaim := { program := "ytnhkhpnkhkagaaadoor", sum := "301509d0d2f5447a276ec927df68a70f32edd58a6691449b03540b5ba42de2da", func := "letterbag/letterbaglaw16.DigitFinds", spec := "digitFinds", inPlace := ["internal/bytealg.CountString", "internal/bytealg.IndexByteString", "internal/bytealg.IndexString", "internal/abi.NoEscape", "internal/bytealg.MakeNoZero"], unfollowed := true, recurses := true, named := ["internal/bytealg.MaxLen", "unicode/utf8.first", "unicode/utf8.acceptRanges"], apart := false, laid := [("unicode/utf8.acceptRanges", laid_unicode_utf8_acceptRanges), ("unicode/utf8.first", laid_unicode_utf8_first)] }
def DigitFindsSaid : Prop := digitFindsRow.holds Tryd.pinned (OpenSpec.ofChange digitFindsSpec)

/-- ITS FALSE NEIGHBOUR: 'it returns false'. Refute it at one input. -/
def digitFindsWrong : ChangeSpec := { name := "digitFinds", fn := fun _ => fun
  | [d] => { results := [.lit (.bool false)], args := [d] }
  | _ => none }
def DigitFindsWrongFalsely : Prop := digitFindsRow.holds Tryd.pinned (OpenSpec.ofChange digitFindsWrong)

/-- 'letterbaglaw16.DigitWeights': WHATEVER THE INPUT: true; the input reads as it did. -/
def digitWeightsSpec : ChangeSpec := { name := "digitWeights", fn := fun _ => fun
  | [d1, d2, d3] => { results := [.lit (.bool true)], args := [d1, d2, d3] }
  | _ => none }
def digitWeightsRow : OpenClaim := { program := "ytnhkhpnkhkagaaadoor", sum := "301509d0d2f5447a276ec927df68a70f32edd58a6691449b03540b5ba42de2da", func := "letterbag/letterbaglaw16.DigitWeights", spec := "digitWeights", inPlace := ["internal/bytealg.CountString", "internal/bytealg.IndexByteString", "internal/bytealg.IndexString", "internal/abi.NoEscape", "internal/bytealg.MakeNoZero"], unfollowed := true, recurses := true, named := ["internal/bytealg.MaxLen", "unicode/utf8.first", "unicode/utf8.acceptRanges"], apart := false, laid := [("unicode/utf8.acceptRanges", laid_unicode_utf8_acceptRanges), ("unicode/utf8.first", laid_unicode_utf8_first)] }
def DigitWeightsSaid : Prop := digitWeightsRow.holds Tryd.pinned (OpenSpec.ofChange digitWeightsSpec)

/-- ITS FALSE NEIGHBOUR: 'it returns false'. Refute it at one input. -/
def digitWeightsWrong : ChangeSpec := { name := "digitWeights", fn := fun _ => fun
  | [d1, d2, d3] => { results := [.lit (.bool false)], args := [d1, d2, d3] }
  | _ => none }
def DigitWeightsWrongFalsely : Prop := digitWeightsRow.holds Tryd.pinned (OpenSpec.ofChange digitWeightsWrong)

/-- 'letterbaglaw16.DigitLuhn': WHATEVER THE INPUT: true; the input reads as it did. -/
def digitLuhnSpec : ChangeSpec := { name := "digitLuhn", fn := fun _ => fun
  | [d] => { results := [.lit (.bool true)], args := [d] }
  | _ => none }
def digitLuhnRow : OpenClaim := { program := "ytnhkhpnkhkagaaadoor", sum := "301509d0d2f5447a276ec927df68a70f32edd58a6691449b03540b5ba42de2da", func := "letterbag/letterbaglaw16.DigitLuhn", spec := "digitLuhn", inPlace := ["internal/bytealg.CountString", "internal/bytealg.IndexByteString", "internal/bytealg.IndexString", "internal/abi.NoEscape", "internal/bytealg.MakeNoZero"], unfollowed := true, recurses := true, named := ["internal/bytealg.MaxLen", "unicode/utf8.first", "unicode/utf8.acceptRanges"], apart := false, laid := [("unicode/utf8.acceptRanges", laid_unicode_utf8_acceptRanges), ("unicode/utf8.first", laid_unicode_utf8_first)] }
def DigitLuhnSaid : Prop := digitLuhnRow.holds Tryd.pinned (OpenSpec.ofChange digitLuhnSpec)

/-- ITS FALSE NEIGHBOUR: 'it returns false'. Refute it at one input. -/
def digitLuhnWrong : ChangeSpec := { name := "digitLuhn", fn := fun _ => fun
  | [d] => { results := [.lit (.bool false)], args := [d] }
  | _ => none }
def DigitLuhnWrongFalsely : Prop := digitLuhnRow.holds Tryd.pinned (OpenSpec.ofChange digitLuhnWrong)

/-- 'letterbaglaw16.DigitFills': WHATEVER THE INPUT: true; the input reads as it did. -/
def digitFillsSpec : ChangeSpec := { name := "digitFills", fn := fun _ => fun
  | [d1, d2, d3] => { results := [.lit (.bool true)], args := [d1, d2, d3] }
  | _ => none }
def digitFillsRow : OpenClaim := { program := "ytnhkhpnkhkagaaadoor", sum := "301509d0d2f5447a276ec927df68a70f32edd58a6691449b03540b5ba42de2da", func := "letterbag/letterbaglaw16.DigitFills", spec := "digitFills", inPlace := ["internal/bytealg.CountString", "internal/bytealg.IndexByteString", "internal/bytealg.IndexString", "internal/abi.NoEscape", "internal/bytealg.MakeNoZero"], unfollowed := true, recurses := true, named := ["internal/bytealg.MaxLen", "unicode/utf8.first", "unicode/utf8.acceptRanges"], apart := false, laid := [("unicode/utf8.acceptRanges", laid_unicode_utf8_acceptRanges), ("unicode/utf8.first", laid_unicode_utf8_first)] }
def DigitFillsSaid : Prop := digitFillsRow.holds Tryd.pinned (OpenSpec.ofChange digitFillsSpec)

/-- ITS FALSE NEIGHBOUR: 'it returns false'. Refute it at one input. -/
def digitFillsWrong : ChangeSpec := { name := "digitFills", fn := fun _ => fun
  | [d1, d2, d3] => { results := [.lit (.bool false)], args := [d1, d2, d3] }
  | _ => none }
def DigitFillsWrongFalsely : Prop := digitFillsRow.holds Tryd.pinned (OpenSpec.ofChange digitFillsWrong)

/-- 'letterbaglaw16.DigitWrong': WHATEVER THE INPUT: true; the input reads as it did. -/
def digitWrongSpec : ChangeSpec := { name := "digitWrong", fn := fun _ => fun
  | [d1, d2, d3, d4] => { results := [.lit (.bool true)], args := [d1, d2, d3, d4] }
  | _ => none }
def digitWrongRow : OpenClaim := { program := "ytnhkhpnkhkagaaadoor", sum := "301509d0d2f5447a276ec927df68a70f32edd58a6691449b03540b5ba42de2da", func := "letterbag/letterbaglaw16.DigitWrong", spec := "digitWrong", inPlace := ["internal/bytealg.CountString", "internal/bytealg.IndexByteString", "internal/bytealg.IndexString", "internal/abi.NoEscape", "internal/bytealg.MakeNoZero"], unfollowed := true, recurses := true, named := ["internal/bytealg.MaxLen", "unicode/utf8.first", "unicode/utf8.acceptRanges"], apart := false, laid := [("unicode/utf8.acceptRanges", laid_unicode_utf8_acceptRanges), ("unicode/utf8.first", laid_unicode_utf8_first)] }
def DigitWrongSaid : Prop := digitWrongRow.holds Tryd.pinned (OpenSpec.ofChange digitWrongSpec)

/-- ITS FALSE NEIGHBOUR: 'it returns false'. Refute it at one input. -/
def digitWrongWrong : ChangeSpec := { name := "digitWrong", fn := fun _ => fun
  | [d1, d2, d3, d4] => { results := [.lit (.bool false)], args := [d1, d2, d3, d4] }
  | _ => none }
def DigitWrongWrongFalsely : Prop := digitWrongRow.holds Tryd.pinned (OpenSpec.ofChange digitWrongWrong)

/- THE SECOND FORM. 'bulk': how many values and letters a reading holds, each counted each time it is reached (what is shared counts as often as it is met; a slice's spare places count too). A statement '..UptoSaid' is the law's where the arguments, and the package variables that the reading takes, are together of bulk at most 1048576: NARROWER than '..Said'. Prove '..Said' where nothing that the law and all that it calls make is longer than what came in: it says more and counts as full. Else prove '..UptoSaid'. A law counts once. -/
mutual
def uptoBulk {H : Type} : DataW H → Nat
  | .lit (.string bytes) => bytes.length + 1
  | .lit _ => 1
  | .nil => 1
  | .ptr d => uptoBulk d + 1
  | .slice elems spare => uptoBulkAll elems + uptoBulkAll spare + 1
  | .agg parts => uptoBulkAll parts + 1
  | .iface _ d => uptoBulk d + 1
  | .map entries => uptoBulkEntries entries + 1
  | .held _ => 1
def uptoBulkAll {H : Type} : List (DataW H) → Nat
  | [] => 0
  | d :: r => uptoBulk d + uptoBulkAll r
def uptoBulkEntries {H : Type} : List (Lit × DataW H) → Nat
  | [] => 0
  | x :: r => uptoBulkEntry x + uptoBulkEntries r
def uptoBulkEntry {H : Type} : Lit × DataW H → Nat
  | (.string bytes, d) => bytes.length + uptoBulk d + 1
  | (_, d) => uptoBulk d + 1
 end
def uptoSmall : (H : Type) → List (DataW H) → Bool := fun _ ds => decide (uptoBulkAll ds ≤ 1048576)
def OpenSpec.upto (s : _root_.Go.ChangeSpec) : _root_.Go.OpenSpec := { _root_.Go.OpenSpec.ofChange s with cond := some uptoSmall }

/-- 'letterbaglaw16.DigitMisses', WHERE WHAT IT READS IS OF BULK AT MOST 1048576: true; the input reads as it did. -/
def digitMissesUptoRow : OpenClaim := { program := "ytnhkhpnkhkagaaadoor", sum := "301509d0d2f5447a276ec927df68a70f32edd58a6691449b03540b5ba42de2da", func := "letterbag/letterbaglaw16.DigitMisses", spec := "digitMisses", inPlace := ["internal/bytealg.CountString", "internal/bytealg.IndexByteString", "internal/bytealg.IndexString", "internal/abi.NoEscape", "internal/bytealg.MakeNoZero"], unfollowed := true, recurses := true, named := ["internal/bytealg.MaxLen", "unicode/utf8.first", "unicode/utf8.acceptRanges"], apart := false, laid := [("unicode/utf8.acceptRanges", laid_unicode_utf8_acceptRanges), ("unicode/utf8.first", laid_unicode_utf8_first)], narrowed := true }
def DigitMissesUptoSaid : Prop := digitMissesUptoRow.holds Tryd.pinned (OpenSpec.upto digitMissesSpec)

/-- 'letterbaglaw16.DigitOne', WHERE WHAT IT READS IS OF BULK AT MOST 1048576: true; the input reads as it did. -/
def digitOneUptoRow : OpenClaim := { program := "ytnhkhpnkhkagaaadoor", sum := "301509d0d2f5447a276ec927df68a70f32edd58a6691449b03540b5ba42de2da", func := "letterbag/letterbaglaw16.DigitOne", spec := "digitOne", inPlace := ["internal/bytealg.CountString", "internal/bytealg.IndexByteString", "internal/bytealg.IndexString", "internal/abi.NoEscape", "internal/bytealg.MakeNoZero"], unfollowed := true, recurses := true, named := ["internal/bytealg.MaxLen", "unicode/utf8.first", "unicode/utf8.acceptRanges"], apart := false, laid := [("unicode/utf8.acceptRanges", laid_unicode_utf8_acceptRanges), ("unicode/utf8.first", laid_unicode_utf8_first)], narrowed := true }
def DigitOneUptoSaid : Prop := digitOneUptoRow.holds Tryd.pinned (OpenSpec.upto digitOneSpec)

/-- 'letterbaglaw16.DigitTells', WHERE WHAT IT READS IS OF BULK AT MOST 1048576: true; the input reads as it did. -/
def digitTellsUptoRow : OpenClaim := { program := "ytnhkhpnkhkagaaadoor", sum := "301509d0d2f5447a276ec927df68a70f32edd58a6691449b03540b5ba42de2da", func := "letterbag/letterbaglaw16.DigitTells", spec := "digitTells", inPlace := ["internal/bytealg.CountString", "internal/bytealg.IndexByteString", "internal/bytealg.IndexString", "internal/abi.NoEscape", "internal/bytealg.MakeNoZero"], unfollowed := true, recurses := true, named := ["internal/bytealg.MaxLen", "unicode/utf8.first", "unicode/utf8.acceptRanges"], apart := false, laid := [("unicode/utf8.acceptRanges", laid_unicode_utf8_acceptRanges), ("unicode/utf8.first", laid_unicode_utf8_first)], narrowed := true }
def DigitTellsUptoSaid : Prop := digitTellsUptoRow.holds Tryd.pinned (OpenSpec.upto digitTellsSpec)

/-- 'letterbaglaw16.DigitSmall', WHERE WHAT IT READS IS OF BULK AT MOST 1048576: true; the input reads as it did. -/
def digitSmallUptoRow : OpenClaim := { program := "ytnhkhpnkhkagaaadoor", sum := "301509d0d2f5447a276ec927df68a70f32edd58a6691449b03540b5ba42de2da", func := "letterbag/letterbaglaw16.DigitSmall", spec := "digitSmall", inPlace := ["internal/bytealg.CountString", "internal/bytealg.IndexByteString", "internal/bytealg.IndexString", "internal/abi.NoEscape", "internal/bytealg.MakeNoZero"], unfollowed := true, recurses := true, named := ["internal/bytealg.MaxLen", "unicode/utf8.first", "unicode/utf8.acceptRanges"], apart := false, laid := [("unicode/utf8.acceptRanges", laid_unicode_utf8_acceptRanges), ("unicode/utf8.first", laid_unicode_utf8_first)], narrowed := true }
def DigitSmallUptoSaid : Prop := digitSmallUptoRow.holds Tryd.pinned (OpenSpec.upto digitSmallSpec)

/-- 'letterbaglaw16.DigitFinds', WHERE WHAT IT READS IS OF BULK AT MOST 1048576: true; the input reads as it did. -/
def digitFindsUptoRow : OpenClaim := { program := "ytnhkhpnkhkagaaadoor", sum := "301509d0d2f5447a276ec927df68a70f32edd58a6691449b03540b5ba42de2da", func := "letterbag/letterbaglaw16.DigitFinds", spec := "digitFinds", inPlace := ["internal/bytealg.CountString", "internal/bytealg.IndexByteString", "internal/bytealg.IndexString", "internal/abi.NoEscape", "internal/bytealg.MakeNoZero"], unfollowed := true, recurses := true, named := ["internal/bytealg.MaxLen", "unicode/utf8.first", "unicode/utf8.acceptRanges"], apart := false, laid := [("unicode/utf8.acceptRanges", laid_unicode_utf8_acceptRanges), ("unicode/utf8.first", laid_unicode_utf8_first)], narrowed := true }
def DigitFindsUptoSaid : Prop := digitFindsUptoRow.holds Tryd.pinned (OpenSpec.upto digitFindsSpec)

/-- 'letterbaglaw16.DigitWeights', WHERE WHAT IT READS IS OF BULK AT MOST 1048576: true; the input reads as it did. -/
def digitWeightsUptoRow : OpenClaim := { program := "ytnhkhpnkhkagaaadoor", sum := "301509d0d2f5447a276ec927df68a70f32edd58a6691449b03540b5ba42de2da", func := "letterbag/letterbaglaw16.DigitWeights", spec := "digitWeights", inPlace := ["internal/bytealg.CountString", "internal/bytealg.IndexByteString", "internal/bytealg.IndexString", "internal/abi.NoEscape", "internal/bytealg.MakeNoZero"], unfollowed := true, recurses := true, named := ["internal/bytealg.MaxLen", "unicode/utf8.first", "unicode/utf8.acceptRanges"], apart := false, laid := [("unicode/utf8.acceptRanges", laid_unicode_utf8_acceptRanges), ("unicode/utf8.first", laid_unicode_utf8_first)], narrowed := true }
def DigitWeightsUptoSaid : Prop := digitWeightsUptoRow.holds Tryd.pinned (OpenSpec.upto digitWeightsSpec)

/-- 'letterbaglaw16.DigitLuhn', WHERE WHAT IT READS IS OF BULK AT MOST 1048576: true; the input reads as it did. -/
def digitLuhnUptoRow : OpenClaim := { program := "ytnhkhpnkhkagaaadoor", sum := "301509d0d2f5447a276ec927df68a70f32edd58a6691449b03540b5ba42de2da", func := "letterbag/letterbaglaw16.DigitLuhn", spec := "digitLuhn", inPlace := ["internal/bytealg.CountString", "internal/bytealg.IndexByteString", "internal/bytealg.IndexString", "internal/abi.NoEscape", "internal/bytealg.MakeNoZero"], unfollowed := true, recurses := true, named := ["internal/bytealg.MaxLen", "unicode/utf8.first", "unicode/utf8.acceptRanges"], apart := false, laid := [("unicode/utf8.acceptRanges", laid_unicode_utf8_acceptRanges), ("unicode/utf8.first", laid_unicode_utf8_first)], narrowed := true }
def DigitLuhnUptoSaid : Prop := digitLuhnUptoRow.holds Tryd.pinned (OpenSpec.upto digitLuhnSpec)

/-- 'letterbaglaw16.DigitFills', WHERE WHAT IT READS IS OF BULK AT MOST 1048576: true; the input reads as it did. -/
def digitFillsUptoRow : OpenClaim := { program := "ytnhkhpnkhkagaaadoor", sum := "301509d0d2f5447a276ec927df68a70f32edd58a6691449b03540b5ba42de2da", func := "letterbag/letterbaglaw16.DigitFills", spec := "digitFills", inPlace := ["internal/bytealg.CountString", "internal/bytealg.IndexByteString", "internal/bytealg.IndexString", "internal/abi.NoEscape", "internal/bytealg.MakeNoZero"], unfollowed := true, recurses := true, named := ["internal/bytealg.MaxLen", "unicode/utf8.first", "unicode/utf8.acceptRanges"], apart := false, laid := [("unicode/utf8.acceptRanges", laid_unicode_utf8_acceptRanges), ("unicode/utf8.first", laid_unicode_utf8_first)], narrowed := true }
def DigitFillsUptoSaid : Prop := digitFillsUptoRow.holds Tryd.pinned (OpenSpec.upto digitFillsSpec)

/-- 'letterbaglaw16.DigitWrong', WHERE WHAT IT READS IS OF BULK AT MOST 1048576: true; the input reads as it did. -/
def digitWrongUptoRow : OpenClaim := { program := "ytnhkhpnkhkagaaadoor", sum := "301509d0d2f5447a276ec927df68a70f32edd58a6691449b03540b5ba42de2da", func := "letterbag/letterbaglaw16.DigitWrong", spec := "digitWrong", inPlace := ["internal/bytealg.CountString", "internal/bytealg.IndexByteString", "internal/bytealg.IndexString", "internal/abi.NoEscape", "internal/bytealg.MakeNoZero"], unfollowed := true, recurses := true, named := ["internal/bytealg.MaxLen", "unicode/utf8.first", "unicode/utf8.acceptRanges"], apart := false, laid := [("unicode/utf8.acceptRanges", laid_unicode_utf8_acceptRanges), ("unicode/utf8.first", laid_unicode_utf8_first)], narrowed := true }
def DigitWrongUptoSaid : Prop := digitWrongUptoRow.holds Tryd.pinned (OpenSpec.upto digitWrongSpec)

end Rows
end Go.Proofs.YtnhkhpnkhkagaaaDoor
