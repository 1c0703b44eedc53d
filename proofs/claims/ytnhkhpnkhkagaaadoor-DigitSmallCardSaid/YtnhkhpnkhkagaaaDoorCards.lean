/-
  DERIVED. GIVEN WITH THE SEED: THE CARDS: each row of YtnhkhpnkhkagaaaDoorRows.lean that lists a variable, with what it lists TIED to the program's text (the seventh form; the later family's looks); each row that meets fmt, with fmt's text TOLD by the authors' own Lean function (tested against real Go, not proved from fmt's source: count such statements apart). THE CARD IS WHAT COUNTS. Prove the row's statement (the work); the ties are given (YtnhkhpnkhkagaaaDoorTie.lean); close each card by the builder's one call (the guide's Derived/Test/ToyasCard.lean, 'card_holds'). Laid BY PROGRAM, IN A SANDBOX (cutbox-door.mjs). By AI agents, Wed Nov 11 2026. No macro, syntax, notation, axiom, sorry.
-/
import Derived.Test.YtnhkhpnkhkagaaaDoorRows
import GoSem.ClaimSeven
namespace Go.Proofs.YtnhkhpnkhkagaaaDoor
namespace Rows

/-- THE TIED CARD OF 'letterbaglaw16.DigitMisses'. -/
def digitMissesCard : Claim7 := { stood := { row := digitMissesRow, standIns := [], harness := (true, "5be65807c5100923b47027b153d33a644e0d5b8af69da4933a3c25da775f7c4c"), looks := false }, kinds := [], alts := [], laidByText := true, laidKinds := [.data, .pinned], laidTests := true, laidLooks := .later }
def DigitMissesCardSaid : Prop := Claim7.holds Tryd.pinned (.plain (OpenSpec.ofChange digitMissesSpec)) digitMissesCard

/-- THE TIED CARD OF 'letterbaglaw16.DigitOne'. -/
def digitOneCard : Claim7 := { stood := { row := digitOneRow, standIns := [], harness := (true, "5be65807c5100923b47027b153d33a644e0d5b8af69da4933a3c25da775f7c4c"), looks := false }, kinds := [], alts := [], laidByText := true, laidKinds := [.data, .pinned], laidTests := true, laidLooks := .later }
def DigitOneCardSaid : Prop := Claim7.holds Tryd.pinned (.plain (OpenSpec.ofChange digitOneSpec)) digitOneCard

/-- THE TIED CARD OF 'letterbaglaw16.DigitTells'. -/
def digitTellsCard : Claim7 := { stood := { row := digitTellsRow, standIns := [], harness := (true, "5be65807c5100923b47027b153d33a644e0d5b8af69da4933a3c25da775f7c4c"), looks := false }, kinds := [], alts := [], laidByText := true, laidKinds := [.data, .pinned], laidTests := true, laidLooks := .later }
def DigitTellsCardSaid : Prop := Claim7.holds Tryd.pinned (.plain (OpenSpec.ofChange digitTellsSpec)) digitTellsCard

/-- THE TIED CARD OF 'letterbaglaw16.DigitSmall'. -/
def digitSmallCard : Claim7 := { stood := { row := digitSmallRow, standIns := [], harness := (true, "5be65807c5100923b47027b153d33a644e0d5b8af69da4933a3c25da775f7c4c"), looks := false }, kinds := [], alts := [], laidByText := true, laidKinds := [.data, .pinned], laidTests := true, laidLooks := .later }
def DigitSmallCardSaid : Prop := Claim7.holds Tryd.pinned (.plain (OpenSpec.ofChange digitSmallSpec)) digitSmallCard

/-- THE TIED CARD OF 'letterbaglaw16.DigitFinds'. -/
def digitFindsCard : Claim7 := { stood := { row := digitFindsRow, standIns := [], harness := (true, "5be65807c5100923b47027b153d33a644e0d5b8af69da4933a3c25da775f7c4c"), looks := false }, kinds := [], alts := [], laidByText := true, laidKinds := [.data, .pinned], laidTests := true, laidLooks := .later }
def DigitFindsCardSaid : Prop := Claim7.holds Tryd.pinned (.plain (OpenSpec.ofChange digitFindsSpec)) digitFindsCard

/-- THE TIED CARD OF 'letterbaglaw16.DigitWeights'. -/
def digitWeightsCard : Claim7 := { stood := { row := digitWeightsRow, standIns := [], harness := (true, "5be65807c5100923b47027b153d33a644e0d5b8af69da4933a3c25da775f7c4c"), looks := false }, kinds := [], alts := [], laidByText := true, laidKinds := [.data, .pinned], laidTests := true, laidLooks := .later }
def DigitWeightsCardSaid : Prop := Claim7.holds Tryd.pinned (.plain (OpenSpec.ofChange digitWeightsSpec)) digitWeightsCard

/-- THE TIED CARD OF 'letterbaglaw16.DigitLuhn'. -/
def digitLuhnCard : Claim7 := { stood := { row := digitLuhnRow, standIns := [], harness := (true, "5be65807c5100923b47027b153d33a644e0d5b8af69da4933a3c25da775f7c4c"), looks := false }, kinds := [], alts := [], laidByText := true, laidKinds := [.data, .pinned], laidTests := true, laidLooks := .later }
def DigitLuhnCardSaid : Prop := Claim7.holds Tryd.pinned (.plain (OpenSpec.ofChange digitLuhnSpec)) digitLuhnCard

/-- THE TIED CARD OF 'letterbaglaw16.DigitFills'. -/
def digitFillsCard : Claim7 := { stood := { row := digitFillsRow, standIns := [], harness := (true, "5be65807c5100923b47027b153d33a644e0d5b8af69da4933a3c25da775f7c4c"), looks := false }, kinds := [], alts := [], laidByText := true, laidKinds := [.data, .pinned], laidTests := true, laidLooks := .later }
def DigitFillsCardSaid : Prop := Claim7.holds Tryd.pinned (.plain (OpenSpec.ofChange digitFillsSpec)) digitFillsCard

/-- THE TIED CARD OF 'letterbaglaw16.DigitWrong'. -/
def digitWrongCard : Claim7 := { stood := { row := digitWrongRow, standIns := [], harness := (true, "5be65807c5100923b47027b153d33a644e0d5b8af69da4933a3c25da775f7c4c"), looks := false }, kinds := [], alts := [], laidByText := true, laidKinds := [.data, .pinned], laidTests := true, laidLooks := .later }
def DigitWrongCardSaid : Prop := Claim7.holds Tryd.pinned (.plain (OpenSpec.ofChange digitWrongSpec)) digitWrongCard

/-- THE SECOND FORM's CARD OF 'letterbaglaw16.DigitMisses'. -/
def digitMissesUptoCard : Claim7 := { stood := { row := digitMissesUptoRow, standIns := [], harness := (true, "5be65807c5100923b47027b153d33a644e0d5b8af69da4933a3c25da775f7c4c"), looks := false }, kinds := [], alts := [], laidByText := true, laidKinds := [.data, .pinned], laidTests := true, laidLooks := .later }
def DigitMissesUptoCardSaid : Prop := Claim7.holds Tryd.pinned (.plain (OpenSpec.upto digitMissesSpec)) digitMissesUptoCard

/-- THE SECOND FORM's CARD OF 'letterbaglaw16.DigitOne'. -/
def digitOneUptoCard : Claim7 := { stood := { row := digitOneUptoRow, standIns := [], harness := (true, "5be65807c5100923b47027b153d33a644e0d5b8af69da4933a3c25da775f7c4c"), looks := false }, kinds := [], alts := [], laidByText := true, laidKinds := [.data, .pinned], laidTests := true, laidLooks := .later }
def DigitOneUptoCardSaid : Prop := Claim7.holds Tryd.pinned (.plain (OpenSpec.upto digitOneSpec)) digitOneUptoCard

/-- THE SECOND FORM's CARD OF 'letterbaglaw16.DigitTells'. -/
def digitTellsUptoCard : Claim7 := { stood := { row := digitTellsUptoRow, standIns := [], harness := (true, "5be65807c5100923b47027b153d33a644e0d5b8af69da4933a3c25da775f7c4c"), looks := false }, kinds := [], alts := [], laidByText := true, laidKinds := [.data, .pinned], laidTests := true, laidLooks := .later }
def DigitTellsUptoCardSaid : Prop := Claim7.holds Tryd.pinned (.plain (OpenSpec.upto digitTellsSpec)) digitTellsUptoCard

/-- THE SECOND FORM's CARD OF 'letterbaglaw16.DigitSmall'. -/
def digitSmallUptoCard : Claim7 := { stood := { row := digitSmallUptoRow, standIns := [], harness := (true, "5be65807c5100923b47027b153d33a644e0d5b8af69da4933a3c25da775f7c4c"), looks := false }, kinds := [], alts := [], laidByText := true, laidKinds := [.data, .pinned], laidTests := true, laidLooks := .later }
def DigitSmallUptoCardSaid : Prop := Claim7.holds Tryd.pinned (.plain (OpenSpec.upto digitSmallSpec)) digitSmallUptoCard

/-- THE SECOND FORM's CARD OF 'letterbaglaw16.DigitFinds'. -/
def digitFindsUptoCard : Claim7 := { stood := { row := digitFindsUptoRow, standIns := [], harness := (true, "5be65807c5100923b47027b153d33a644e0d5b8af69da4933a3c25da775f7c4c"), looks := false }, kinds := [], alts := [], laidByText := true, laidKinds := [.data, .pinned], laidTests := true, laidLooks := .later }
def DigitFindsUptoCardSaid : Prop := Claim7.holds Tryd.pinned (.plain (OpenSpec.upto digitFindsSpec)) digitFindsUptoCard

/-- THE SECOND FORM's CARD OF 'letterbaglaw16.DigitWeights'. -/
def digitWeightsUptoCard : Claim7 := { stood := { row := digitWeightsUptoRow, standIns := [], harness := (true, "5be65807c5100923b47027b153d33a644e0d5b8af69da4933a3c25da775f7c4c"), looks := false }, kinds := [], alts := [], laidByText := true, laidKinds := [.data, .pinned], laidTests := true, laidLooks := .later }
def DigitWeightsUptoCardSaid : Prop := Claim7.holds Tryd.pinned (.plain (OpenSpec.upto digitWeightsSpec)) digitWeightsUptoCard

/-- THE SECOND FORM's CARD OF 'letterbaglaw16.DigitLuhn'. -/
def digitLuhnUptoCard : Claim7 := { stood := { row := digitLuhnUptoRow, standIns := [], harness := (true, "5be65807c5100923b47027b153d33a644e0d5b8af69da4933a3c25da775f7c4c"), looks := false }, kinds := [], alts := [], laidByText := true, laidKinds := [.data, .pinned], laidTests := true, laidLooks := .later }
def DigitLuhnUptoCardSaid : Prop := Claim7.holds Tryd.pinned (.plain (OpenSpec.upto digitLuhnSpec)) digitLuhnUptoCard

/-- THE SECOND FORM's CARD OF 'letterbaglaw16.DigitFills'. -/
def digitFillsUptoCard : Claim7 := { stood := { row := digitFillsUptoRow, standIns := [], harness := (true, "5be65807c5100923b47027b153d33a644e0d5b8af69da4933a3c25da775f7c4c"), looks := false }, kinds := [], alts := [], laidByText := true, laidKinds := [.data, .pinned], laidTests := true, laidLooks := .later }
def DigitFillsUptoCardSaid : Prop := Claim7.holds Tryd.pinned (.plain (OpenSpec.upto digitFillsSpec)) digitFillsUptoCard

/-- THE SECOND FORM's CARD OF 'letterbaglaw16.DigitWrong'. -/
def digitWrongUptoCard : Claim7 := { stood := { row := digitWrongUptoRow, standIns := [], harness := (true, "5be65807c5100923b47027b153d33a644e0d5b8af69da4933a3c25da775f7c4c"), looks := false }, kinds := [], alts := [], laidByText := true, laidKinds := [.data, .pinned], laidTests := true, laidLooks := .later }
def DigitWrongUptoCardSaid : Prop := Claim7.holds Tryd.pinned (.plain (OpenSpec.upto digitWrongSpec)) digitWrongUptoCard
end Rows
end Go.Proofs.YtnhkhpnkhkagaaaDoor
