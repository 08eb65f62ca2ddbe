/-
  DERIVED. GIVEN WITH THE SEED: THE CARDS: each row of YtlohcgjleoibpaaDoorRows.lean that lists a variable, with what it lists TIED to the program's text (the seventh form; the later family's looks); each row that meets fmt, with fmt's text TOLD by the authors' own Lean function (tested against real Go, not proved from fmt's source: count such statements apart). THE CARD IS WHAT COUNTS. Prove the row's statement (the work); the ties are given (YtlohcgjleoibpaaDoorTie.lean); close each card by the builder's one call (the guide's Derived/Test/ToyasCard.lean, 'card_holds'). Laid BY PROGRAM, IN A SANDBOX (cutbox-door.mjs). By AI agents, Wed Nov 11 2026. No macro, syntax, notation, axiom, sorry.
-/
import Derived.Test.YtlohcgjleoibpaaDoorRows
import GoSem.ClaimSeven
namespace Go.Proofs.YtlohcgjleoibpaaDoor
namespace Rows

/-- THE TIED CARD OF 'retrospectlaw23.DiffWrites'. -/
def diffWritesCard : Claim7 := { stood := { row := diffWritesRow, standIns := [], harness := (true, "d8b167b19495b2a810b2e1c30be28d9e63b794f295a1c55a878e097279f31f6d"), looks := false }, kinds := [], alts := [], laidByText := true, laidKinds := [.data, .pinned], laidTests := true, laidLooks := .later }
def DiffWritesCardSaid : Prop := Claim7.holds Tryd.pinned (.plain (OpenSpec.ofChange diffWritesSpec)) diffWritesCard

/-- THE TIED CARD OF 'retrospectlaw08.WholeSums'. -/
def wholeSumsCard : Claim7 := { stood := { row := wholeSumsRow, standIns := [], harness := (true, "d8b167b19495b2a810b2e1c30be28d9e63b794f295a1c55a878e097279f31f6d"), looks := false }, kinds := [], alts := [], laidByText := true, laidKinds := [.data, .pinned], laidTests := true, laidLooks := .later }
def WholeSumsCardSaid : Prop := Claim7.holds Tryd.pinned (.plain (OpenSpec.ofChange wholeSumsSpec)) wholeSumsCard

/-- THE TIED CARD OF 'retrospectlaw08.WholeTexts'. -/
def wholeTextsCard : Claim7 := { stood := { row := wholeTextsRow, standIns := [], harness := (true, "d8b167b19495b2a810b2e1c30be28d9e63b794f295a1c55a878e097279f31f6d"), looks := false }, kinds := [], alts := [], laidByText := true, laidKinds := [.data, .pinned], laidTests := true, laidLooks := .later }
def WholeTextsCardSaid : Prop := Claim7.holds Tryd.pinned (.plain (OpenSpec.ofChange wholeTextsSpec)) wholeTextsCard

/-- THE TIED CARD OF 'retrospectlaw08.WholeFloors'. -/
def wholeFloorsCard : Claim7 := { stood := { row := wholeFloorsRow, standIns := [], harness := (true, "d8b167b19495b2a810b2e1c30be28d9e63b794f295a1c55a878e097279f31f6d"), looks := false }, kinds := [], alts := [], laidByText := true, laidKinds := [.data, .pinned], laidTests := true, laidLooks := .later }
def WholeFloorsCardSaid : Prop := Claim7.holds Tryd.pinned (.plain (OpenSpec.ofChange wholeFloorsSpec)) wholeFloorsCard

/-- THE TIED CARD OF 'retrospectlaw08.WholeTells'. -/
def wholeTellsCard : Claim7 := { stood := { row := wholeTellsRow, standIns := [], harness := (true, "d8b167b19495b2a810b2e1c30be28d9e63b794f295a1c55a878e097279f31f6d"), looks := false }, kinds := [], alts := [], laidByText := true, laidKinds := [.data, .pinned], laidTests := true, laidLooks := .later }
def WholeTellsCardSaid : Prop := Claim7.holds Tryd.pinned (.plain (OpenSpec.ofChange wholeTellsSpec)) wholeTellsCard

/-- THE TIED CARD OF 'retrospectlaw08.WholeInts'. -/
def wholeIntsCard : Claim7 := { stood := { row := wholeIntsRow, standIns := [], harness := (true, "d8b167b19495b2a810b2e1c30be28d9e63b794f295a1c55a878e097279f31f6d"), looks := false }, kinds := [], alts := [], laidByText := true, laidKinds := [.data, .pinned], laidTests := true, laidLooks := .later }
def WholeIntsCardSaid : Prop := Claim7.holds Tryd.pinned (.plain (OpenSpec.ofChange wholeIntsSpec)) wholeIntsCard

/-- THE SECOND FORM's CARD OF 'retrospectlaw23.DiffWrites'. -/
def diffWritesUptoCard : Claim7 := { stood := { row := diffWritesUptoRow, standIns := [], harness := (true, "d8b167b19495b2a810b2e1c30be28d9e63b794f295a1c55a878e097279f31f6d"), looks := false }, kinds := [], alts := [], laidByText := true, laidKinds := [.data, .pinned], laidTests := true, laidLooks := .later }
def DiffWritesUptoCardSaid : Prop := Claim7.holds Tryd.pinned (.plain (OpenSpec.upto diffWritesSpec)) diffWritesUptoCard

/-- THE SECOND FORM's CARD OF 'retrospectlaw08.WholeSums'. -/
def wholeSumsUptoCard : Claim7 := { stood := { row := wholeSumsUptoRow, standIns := [], harness := (true, "d8b167b19495b2a810b2e1c30be28d9e63b794f295a1c55a878e097279f31f6d"), looks := false }, kinds := [], alts := [], laidByText := true, laidKinds := [.data, .pinned], laidTests := true, laidLooks := .later }
def WholeSumsUptoCardSaid : Prop := Claim7.holds Tryd.pinned (.plain (OpenSpec.upto wholeSumsSpec)) wholeSumsUptoCard

/-- THE SECOND FORM's CARD OF 'retrospectlaw08.WholeTexts'. -/
def wholeTextsUptoCard : Claim7 := { stood := { row := wholeTextsUptoRow, standIns := [], harness := (true, "d8b167b19495b2a810b2e1c30be28d9e63b794f295a1c55a878e097279f31f6d"), looks := false }, kinds := [], alts := [], laidByText := true, laidKinds := [.data, .pinned], laidTests := true, laidLooks := .later }
def WholeTextsUptoCardSaid : Prop := Claim7.holds Tryd.pinned (.plain (OpenSpec.upto wholeTextsSpec)) wholeTextsUptoCard

/-- THE SECOND FORM's CARD OF 'retrospectlaw08.WholeFloors'. -/
def wholeFloorsUptoCard : Claim7 := { stood := { row := wholeFloorsUptoRow, standIns := [], harness := (true, "d8b167b19495b2a810b2e1c30be28d9e63b794f295a1c55a878e097279f31f6d"), looks := false }, kinds := [], alts := [], laidByText := true, laidKinds := [.data, .pinned], laidTests := true, laidLooks := .later }
def WholeFloorsUptoCardSaid : Prop := Claim7.holds Tryd.pinned (.plain (OpenSpec.upto wholeFloorsSpec)) wholeFloorsUptoCard

/-- THE SECOND FORM's CARD OF 'retrospectlaw08.WholeTells'. -/
def wholeTellsUptoCard : Claim7 := { stood := { row := wholeTellsUptoRow, standIns := [], harness := (true, "d8b167b19495b2a810b2e1c30be28d9e63b794f295a1c55a878e097279f31f6d"), looks := false }, kinds := [], alts := [], laidByText := true, laidKinds := [.data, .pinned], laidTests := true, laidLooks := .later }
def WholeTellsUptoCardSaid : Prop := Claim7.holds Tryd.pinned (.plain (OpenSpec.upto wholeTellsSpec)) wholeTellsUptoCard

/-- THE SECOND FORM's CARD OF 'retrospectlaw08.WholeInts'. -/
def wholeIntsUptoCard : Claim7 := { stood := { row := wholeIntsUptoRow, standIns := [], harness := (true, "d8b167b19495b2a810b2e1c30be28d9e63b794f295a1c55a878e097279f31f6d"), looks := false }, kinds := [], alts := [], laidByText := true, laidKinds := [.data, .pinned], laidTests := true, laidLooks := .later }
def WholeIntsUptoCardSaid : Prop := Claim7.holds Tryd.pinned (.plain (OpenSpec.upto wholeIntsSpec)) wholeIntsUptoCard
end Rows
end Go.Proofs.YtlohcgjleoibpaaDoor
