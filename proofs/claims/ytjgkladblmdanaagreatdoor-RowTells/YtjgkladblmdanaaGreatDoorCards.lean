/-
  DERIVED. GIVEN WITH THE SEED: THE CARDS: each row of YtjgkladblmdanaaGreatDoorRows.lean that lists a variable, with what it lists TIED to the program's text (the seventh form; the later family's looks); each row that meets fmt, with fmt's text TOLD by the authors' own Lean function (tested against real Go, not proved from fmt's source: count such statements apart). THE CARD IS WHAT COUNTS. Prove the row's statement (the work); the ties are given (YtjgkladblmdanaaGreatDoorTie.lean); close each card by the builder's one call (the guide's Derived/Test/ToyasCard.lean, 'card_holds'). Laid BY PROGRAM, IN A SANDBOX (cutbox-door.mjs). By AI agents, Wed Nov 11 2026. No macro, syntax, notation, axiom, sorry.
-/
import Derived.Test.YtjgkladblmdanaaGreatDoorRows
import GoSem.ClaimSeven
namespace Go.Proofs.YtjgkladblmdanaaGreatDoor
namespace Rows

/-- THE TIED CARD OF 'retrospectlaw11.RowBack'. -/
def rowBackCard : Claim7 := { stood := { row := rowBackRow, standIns := [], harness := (true, "e7d7dd7a75272886e74ddfd5dceb53db0c7aae421901c4e4115758f38ea00999"), looks := false }, kinds := [], alts := [], laidByText := true, laidKinds := [.data, .pinned], laidTests := true, laidLooks := .later }
def RowBackCardSaid : Prop := Claim7.holds Tryz.pinned (.plain (OpenSpec.ofChange rowBackSpec)) rowBackCard

/-- THE TIED CARD OF 'retrospectlaw11.RowSums'. -/
def rowSumsCard : Claim7 := { stood := { row := rowSumsRow, standIns := [], harness := (true, "e7d7dd7a75272886e74ddfd5dceb53db0c7aae421901c4e4115758f38ea00999"), looks := false }, kinds := [], alts := [], laidByText := true, laidKinds := [.data, .pinned], laidTests := true, laidLooks := .later }
def RowSumsCardSaid : Prop := Claim7.holds Tryz.pinned (.plain (OpenSpec.ofChange rowSumsSpec)) rowSumsCard

/-- THE TIED CARD OF 'retrospectlaw11.RowMixes'. -/
def rowMixesCard : Claim7 := { stood := { row := rowMixesRow, standIns := [], harness := (true, "e7d7dd7a75272886e74ddfd5dceb53db0c7aae421901c4e4115758f38ea00999"), looks := false }, kinds := [], alts := [], laidByText := true, laidKinds := [.data, .pinned], laidTests := true, laidLooks := .later }
def RowMixesCardSaid : Prop := Claim7.holds Tryz.pinned (.plain (OpenSpec.ofChange rowMixesSpec)) rowMixesCard

/-- THE TIED CARD OF 'retrospectlaw11.RowShares'. -/
def rowSharesCard : Claim7 := { stood := { row := rowSharesRow, standIns := [], harness := (true, "e7d7dd7a75272886e74ddfd5dceb53db0c7aae421901c4e4115758f38ea00999"), looks := false }, kinds := [], alts := [], laidByText := true, laidKinds := [.data, .pinned], laidTests := true, laidLooks := .later }
def RowSharesCardSaid : Prop := Claim7.holds Tryz.pinned (.plain (OpenSpec.ofChange rowSharesSpec)) rowSharesCard

/-- THE TIED CARD OF 'retrospectlaw11.RowTells'. -/
def rowTellsCard : Claim7 := { stood := { row := rowTellsRow, standIns := [], harness := (true, "e7d7dd7a75272886e74ddfd5dceb53db0c7aae421901c4e4115758f38ea00999"), looks := false }, kinds := [], alts := [], laidByText := true, laidKinds := [.data, .pinned], laidTests := true, laidLooks := .later }
def RowTellsCardSaid : Prop := Claim7.holds Tryz.pinned (.plain (OpenSpec.ofChange rowTellsSpec)) rowTellsCard

/-- THE SECOND FORM's CARD OF 'retrospectlaw11.RowBack'. -/
def rowBackUptoCard : Claim7 := { stood := { row := rowBackUptoRow, standIns := [], harness := (true, "e7d7dd7a75272886e74ddfd5dceb53db0c7aae421901c4e4115758f38ea00999"), looks := false }, kinds := [], alts := [], laidByText := true, laidKinds := [.data, .pinned], laidTests := true, laidLooks := .later }
def RowBackUptoCardSaid : Prop := Claim7.holds Tryz.pinned (.plain (OpenSpec.upto rowBackSpec)) rowBackUptoCard

/-- THE SECOND FORM's CARD OF 'retrospectlaw11.RowSums'. -/
def rowSumsUptoCard : Claim7 := { stood := { row := rowSumsUptoRow, standIns := [], harness := (true, "e7d7dd7a75272886e74ddfd5dceb53db0c7aae421901c4e4115758f38ea00999"), looks := false }, kinds := [], alts := [], laidByText := true, laidKinds := [.data, .pinned], laidTests := true, laidLooks := .later }
def RowSumsUptoCardSaid : Prop := Claim7.holds Tryz.pinned (.plain (OpenSpec.upto rowSumsSpec)) rowSumsUptoCard

/-- THE SECOND FORM's CARD OF 'retrospectlaw11.RowMixes'. -/
def rowMixesUptoCard : Claim7 := { stood := { row := rowMixesUptoRow, standIns := [], harness := (true, "e7d7dd7a75272886e74ddfd5dceb53db0c7aae421901c4e4115758f38ea00999"), looks := false }, kinds := [], alts := [], laidByText := true, laidKinds := [.data, .pinned], laidTests := true, laidLooks := .later }
def RowMixesUptoCardSaid : Prop := Claim7.holds Tryz.pinned (.plain (OpenSpec.upto rowMixesSpec)) rowMixesUptoCard

/-- THE SECOND FORM's CARD OF 'retrospectlaw11.RowShares'. -/
def rowSharesUptoCard : Claim7 := { stood := { row := rowSharesUptoRow, standIns := [], harness := (true, "e7d7dd7a75272886e74ddfd5dceb53db0c7aae421901c4e4115758f38ea00999"), looks := false }, kinds := [], alts := [], laidByText := true, laidKinds := [.data, .pinned], laidTests := true, laidLooks := .later }
def RowSharesUptoCardSaid : Prop := Claim7.holds Tryz.pinned (.plain (OpenSpec.upto rowSharesSpec)) rowSharesUptoCard

/-- THE SECOND FORM's CARD OF 'retrospectlaw11.RowTells'. -/
def rowTellsUptoCard : Claim7 := { stood := { row := rowTellsUptoRow, standIns := [], harness := (true, "e7d7dd7a75272886e74ddfd5dceb53db0c7aae421901c4e4115758f38ea00999"), looks := false }, kinds := [], alts := [], laidByText := true, laidKinds := [.data, .pinned], laidTests := true, laidLooks := .later }
def RowTellsUptoCardSaid : Prop := Claim7.holds Tryz.pinned (.plain (OpenSpec.upto rowTellsSpec)) rowTellsUptoCard
end Rows
end Go.Proofs.YtjgkladblmdanaaGreatDoor
