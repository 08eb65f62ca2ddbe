/-
  DERIVED. GIVEN WITH THE SEED: THE CARDS: each row of YtefdnbbfkhkjeaaGreatDoorRows.lean that lists a variable, with what it lists TIED to the program's text (the seventh form; the later family's looks); each row that meets fmt, with fmt's text TOLD by the authors' own Lean function (tested against real Go, not proved from fmt's source: count such statements apart). THE CARD IS WHAT COUNTS. Prove the row's statement (the work); the ties are given (YtefdnbbfkhkjeaaGreatDoorTie.lean); close each card by the builder's one call (the guide's Derived/Test/ToyasCard.lean, 'card_holds'). Laid BY PROGRAM, IN A SANDBOX (cutbox-door.mjs). By AI agents, Wed Nov 11 2026. No macro, syntax, notation, axiom, sorry.
-/
import Derived.Test.YtefdnbbfkhkjeaaGreatDoorRows
import GoSem.ClaimSeven
namespace Go.Proofs.YtefdnbbfkhkjeaaGreatDoor
namespace Rows

/-- THE TIED CARD OF 'retrospectlaw41.SpanCubics'. -/
def spanCubicsCard : Claim7 := { stood := { row := spanCubicsRow, standIns := [], harness := (true, "526c3608b1bf4594dab855b5ea5ed6334915c442bf458cdbca8cfed422c7bfc4"), looks := false }, kinds := [], alts := [], laidByText := true, laidKinds := [.data, .pinned], laidTests := true, laidLooks := .later }
def SpanCubicsCardSaid : Prop := Claim7.holds Tryz.pinned (.plain (OpenSpec.ofChange spanCubicsSpec)) spanCubicsCard

/-- THE TIED CARD OF 'retrospectlaw12.GridProducts'. -/
def gridProductsCard : Claim7 := { stood := { row := gridProductsRow, standIns := [], harness := (true, "526c3608b1bf4594dab855b5ea5ed6334915c442bf458cdbca8cfed422c7bfc4"), looks := false }, kinds := [], alts := [], laidByText := true, laidKinds := [.data, .pinned], laidTests := true, laidLooks := .later }
def GridProductsCardSaid : Prop := Claim7.holds Tryz.pinned (.plain (OpenSpec.ofChange gridProductsSpec)) gridProductsCard

/-- THE TIED CARD OF 'retrospectlaw12.GridTells'. -/
def gridTellsCard : Claim7 := { stood := { row := gridTellsRow, standIns := [], harness := (true, "526c3608b1bf4594dab855b5ea5ed6334915c442bf458cdbca8cfed422c7bfc4"), looks := false }, kinds := [], alts := [], laidByText := true, laidKinds := [.data, .pinned], laidTests := true, laidLooks := .later }
def GridTellsCardSaid : Prop := Claim7.holds Tryz.pinned (.plain (OpenSpec.ofChange gridTellsSpec)) gridTellsCard

/-- THE TIED CARD OF 'retrospectlaw12.GridRows'. -/
def gridRowsCard : Claim7 := { stood := { row := gridRowsRow, standIns := [], harness := (true, "526c3608b1bf4594dab855b5ea5ed6334915c442bf458cdbca8cfed422c7bfc4"), looks := false }, kinds := [], alts := [], laidByText := true, laidKinds := [.data, .pinned], laidTests := true, laidLooks := .later }
def GridRowsCardSaid : Prop := Claim7.holds Tryz.pinned (.plain (OpenSpec.ofChange gridRowsSpec)) gridRowsCard

/-- THE TIED CARD OF 'retrospectlaw41.SpanPolys'. -/
def spanPolysCard : Claim7 := { stood := { row := spanPolysRow, standIns := [], harness := (true, "526c3608b1bf4594dab855b5ea5ed6334915c442bf458cdbca8cfed422c7bfc4"), looks := false }, kinds := [], alts := [], laidByText := true, laidKinds := [.data, .pinned], laidTests := true, laidLooks := .later }
def SpanPolysCardSaid : Prop := Claim7.holds Tryz.pinned (.plain (OpenSpec.ofChange spanPolysSpec)) spanPolysCard

/-- THE TIED CARD OF 'retrospectlaw12.GridOrder'. -/
def gridOrderCard : Claim7 := { stood := { row := gridOrderRow, standIns := [], harness := (true, "526c3608b1bf4594dab855b5ea5ed6334915c442bf458cdbca8cfed422c7bfc4"), looks := false }, kinds := [], alts := [], laidByText := true, laidKinds := [.data, .pinned], laidTests := true, laidLooks := .later }
def GridOrderCardSaid : Prop := Claim7.holds Tryz.pinned (.plain (OpenSpec.ofChange gridOrderSpec)) gridOrderCard

/-- THE TIED CARD OF 'retrospectlaw10.FigureWrites'. -/
def figureWritesCard : Claim7 := { stood := { row := figureWritesRow, standIns := [], harness := (true, "526c3608b1bf4594dab855b5ea5ed6334915c442bf458cdbca8cfed422c7bfc4"), looks := false }, kinds := [], alts := [], laidByText := true, laidKinds := [.data, .pinned], laidTests := true, laidLooks := .later }
def FigureWritesCardSaid : Prop := Claim7.holds Tryz.pinned (.plain (OpenSpec.ofChange figureWritesSpec)) figureWritesCard

/-- THE TIED CARD OF 'retrospectlaw10.FigureReads'. -/
def figureReadsCard : Claim7 := { stood := { row := figureReadsRow, standIns := [], harness := (true, "526c3608b1bf4594dab855b5ea5ed6334915c442bf458cdbca8cfed422c7bfc4"), looks := false }, kinds := [], alts := [], laidByText := true, laidKinds := [.data, .pinned], laidTests := true, laidLooks := .later }
def FigureReadsCardSaid : Prop := Claim7.holds Tryz.pinned (.plain (OpenSpec.ofChange figureReadsSpec)) figureReadsCard

/-- THE TIED CARD OF 'retrospectlaw10.FigureBack'. -/
def figureBackCard : Claim7 := { stood := { row := figureBackRow, standIns := [], harness := (true, "526c3608b1bf4594dab855b5ea5ed6334915c442bf458cdbca8cfed422c7bfc4"), looks := false }, kinds := [], alts := [], laidByText := true, laidKinds := [.data, .pinned], laidTests := true, laidLooks := .later }
def FigureBackCardSaid : Prop := Claim7.holds Tryz.pinned (.plain (OpenSpec.ofChange figureBackSpec)) figureBackCard

/-- THE TIED CARD OF 'retrospectlaw10.FigureNear'. -/
def figureNearCard : Claim7 := { stood := { row := figureNearRow, standIns := [], harness := (true, "526c3608b1bf4594dab855b5ea5ed6334915c442bf458cdbca8cfed422c7bfc4"), looks := false }, kinds := [], alts := [], laidByText := true, laidKinds := [.data, .pinned], laidTests := true, laidLooks := .later }
def FigureNearCardSaid : Prop := Claim7.holds Tryz.pinned (.plain (OpenSpec.ofChange figureNearSpec)) figureNearCard

/-- THE TIED CARD OF 'retrospectlaw11.RowTexts'. -/
def rowTextsCard : Claim7 := { stood := { row := rowTextsRow, standIns := [], harness := (true, "526c3608b1bf4594dab855b5ea5ed6334915c442bf458cdbca8cfed422c7bfc4"), looks := false }, kinds := [], alts := [], laidByText := true, laidKinds := [.data, .pinned], laidTests := true, laidLooks := .later }
def RowTextsCardSaid : Prop := Claim7.holds Tryz.pinned (.plain (OpenSpec.ofChange rowTextsSpec)) rowTextsCard

/-- THE SECOND FORM's CARD OF 'retrospectlaw41.SpanCubics'. -/
def spanCubicsUptoCard : Claim7 := { stood := { row := spanCubicsUptoRow, standIns := [], harness := (true, "526c3608b1bf4594dab855b5ea5ed6334915c442bf458cdbca8cfed422c7bfc4"), looks := false }, kinds := [], alts := [], laidByText := true, laidKinds := [.data, .pinned], laidTests := true, laidLooks := .later }
def SpanCubicsUptoCardSaid : Prop := Claim7.holds Tryz.pinned (.plain (OpenSpec.upto spanCubicsSpec)) spanCubicsUptoCard

/-- THE SECOND FORM's CARD OF 'retrospectlaw12.GridProducts'. -/
def gridProductsUptoCard : Claim7 := { stood := { row := gridProductsUptoRow, standIns := [], harness := (true, "526c3608b1bf4594dab855b5ea5ed6334915c442bf458cdbca8cfed422c7bfc4"), looks := false }, kinds := [], alts := [], laidByText := true, laidKinds := [.data, .pinned], laidTests := true, laidLooks := .later }
def GridProductsUptoCardSaid : Prop := Claim7.holds Tryz.pinned (.plain (OpenSpec.upto gridProductsSpec)) gridProductsUptoCard

/-- THE SECOND FORM's CARD OF 'retrospectlaw12.GridTells'. -/
def gridTellsUptoCard : Claim7 := { stood := { row := gridTellsUptoRow, standIns := [], harness := (true, "526c3608b1bf4594dab855b5ea5ed6334915c442bf458cdbca8cfed422c7bfc4"), looks := false }, kinds := [], alts := [], laidByText := true, laidKinds := [.data, .pinned], laidTests := true, laidLooks := .later }
def GridTellsUptoCardSaid : Prop := Claim7.holds Tryz.pinned (.plain (OpenSpec.upto gridTellsSpec)) gridTellsUptoCard

/-- THE SECOND FORM's CARD OF 'retrospectlaw12.GridRows'. -/
def gridRowsUptoCard : Claim7 := { stood := { row := gridRowsUptoRow, standIns := [], harness := (true, "526c3608b1bf4594dab855b5ea5ed6334915c442bf458cdbca8cfed422c7bfc4"), looks := false }, kinds := [], alts := [], laidByText := true, laidKinds := [.data, .pinned], laidTests := true, laidLooks := .later }
def GridRowsUptoCardSaid : Prop := Claim7.holds Tryz.pinned (.plain (OpenSpec.upto gridRowsSpec)) gridRowsUptoCard

/-- THE SECOND FORM's CARD OF 'retrospectlaw41.SpanPolys'. -/
def spanPolysUptoCard : Claim7 := { stood := { row := spanPolysUptoRow, standIns := [], harness := (true, "526c3608b1bf4594dab855b5ea5ed6334915c442bf458cdbca8cfed422c7bfc4"), looks := false }, kinds := [], alts := [], laidByText := true, laidKinds := [.data, .pinned], laidTests := true, laidLooks := .later }
def SpanPolysUptoCardSaid : Prop := Claim7.holds Tryz.pinned (.plain (OpenSpec.upto spanPolysSpec)) spanPolysUptoCard

/-- THE SECOND FORM's CARD OF 'retrospectlaw12.GridOrder'. -/
def gridOrderUptoCard : Claim7 := { stood := { row := gridOrderUptoRow, standIns := [], harness := (true, "526c3608b1bf4594dab855b5ea5ed6334915c442bf458cdbca8cfed422c7bfc4"), looks := false }, kinds := [], alts := [], laidByText := true, laidKinds := [.data, .pinned], laidTests := true, laidLooks := .later }
def GridOrderUptoCardSaid : Prop := Claim7.holds Tryz.pinned (.plain (OpenSpec.upto gridOrderSpec)) gridOrderUptoCard

/-- THE SECOND FORM's CARD OF 'retrospectlaw10.FigureWrites'. -/
def figureWritesUptoCard : Claim7 := { stood := { row := figureWritesUptoRow, standIns := [], harness := (true, "526c3608b1bf4594dab855b5ea5ed6334915c442bf458cdbca8cfed422c7bfc4"), looks := false }, kinds := [], alts := [], laidByText := true, laidKinds := [.data, .pinned], laidTests := true, laidLooks := .later }
def FigureWritesUptoCardSaid : Prop := Claim7.holds Tryz.pinned (.plain (OpenSpec.upto figureWritesSpec)) figureWritesUptoCard

/-- THE SECOND FORM's CARD OF 'retrospectlaw10.FigureReads'. -/
def figureReadsUptoCard : Claim7 := { stood := { row := figureReadsUptoRow, standIns := [], harness := (true, "526c3608b1bf4594dab855b5ea5ed6334915c442bf458cdbca8cfed422c7bfc4"), looks := false }, kinds := [], alts := [], laidByText := true, laidKinds := [.data, .pinned], laidTests := true, laidLooks := .later }
def FigureReadsUptoCardSaid : Prop := Claim7.holds Tryz.pinned (.plain (OpenSpec.upto figureReadsSpec)) figureReadsUptoCard

/-- THE SECOND FORM's CARD OF 'retrospectlaw10.FigureBack'. -/
def figureBackUptoCard : Claim7 := { stood := { row := figureBackUptoRow, standIns := [], harness := (true, "526c3608b1bf4594dab855b5ea5ed6334915c442bf458cdbca8cfed422c7bfc4"), looks := false }, kinds := [], alts := [], laidByText := true, laidKinds := [.data, .pinned], laidTests := true, laidLooks := .later }
def FigureBackUptoCardSaid : Prop := Claim7.holds Tryz.pinned (.plain (OpenSpec.upto figureBackSpec)) figureBackUptoCard

/-- THE SECOND FORM's CARD OF 'retrospectlaw10.FigureNear'. -/
def figureNearUptoCard : Claim7 := { stood := { row := figureNearUptoRow, standIns := [], harness := (true, "526c3608b1bf4594dab855b5ea5ed6334915c442bf458cdbca8cfed422c7bfc4"), looks := false }, kinds := [], alts := [], laidByText := true, laidKinds := [.data, .pinned], laidTests := true, laidLooks := .later }
def FigureNearUptoCardSaid : Prop := Claim7.holds Tryz.pinned (.plain (OpenSpec.upto figureNearSpec)) figureNearUptoCard

/-- THE SECOND FORM's CARD OF 'retrospectlaw11.RowTexts'. -/
def rowTextsUptoCard : Claim7 := { stood := { row := rowTextsUptoRow, standIns := [], harness := (true, "526c3608b1bf4594dab855b5ea5ed6334915c442bf458cdbca8cfed422c7bfc4"), looks := false }, kinds := [], alts := [], laidByText := true, laidKinds := [.data, .pinned], laidTests := true, laidLooks := .later }
def RowTextsUptoCardSaid : Prop := Claim7.holds Tryz.pinned (.plain (OpenSpec.upto rowTextsSpec)) rowTextsUptoCard
end Rows
end Go.Proofs.YtefdnbbfkhkjeaaGreatDoor
