/-
  DERIVED. GIVEN WITH THE SEED: THE CARDS: each row of YtoogmjnkclcjjaaGreatDoorRows.lean that lists a variable, with what it lists TIED to the program's text (the seventh form; the later family's looks); each row that meets fmt, with fmt's text TOLD by the authors' own Lean function (tested against real Go, not proved from fmt's source: count such statements apart). THE CARD IS WHAT COUNTS. Prove the row's statement (the work); the ties are given (YtoogmjnkclcjjaaGreatDoorTie.lean); close each card by the builder's one call (the guide's Derived/Test/ToyasCard.lean, 'card_holds'). Laid BY PROGRAM, IN A SANDBOX (cutbox-door.mjs). By AI agents, Wed Nov 11 2026. No macro, syntax, notation, axiom, sorry.
-/
import Derived.Test.YtoogmjnkclcjjaaGreatDoorRows
import GoSem.ClaimSeven
namespace Go.Proofs.YtoogmjnkclcjjaaGreatDoor
namespace Rows

/-- THE TIED CARD OF 'retrospectlaw10.FigureWrites'. -/
def figureWritesCard : Claim7 := { stood := { row := figureWritesRow, standIns := [], harness := (true, "80be4e85b5cd5f70911c0a1fd03bfe194a6efa2bbbae20a81e570d85e211c44e"), looks := false }, kinds := [], alts := [], laidByText := true, laidKinds := [.data, .pinned], laidTests := true, laidLooks := .later }
def FigureWritesCardSaid : Prop := Claim7.holds Tryz.pinned (.plain (OpenSpec.ofChange figureWritesSpec)) figureWritesCard

/-- THE SECOND FORM's CARD OF 'retrospectlaw10.FigureWrites'. -/
def figureWritesUptoCard : Claim7 := { stood := { row := figureWritesUptoRow, standIns := [], harness := (true, "80be4e85b5cd5f70911c0a1fd03bfe194a6efa2bbbae20a81e570d85e211c44e"), looks := false }, kinds := [], alts := [], laidByText := true, laidKinds := [.data, .pinned], laidTests := true, laidLooks := .later }
def FigureWritesUptoCardSaid : Prop := Claim7.holds Tryz.pinned (.plain (OpenSpec.upto figureWritesSpec)) figureWritesUptoCard
end Rows
end Go.Proofs.YtoogmjnkclcjjaaGreatDoor
