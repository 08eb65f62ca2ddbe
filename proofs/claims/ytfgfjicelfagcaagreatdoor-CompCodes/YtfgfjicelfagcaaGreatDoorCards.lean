/-
  DERIVED. GIVEN WITH THE SEED: THE CARDS: each row of YtfgfjicelfagcaaGreatDoorRows.lean that lists a variable, with what it lists TIED to the program's text (the seventh form; the later family's looks); each row that meets fmt, with fmt's text TOLD by the authors' own Lean function (tested against real Go, not proved from fmt's source: count such statements apart). THE CARD IS WHAT COUNTS. Prove the row's statement (the work); the ties are given (YtfgfjicelfagcaaGreatDoorTie.lean); close each card by the builder's one call (the guide's Derived/Test/ToyasCard.lean, 'card_holds'). Laid BY PROGRAM, IN A SANDBOX (cutbox-door.mjs). By AI agents, Wed Nov 11 2026. No macro, syntax, notation, axiom, sorry.
-/
import Derived.Test.YtfgfjicelfagcaaGreatDoorRows
import GoSem.ClaimSeven
namespace Go.Proofs.YtfgfjicelfagcaaGreatDoor
namespace Rows

/-- THE TIED CARD OF 'retrospectlaw25.CompFields'. -/
def compFieldsCard : Claim7 := { stood := { row := compFieldsRow, standIns := [], harness := (true, "12cca074a2d53894a43870cdecff18ee4c8470387d83dae55935b50bf24bfee1"), looks := false }, kinds := [], alts := [], laidByText := true, laidKinds := [.data, .pinned], laidTests := true, laidLooks := .later }
def CompFieldsCardSaid : Prop := Claim7.holds Tryz.pinned (.plain (OpenSpec.ofChange compFieldsSpec)) compFieldsCard

/-- THE TIED CARD OF 'retrospectlaw25.CompCodes'. -/
def compCodesCard : Claim7 := { stood := { row := compCodesRow, standIns := [], harness := (true, "12cca074a2d53894a43870cdecff18ee4c8470387d83dae55935b50bf24bfee1"), looks := false }, kinds := [], alts := [], laidByText := true, laidKinds := [.data, .pinned], laidTests := true, laidLooks := .later }
def CompCodesCardSaid : Prop := Claim7.holds Tryz.pinned (.plain (OpenSpec.ofChange compCodesSpec)) compCodesCard

/-- THE TIED CARD OF 'retrospectlaw25.CompOnce'. -/
def compOnceCard : Claim7 := { stood := { row := compOnceRow, standIns := [], harness := (true, "12cca074a2d53894a43870cdecff18ee4c8470387d83dae55935b50bf24bfee1"), looks := false }, kinds := [], alts := [], laidByText := true, laidKinds := [.data, .pinned], laidTests := true, laidLooks := .later }
def CompOnceCardSaid : Prop := Claim7.holds Tryz.pinned (.plain (OpenSpec.ofChange compOnceSpec)) compOnceCard

/-- THE SECOND FORM's CARD OF 'retrospectlaw25.CompFields'. -/
def compFieldsUptoCard : Claim7 := { stood := { row := compFieldsUptoRow, standIns := [], harness := (true, "12cca074a2d53894a43870cdecff18ee4c8470387d83dae55935b50bf24bfee1"), looks := false }, kinds := [], alts := [], laidByText := true, laidKinds := [.data, .pinned], laidTests := true, laidLooks := .later }
def CompFieldsUptoCardSaid : Prop := Claim7.holds Tryz.pinned (.plain (OpenSpec.upto compFieldsSpec)) compFieldsUptoCard

/-- THE SECOND FORM's CARD OF 'retrospectlaw25.CompCodes'. -/
def compCodesUptoCard : Claim7 := { stood := { row := compCodesUptoRow, standIns := [], harness := (true, "12cca074a2d53894a43870cdecff18ee4c8470387d83dae55935b50bf24bfee1"), looks := false }, kinds := [], alts := [], laidByText := true, laidKinds := [.data, .pinned], laidTests := true, laidLooks := .later }
def CompCodesUptoCardSaid : Prop := Claim7.holds Tryz.pinned (.plain (OpenSpec.upto compCodesSpec)) compCodesUptoCard

/-- THE SECOND FORM's CARD OF 'retrospectlaw25.CompOnce'. -/
def compOnceUptoCard : Claim7 := { stood := { row := compOnceUptoRow, standIns := [], harness := (true, "12cca074a2d53894a43870cdecff18ee4c8470387d83dae55935b50bf24bfee1"), looks := false }, kinds := [], alts := [], laidByText := true, laidKinds := [.data, .pinned], laidTests := true, laidLooks := .later }
def CompOnceUptoCardSaid : Prop := Claim7.holds Tryz.pinned (.plain (OpenSpec.upto compOnceSpec)) compOnceUptoCard
end Rows
end Go.Proofs.YtfgfjicelfagcaaGreatDoor
