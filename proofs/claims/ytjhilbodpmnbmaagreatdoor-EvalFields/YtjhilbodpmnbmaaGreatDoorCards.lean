/-
  DERIVED. GIVEN WITH THE SEED: THE CARDS: each row of YtjhilbodpmnbmaaGreatDoorRows.lean that lists a variable, with what it lists TIED to the program's text (the seventh form; the later family's looks); each row that meets fmt, with fmt's text TOLD by the authors' own Lean function (tested against real Go, not proved from fmt's source: count such statements apart). THE CARD IS WHAT COUNTS. Prove the row's statement (the work); the ties are given (YtjhilbodpmnbmaaGreatDoorTie.lean); close each card by the builder's one call (the guide's Derived/Test/ToyasCard.lean, 'card_holds'). Laid BY PROGRAM, IN A SANDBOX (cutbox-door.mjs). By AI agents, Wed Nov 11 2026. No macro, syntax, notation, axiom, sorry.
-/
import Derived.Test.YtjhilbodpmnbmaaGreatDoorRows
import GoSem.ClaimSeven
namespace Go.Proofs.YtjhilbodpmnbmaaGreatDoor
namespace Rows

/-- THE TIED CARD OF 'retrospectlaw21.EvalFields'. -/
def evalFieldsCard : Claim7 := { stood := { row := evalFieldsRow, standIns := [], harness := (true, "67ec19401f3b8f658b43138e4148ca3c655e1c606f49e0438b65261e82c23c53"), looks := false }, kinds := [], alts := [], laidByText := true, laidKinds := [.data, .pinned], laidTests := true, laidLooks := .later }
def EvalFieldsCardSaid : Prop := Claim7.holds Tryz.pinned (.plain (OpenSpec.ofChange evalFieldsSpec)) evalFieldsCard

/-- THE TIED CARD OF 'retrospectlaw29.SlopeAlong'. -/
def slopeAlongCard : Claim7 := { stood := { row := slopeAlongRow, standIns := [], harness := (true, "67ec19401f3b8f658b43138e4148ca3c655e1c606f49e0438b65261e82c23c53"), looks := false }, kinds := [], alts := [], laidByText := true, laidKinds := [.data, .pinned], laidTests := true, laidLooks := .later }
def SlopeAlongCardSaid : Prop := Claim7.holds Tryz.pinned (.plain (OpenSpec.ofChange slopeAlongSpec)) slopeAlongCard

/-- THE SECOND FORM's CARD OF 'retrospectlaw21.EvalFields'. -/
def evalFieldsUptoCard : Claim7 := { stood := { row := evalFieldsUptoRow, standIns := [], harness := (true, "67ec19401f3b8f658b43138e4148ca3c655e1c606f49e0438b65261e82c23c53"), looks := false }, kinds := [], alts := [], laidByText := true, laidKinds := [.data, .pinned], laidTests := true, laidLooks := .later }
def EvalFieldsUptoCardSaid : Prop := Claim7.holds Tryz.pinned (.plain (OpenSpec.upto evalFieldsSpec)) evalFieldsUptoCard

/-- THE SECOND FORM's CARD OF 'retrospectlaw29.SlopeAlong'. -/
def slopeAlongUptoCard : Claim7 := { stood := { row := slopeAlongUptoRow, standIns := [], harness := (true, "67ec19401f3b8f658b43138e4148ca3c655e1c606f49e0438b65261e82c23c53"), looks := false }, kinds := [], alts := [], laidByText := true, laidKinds := [.data, .pinned], laidTests := true, laidLooks := .later }
def SlopeAlongUptoCardSaid : Prop := Claim7.holds Tryz.pinned (.plain (OpenSpec.upto slopeAlongSpec)) slopeAlongUptoCard
end Rows
end Go.Proofs.YtjhilbodpmnbmaaGreatDoor
