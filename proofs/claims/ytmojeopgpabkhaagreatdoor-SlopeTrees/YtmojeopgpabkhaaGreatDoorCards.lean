/-
  DERIVED. GIVEN WITH THE SEED: THE CARDS: each row of YtmojeopgpabkhaaGreatDoorRows.lean that lists a variable, with what it lists TIED to the program's text (the seventh form; the later family's looks); each row that meets fmt, with fmt's text TOLD by the authors' own Lean function (tested against real Go, not proved from fmt's source: count such statements apart). THE CARD IS WHAT COUNTS. Prove the row's statement (the work); the ties are given (YtmojeopgpabkhaaGreatDoorTie.lean); close each card by the builder's one call (the guide's Derived/Test/ToyasCard.lean, 'card_holds'). Laid BY PROGRAM, IN A SANDBOX (cutbox-door.mjs). By AI agents, Wed Nov 11 2026. No macro, syntax, notation, axiom, sorry.
-/
import Derived.Test.YtmojeopgpabkhaaGreatDoorRows
import GoSem.ClaimSeven
namespace Go.Proofs.YtmojeopgpabkhaaGreatDoor
namespace Rows

/-- THE TIED CARD OF 'retrospectlaw29.SlopeTrees'. -/
def slopeTreesCard : Claim7 := { stood := { row := slopeTreesRow, standIns := [], harness := (true, "686b03759bdcf531835d0ddf80f70dc1f1db583e1739e4b5f97a7ca764dcdae4"), looks := false }, kinds := [], alts := [], laidByText := true, laidKinds := [.data, .pinned], laidTests := true, laidLooks := .later }
def SlopeTreesCardSaid : Prop := Claim7.holds Tryz.pinned (.plain (OpenSpec.ofChange slopeTreesSpec)) slopeTreesCard

/-- THE SECOND FORM's CARD OF 'retrospectlaw29.SlopeTrees'. -/
def slopeTreesUptoCard : Claim7 := { stood := { row := slopeTreesUptoRow, standIns := [], harness := (true, "686b03759bdcf531835d0ddf80f70dc1f1db583e1739e4b5f97a7ca764dcdae4"), looks := false }, kinds := [], alts := [], laidByText := true, laidKinds := [.data, .pinned], laidTests := true, laidLooks := .later }
def SlopeTreesUptoCardSaid : Prop := Claim7.holds Tryz.pinned (.plain (OpenSpec.upto slopeTreesSpec)) slopeTreesUptoCard
end Rows
end Go.Proofs.YtmojeopgpabkhaaGreatDoor
