/-
  DERIVED. GIVEN WITH THE SEED: THE CARDS: each row of YtfgfjicelfagcabGreatDoorRows.lean that lists a variable, with what it lists TIED to the program's text (the seventh form; the later family's looks); each row that meets fmt, with fmt's text TOLD by the authors' own Lean function (tested against real Go, not proved from fmt's source: count such statements apart). THE CARD IS WHAT COUNTS. Prove the row's statement (the work); the ties are given (YtfgfjicelfagcabGreatDoorTie.lean); close each card by the builder's one call (the guide's Derived/Test/ToyasCard.lean, 'card_holds'). Laid BY PROGRAM, IN A SANDBOX (cutbox-door.mjs). By AI agents, Wed Nov 11 2026. No macro, syntax, notation, axiom, sorry.
-/
import Derived.Test.YtfgfjicelfagcabGreatDoorRows
import GoSem.ClaimSeven
namespace Go.Proofs.YtfgfjicelfagcabGreatDoor
namespace Rows

/-- THE TIED CARD OF 'retrospectlaw22.PlainOuts'. -/
def plainOutsCard : Claim7 := { stood := { row := plainOutsRow, standIns := [], harness := (true, "d22d9473594770c79c6552a3bf10f945ab8aa99c5c0f6f85dd3146402ec1ba1c"), looks := false }, kinds := [], alts := [], laidByText := true, laidKinds := [.data, .pinned], laidTests := true, laidLooks := .later }
def PlainOutsCardSaid : Prop := Claim7.holds Tryz.pinned (.plain (OpenSpec.ofChange plainOutsSpec)) plainOutsCard

/-- THE TIED CARD OF 'retrospectlaw22.PlainSame'. -/
def plainSameCard : Claim7 := { stood := { row := plainSameRow, standIns := [], harness := (true, "d22d9473594770c79c6552a3bf10f945ab8aa99c5c0f6f85dd3146402ec1ba1c"), looks := false }, kinds := [], alts := [], laidByText := true, laidKinds := [.data, .pinned], laidTests := true, laidLooks := .later }
def PlainSameCardSaid : Prop := Claim7.holds Tryz.pinned (.plain (OpenSpec.ofChange plainSameSpec)) plainSameCard

/-- THE TIED CARD OF 'retrospectlaw26.RunTree'. -/
def runTreeCard : Claim7 := { stood := { row := runTreeRow, standIns := [], harness := (true, "d22d9473594770c79c6552a3bf10f945ab8aa99c5c0f6f85dd3146402ec1ba1c"), looks := false }, kinds := [], alts := [], laidByText := true, laidKinds := [.data, .pinned], laidTests := true, laidLooks := .later }
def RunTreeCardSaid : Prop := Claim7.holds Tryz.pinned (.plain (OpenSpec.ofChange runTreeSpec)) runTreeCard

/-- THE SECOND FORM's CARD OF 'retrospectlaw22.PlainOuts'. -/
def plainOutsUptoCard : Claim7 := { stood := { row := plainOutsUptoRow, standIns := [], harness := (true, "d22d9473594770c79c6552a3bf10f945ab8aa99c5c0f6f85dd3146402ec1ba1c"), looks := false }, kinds := [], alts := [], laidByText := true, laidKinds := [.data, .pinned], laidTests := true, laidLooks := .later }
def PlainOutsUptoCardSaid : Prop := Claim7.holds Tryz.pinned (.plain (OpenSpec.upto plainOutsSpec)) plainOutsUptoCard

/-- THE SECOND FORM's CARD OF 'retrospectlaw22.PlainSame'. -/
def plainSameUptoCard : Claim7 := { stood := { row := plainSameUptoRow, standIns := [], harness := (true, "d22d9473594770c79c6552a3bf10f945ab8aa99c5c0f6f85dd3146402ec1ba1c"), looks := false }, kinds := [], alts := [], laidByText := true, laidKinds := [.data, .pinned], laidTests := true, laidLooks := .later }
def PlainSameUptoCardSaid : Prop := Claim7.holds Tryz.pinned (.plain (OpenSpec.upto plainSameSpec)) plainSameUptoCard

/-- THE SECOND FORM's CARD OF 'retrospectlaw26.RunTree'. -/
def runTreeUptoCard : Claim7 := { stood := { row := runTreeUptoRow, standIns := [], harness := (true, "d22d9473594770c79c6552a3bf10f945ab8aa99c5c0f6f85dd3146402ec1ba1c"), looks := false }, kinds := [], alts := [], laidByText := true, laidKinds := [.data, .pinned], laidTests := true, laidLooks := .later }
def RunTreeUptoCardSaid : Prop := Claim7.holds Tryz.pinned (.plain (OpenSpec.upto runTreeSpec)) runTreeUptoCard
end Rows
end Go.Proofs.YtfgfjicelfagcabGreatDoor
