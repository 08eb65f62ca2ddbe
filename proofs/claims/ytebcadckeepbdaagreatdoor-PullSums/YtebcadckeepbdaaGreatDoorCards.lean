/-
  DERIVED. GIVEN WITH THE SEED: THE CARDS: each row of YtebcadckeepbdaaGreatDoorRows.lean that lists a variable, with what it lists TIED to the program's text (the seventh form; the later family's looks); each row that meets fmt, with fmt's text TOLD by the authors' own Lean function (tested against real Go, not proved from fmt's source: count such statements apart). THE CARD IS WHAT COUNTS. Prove the row's statement (the work); the ties are given (YtebcadckeepbdaaGreatDoorTie.lean); close each card by the builder's one call (the guide's Derived/Test/ToyasCard.lean, 'card_holds'). Laid BY PROGRAM, IN A SANDBOX (cutbox-door.mjs). By AI agents, Wed Nov 11 2026. No macro, syntax, notation, axiom, sorry.
-/
import Derived.Test.YtebcadckeepbdaaGreatDoorRows
import GoSem.ClaimSeven
namespace Go.Proofs.YtebcadckeepbdaaGreatDoor
namespace Rows

/-- THE TIED CARD OF 'retrospectlaw28.PullSums'. -/
def pullSumsCard : Claim7 := { stood := { row := pullSumsRow, standIns := [], harness := (true, "191324999ea68451c7ff24b639687a48192ce50c6e793d68d47974f828f2231b"), looks := false }, kinds := [], alts := [], laidByText := true, laidKinds := [.data, .pinned], laidTests := true, laidLooks := .later }
def PullSumsCardSaid : Prop := Claim7.holds Tryz.pinned (.plain (OpenSpec.ofChange pullSumsSpec)) pullSumsCard

/-- THE TIED CARD OF 'retrospectlaw28.PullLinear'. -/
def pullLinearCard : Claim7 := { stood := { row := pullLinearRow, standIns := [], harness := (true, "191324999ea68451c7ff24b639687a48192ce50c6e793d68d47974f828f2231b"), looks := false }, kinds := [], alts := [], laidByText := true, laidKinds := [.data, .pinned], laidTests := true, laidLooks := .later }
def PullLinearCardSaid : Prop := Claim7.holds Tryz.pinned (.plain (OpenSpec.ofChange pullLinearSpec)) pullLinearCard

/-- THE SECOND FORM's CARD OF 'retrospectlaw28.PullSums'. -/
def pullSumsUptoCard : Claim7 := { stood := { row := pullSumsUptoRow, standIns := [], harness := (true, "191324999ea68451c7ff24b639687a48192ce50c6e793d68d47974f828f2231b"), looks := false }, kinds := [], alts := [], laidByText := true, laidKinds := [.data, .pinned], laidTests := true, laidLooks := .later }
def PullSumsUptoCardSaid : Prop := Claim7.holds Tryz.pinned (.plain (OpenSpec.upto pullSumsSpec)) pullSumsUptoCard

/-- THE SECOND FORM's CARD OF 'retrospectlaw28.PullLinear'. -/
def pullLinearUptoCard : Claim7 := { stood := { row := pullLinearUptoRow, standIns := [], harness := (true, "191324999ea68451c7ff24b639687a48192ce50c6e793d68d47974f828f2231b"), looks := false }, kinds := [], alts := [], laidByText := true, laidKinds := [.data, .pinned], laidTests := true, laidLooks := .later }
def PullLinearUptoCardSaid : Prop := Claim7.holds Tryz.pinned (.plain (OpenSpec.upto pullLinearSpec)) pullLinearUptoCard
end Rows
end Go.Proofs.YtebcadckeepbdaaGreatDoor
