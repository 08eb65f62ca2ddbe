/-
  DERIVED. GIVEN WITH THE SEED: THE CARDS: each row of YthonocjkfhnfgaaGreatDoorRows.lean that lists a variable, with what it lists TIED to the program's text (the seventh form; the later family's looks); each row that meets fmt, with fmt's text TOLD by the authors' own Lean function (tested against real Go, not proved from fmt's source: count such statements apart). THE CARD IS WHAT COUNTS. Prove the row's statement (the work); the ties are given (YthonocjkfhnfgaaGreatDoorTie.lean); close each card by the builder's one call (the guide's Derived/Test/ToyasCard.lean, 'card_holds'). Laid BY PROGRAM, IN A SANDBOX (cutbox-door.mjs). By AI agents, Wed Nov 11 2026. No macro, syntax, notation, axiom, sorry.
-/
import Derived.Test.YthonocjkfhnfgaaGreatDoorRows
import GoSem.ClaimSeven
namespace Go.Proofs.YthonocjkfhnfgaaGreatDoor
namespace Rows

/-- THE TIED CARD OF 'retrospectlaw27.PushLinear'. -/
def pushLinearCard : Claim7 := { stood := { row := pushLinearRow, standIns := [], harness := (true, "e6eb64b98360e96efaf72b9879f6af53524594aac6076f340ba930ad937f8171"), looks := false }, kinds := [], alts := [], laidByText := true, laidKinds := [.data, .pinned], laidTests := true, laidLooks := .later }
def PushLinearCardSaid : Prop := Claim7.holds Tryz.pinned (.plain (OpenSpec.ofChange pushLinearSpec)) pushLinearCard

/-- THE TIED CARD OF 'retrospectlaw28.PullPush'. -/
def pullPushCard : Claim7 := { stood := { row := pullPushRow, standIns := [], harness := (true, "e6eb64b98360e96efaf72b9879f6af53524594aac6076f340ba930ad937f8171"), looks := false }, kinds := [], alts := [], laidByText := true, laidKinds := [.data, .pinned], laidTests := true, laidLooks := .later }
def PullPushCardSaid : Prop := Claim7.holds Tryz.pinned (.plain (OpenSpec.ofChange pullPushSpec)) pullPushCard

/-- THE TIED CARD OF 'retrospectlaw29.SlopeAlong'. -/
def slopeAlongCard : Claim7 := { stood := { row := slopeAlongRow, standIns := [], harness := (true, "e6eb64b98360e96efaf72b9879f6af53524594aac6076f340ba930ad937f8171"), looks := false }, kinds := [], alts := [], laidByText := true, laidKinds := [.data, .pinned], laidTests := true, laidLooks := .later }
def SlopeAlongCardSaid : Prop := Claim7.holds Tryz.pinned (.plain (OpenSpec.ofChange slopeAlongSpec)) slopeAlongCard

/-- THE TIED CARD OF 'retrospectlaw29.SlopeBoth'. -/
def slopeBothCard : Claim7 := { stood := { row := slopeBothRow, standIns := [], harness := (true, "e6eb64b98360e96efaf72b9879f6af53524594aac6076f340ba930ad937f8171"), looks := false }, kinds := [], alts := [], laidByText := true, laidKinds := [.data, .pinned], laidTests := true, laidLooks := .later }
def SlopeBothCardSaid : Prop := Claim7.holds Tryz.pinned (.plain (OpenSpec.ofChange slopeBothSpec)) slopeBothCard

/-- THE SECOND FORM's CARD OF 'retrospectlaw27.PushLinear'. -/
def pushLinearUptoCard : Claim7 := { stood := { row := pushLinearUptoRow, standIns := [], harness := (true, "e6eb64b98360e96efaf72b9879f6af53524594aac6076f340ba930ad937f8171"), looks := false }, kinds := [], alts := [], laidByText := true, laidKinds := [.data, .pinned], laidTests := true, laidLooks := .later }
def PushLinearUptoCardSaid : Prop := Claim7.holds Tryz.pinned (.plain (OpenSpec.upto pushLinearSpec)) pushLinearUptoCard

/-- THE SECOND FORM's CARD OF 'retrospectlaw28.PullPush'. -/
def pullPushUptoCard : Claim7 := { stood := { row := pullPushUptoRow, standIns := [], harness := (true, "e6eb64b98360e96efaf72b9879f6af53524594aac6076f340ba930ad937f8171"), looks := false }, kinds := [], alts := [], laidByText := true, laidKinds := [.data, .pinned], laidTests := true, laidLooks := .later }
def PullPushUptoCardSaid : Prop := Claim7.holds Tryz.pinned (.plain (OpenSpec.upto pullPushSpec)) pullPushUptoCard

/-- THE SECOND FORM's CARD OF 'retrospectlaw29.SlopeAlong'. -/
def slopeAlongUptoCard : Claim7 := { stood := { row := slopeAlongUptoRow, standIns := [], harness := (true, "e6eb64b98360e96efaf72b9879f6af53524594aac6076f340ba930ad937f8171"), looks := false }, kinds := [], alts := [], laidByText := true, laidKinds := [.data, .pinned], laidTests := true, laidLooks := .later }
def SlopeAlongUptoCardSaid : Prop := Claim7.holds Tryz.pinned (.plain (OpenSpec.upto slopeAlongSpec)) slopeAlongUptoCard

/-- THE SECOND FORM's CARD OF 'retrospectlaw29.SlopeBoth'. -/
def slopeBothUptoCard : Claim7 := { stood := { row := slopeBothUptoRow, standIns := [], harness := (true, "e6eb64b98360e96efaf72b9879f6af53524594aac6076f340ba930ad937f8171"), looks := false }, kinds := [], alts := [], laidByText := true, laidKinds := [.data, .pinned], laidTests := true, laidLooks := .later }
def SlopeBothUptoCardSaid : Prop := Claim7.holds Tryz.pinned (.plain (OpenSpec.upto slopeBothSpec)) slopeBothUptoCard
end Rows
end Go.Proofs.YthonocjkfhnfgaaGreatDoor
