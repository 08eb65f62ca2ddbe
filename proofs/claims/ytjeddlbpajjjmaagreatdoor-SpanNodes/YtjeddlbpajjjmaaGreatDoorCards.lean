/-
  DERIVED. GIVEN WITH THE SEED: THE CARDS: each row of YtjeddlbpajjjmaaGreatDoorRows.lean that lists a variable, with what it lists TIED to the program's text (the seventh form; the later family's looks); each row that meets fmt, with fmt's text TOLD by the authors' own Lean function (tested against real Go, not proved from fmt's source: count such statements apart). THE CARD IS WHAT COUNTS. Prove the row's statement (the work); the ties are given (YtjeddlbpajjjmaaGreatDoorTie.lean); close each card by the builder's one call (the guide's Derived/Test/ToyasCard.lean, 'card_holds'). Laid BY PROGRAM, IN A SANDBOX (cutbox-door.mjs). By AI agents, Wed Nov 11 2026. No macro, syntax, notation, axiom, sorry.
-/
import Derived.Test.YtjeddlbpajjjmaaGreatDoorRows
import GoSem.ClaimSeven
namespace Go.Proofs.YtjeddlbpajjjmaaGreatDoor
namespace Rows

/-- THE TIED CARD OF 'retrospectlaw41.SpanStates'. -/
def spanStatesCard : Claim7 := { stood := { row := spanStatesRow, standIns := [], harness := (true, "60d51686f36f7f9bc38d4c537fd8516b4b3adb634c205ae46b890876c3245e62"), looks := false }, kinds := [], alts := [], laidByText := true, laidKinds := [.data, .pinned], laidTests := true, laidLooks := .later }
def SpanStatesCardSaid : Prop := Claim7.holds Tryz.pinned (.plain (OpenSpec.ofChange spanStatesSpec)) spanStatesCard

/-- THE TIED CARD OF 'retrospectlaw41.SpanNodes'. -/
def spanNodesCard : Claim7 := { stood := { row := spanNodesRow, standIns := [], harness := (true, "60d51686f36f7f9bc38d4c537fd8516b4b3adb634c205ae46b890876c3245e62"), looks := false }, kinds := [], alts := [], laidByText := true, laidKinds := [.data, .pinned], laidTests := true, laidLooks := .later }
def SpanNodesCardSaid : Prop := Claim7.holds Tryz.pinned (.plain (OpenSpec.ofChange spanNodesSpec)) spanNodesCard

/-- THE SECOND FORM's CARD OF 'retrospectlaw41.SpanStates'. -/
def spanStatesUptoCard : Claim7 := { stood := { row := spanStatesUptoRow, standIns := [], harness := (true, "60d51686f36f7f9bc38d4c537fd8516b4b3adb634c205ae46b890876c3245e62"), looks := false }, kinds := [], alts := [], laidByText := true, laidKinds := [.data, .pinned], laidTests := true, laidLooks := .later }
def SpanStatesUptoCardSaid : Prop := Claim7.holds Tryz.pinned (.plain (OpenSpec.upto spanStatesSpec)) spanStatesUptoCard

/-- THE SECOND FORM's CARD OF 'retrospectlaw41.SpanNodes'. -/
def spanNodesUptoCard : Claim7 := { stood := { row := spanNodesUptoRow, standIns := [], harness := (true, "60d51686f36f7f9bc38d4c537fd8516b4b3adb634c205ae46b890876c3245e62"), looks := false }, kinds := [], alts := [], laidByText := true, laidKinds := [.data, .pinned], laidTests := true, laidLooks := .later }
def SpanNodesUptoCardSaid : Prop := Claim7.holds Tryz.pinned (.plain (OpenSpec.upto spanNodesSpec)) spanNodesUptoCard
end Rows
end Go.Proofs.YtjeddlbpajjjmaaGreatDoor
