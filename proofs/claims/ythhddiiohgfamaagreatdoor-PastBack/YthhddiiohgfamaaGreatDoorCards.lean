/-
  DERIVED. GIVEN WITH THE SEED: THE CARDS: each row of YthhddiiohgfamaaGreatDoorRows.lean that lists a variable, with what it lists TIED to the program's text (the seventh form; the later family's looks); each row that meets fmt, with fmt's text TOLD by the authors' own Lean function (tested against real Go, not proved from fmt's source: count such statements apart). THE CARD IS WHAT COUNTS. Prove the row's statement (the work); the ties are given (YthhddiiohgfamaaGreatDoorTie.lean); close each card by the builder's one call (the guide's Derived/Test/ToyasCard.lean, 'card_holds'). Laid BY PROGRAM, IN A SANDBOX (cutbox-door.mjs). By AI agents, Wed Nov 11 2026. No macro, syntax, notation, axiom, sorry.
-/
import Derived.Test.YthhddiiohgfamaaGreatDoorRows
import GoSem.ClaimSeven
namespace Go.Proofs.YthhddiiohgfamaaGreatDoor
namespace Rows

/-- THE TIED CARD OF 'retrospectlaw37.PastTells'. -/
def pastTellsCard : Claim7 := { stood := { row := pastTellsRow, standIns := [], harness := (true, "b82fdfb351fddd41830e8c4458fcd60bf2f399b6aabfec7a7c89cb44187cf0a2"), looks := false }, kinds := [], alts := [], laidByText := true, laidKinds := [.data, .pinned], laidTests := true, laidLooks := .later }
def PastTellsCardSaid : Prop := Claim7.holds Tryz.pinned (.plain (OpenSpec.ofChange pastTellsSpec)) pastTellsCard

/-- THE TIED CARD OF 'retrospectlaw37.PastBack'. -/
def pastBackCard : Claim7 := { stood := { row := pastBackRow, standIns := [], harness := (true, "b82fdfb351fddd41830e8c4458fcd60bf2f399b6aabfec7a7c89cb44187cf0a2"), looks := false }, kinds := [], alts := [], laidByText := true, laidKinds := [.data, .pinned], laidTests := true, laidLooks := .later }
def PastBackCardSaid : Prop := Claim7.holds Tryz.pinned (.plain (OpenSpec.ofChange pastBackSpec)) pastBackCard

/-- THE SECOND FORM's CARD OF 'retrospectlaw37.PastTells'. -/
def pastTellsUptoCard : Claim7 := { stood := { row := pastTellsUptoRow, standIns := [], harness := (true, "b82fdfb351fddd41830e8c4458fcd60bf2f399b6aabfec7a7c89cb44187cf0a2"), looks := false }, kinds := [], alts := [], laidByText := true, laidKinds := [.data, .pinned], laidTests := true, laidLooks := .later }
def PastTellsUptoCardSaid : Prop := Claim7.holds Tryz.pinned (.plain (OpenSpec.upto pastTellsSpec)) pastTellsUptoCard

/-- THE SECOND FORM's CARD OF 'retrospectlaw37.PastBack'. -/
def pastBackUptoCard : Claim7 := { stood := { row := pastBackUptoRow, standIns := [], harness := (true, "b82fdfb351fddd41830e8c4458fcd60bf2f399b6aabfec7a7c89cb44187cf0a2"), looks := false }, kinds := [], alts := [], laidByText := true, laidKinds := [.data, .pinned], laidTests := true, laidLooks := .later }
def PastBackUptoCardSaid : Prop := Claim7.holds Tryz.pinned (.plain (OpenSpec.upto pastBackSpec)) pastBackUptoCard
end Rows
end Go.Proofs.YthhddiiohgfamaaGreatDoor
