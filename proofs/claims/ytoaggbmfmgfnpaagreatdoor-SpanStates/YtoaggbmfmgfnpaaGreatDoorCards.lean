/-
  DERIVED. GIVEN WITH THE SEED: THE CARDS: each row of YtoaggbmfmgfnpaaGreatDoorRows.lean that lists a variable, with what it lists TIED to the program's text (the seventh form; the later family's looks); each row that meets fmt, with fmt's text TOLD by the authors' own Lean function (tested against real Go, not proved from fmt's source: count such statements apart). THE CARD IS WHAT COUNTS. Prove the row's statement (the work); the ties are given (YtoaggbmfmgfnpaaGreatDoorTie.lean); close each card by the builder's one call (the guide's Derived/Test/ToyasCard.lean, 'card_holds'). Laid BY PROGRAM, IN A SANDBOX (cutbox-door.mjs). By AI agents, Wed Nov 11 2026. No macro, syntax, notation, axiom, sorry.
-/
import Derived.Test.YtoaggbmfmgfnpaaGreatDoorRows
import GoSem.ClaimSeven
namespace Go.Proofs.YtoaggbmfmgfnpaaGreatDoor
namespace Rows

/-- THE TIED CARD OF 'retrospectlaw32.OrderTrees'. -/
def orderTreesCard : Claim7 := { stood := { row := orderTreesRow, standIns := [], harness := (true, "82818cb32d5d61b958ae020c36909c3b054024c081b31e6b5d168497a4db9a37"), looks := false }, kinds := [], alts := [], laidByText := true, laidKinds := [.data, .pinned], laidTests := true, laidLooks := .later }
def OrderTreesCardSaid : Prop := Claim7.holds Tryz.pinned (.plain (OpenSpec.ofChange orderTreesSpec)) orderTreesCard

/-- THE TIED CARD OF 'retrospectlaw41.SpanStates'. -/
def spanStatesCard : Claim7 := { stood := { row := spanStatesRow, standIns := [], harness := (true, "82818cb32d5d61b958ae020c36909c3b054024c081b31e6b5d168497a4db9a37"), looks := false }, kinds := [], alts := [], laidByText := true, laidKinds := [.data, .pinned], laidTests := true, laidLooks := .later }
def SpanStatesCardSaid : Prop := Claim7.holds Tryz.pinned (.plain (OpenSpec.ofChange spanStatesSpec)) spanStatesCard

/-- THE TIED CARD OF 'retrospectlaw30.SchemeTells'. -/
def schemeTellsCard : Claim7 := { stood := { row := schemeTellsRow, standIns := [], harness := (true, "82818cb32d5d61b958ae020c36909c3b054024c081b31e6b5d168497a4db9a37"), looks := false }, kinds := [], alts := [], laidByText := true, laidKinds := [.data, .pinned], laidTests := true, laidLooks := .later }
def SchemeTellsCardSaid : Prop := Claim7.holds Tryz.pinned (.plain (OpenSpec.ofChange schemeTellsSpec)) schemeTellsCard

/-- THE SECOND FORM's CARD OF 'retrospectlaw32.OrderTrees'. -/
def orderTreesUptoCard : Claim7 := { stood := { row := orderTreesUptoRow, standIns := [], harness := (true, "82818cb32d5d61b958ae020c36909c3b054024c081b31e6b5d168497a4db9a37"), looks := false }, kinds := [], alts := [], laidByText := true, laidKinds := [.data, .pinned], laidTests := true, laidLooks := .later }
def OrderTreesUptoCardSaid : Prop := Claim7.holds Tryz.pinned (.plain (OpenSpec.upto orderTreesSpec)) orderTreesUptoCard

/-- THE SECOND FORM's CARD OF 'retrospectlaw41.SpanStates'. -/
def spanStatesUptoCard : Claim7 := { stood := { row := spanStatesUptoRow, standIns := [], harness := (true, "82818cb32d5d61b958ae020c36909c3b054024c081b31e6b5d168497a4db9a37"), looks := false }, kinds := [], alts := [], laidByText := true, laidKinds := [.data, .pinned], laidTests := true, laidLooks := .later }
def SpanStatesUptoCardSaid : Prop := Claim7.holds Tryz.pinned (.plain (OpenSpec.upto spanStatesSpec)) spanStatesUptoCard

/-- THE SECOND FORM's CARD OF 'retrospectlaw30.SchemeTells'. -/
def schemeTellsUptoCard : Claim7 := { stood := { row := schemeTellsUptoRow, standIns := [], harness := (true, "82818cb32d5d61b958ae020c36909c3b054024c081b31e6b5d168497a4db9a37"), looks := false }, kinds := [], alts := [], laidByText := true, laidKinds := [.data, .pinned], laidTests := true, laidLooks := .later }
def SchemeTellsUptoCardSaid : Prop := Claim7.holds Tryz.pinned (.plain (OpenSpec.upto schemeTellsSpec)) schemeTellsUptoCard
end Rows
end Go.Proofs.YtoaggbmfmgfnpaaGreatDoor
