/-
  DERIVED. GIVEN WITH THE SEED: THE CARDS: each row of YtegcbhlfmmgmhaaDoorRows.lean that lists a variable, with what it lists TIED to the program's text (the seventh form; the later family's looks); each row that meets fmt, with fmt's text TOLD by the authors' own Lean function (tested against real Go, not proved from fmt's source: count such statements apart). THE CARD IS WHAT COUNTS. Prove the row's statement (the work); the ties are given (YtegcbhlfmmgmhaaDoorTie.lean); close each card by the builder's one call (the guide's Derived/Test/ToyasCard.lean, 'card_holds'). Laid BY PROGRAM, IN A SANDBOX (cutbox-door.mjs). By AI agents, Wed Nov 11 2026. No macro, syntax, notation, axiom, sorry.
-/
import Derived.Test.YtegcbhlfmmgmhaaDoorRows
import GoSem.ClaimSeven
namespace Go.Proofs.YtegcbhlfmmgmhaaDoor
namespace Rows

/-- THE TIED CARD OF 'retrospectlaw23.DiffWrites'. -/
def diffWritesCard : Claim7 := { stood := { row := diffWritesRow, standIns := [], harness := (true, "3aab5666f39467eaed2b72d47553e2466a3e4e58e3b1f2852472263c81b223e9"), looks := false }, kinds := [], alts := [], laidByText := true, laidKinds := [.data, .pinned], laidTests := true, laidLooks := .later }
def DiffWritesCardSaid : Prop := Claim7.holds Tryd.pinned (.plain (OpenSpec.ofChange diffWritesSpec)) diffWritesCard

/-- THE SECOND FORM's CARD OF 'retrospectlaw23.DiffWrites'. -/
def diffWritesUptoCard : Claim7 := { stood := { row := diffWritesUptoRow, standIns := [], harness := (true, "3aab5666f39467eaed2b72d47553e2466a3e4e58e3b1f2852472263c81b223e9"), looks := false }, kinds := [], alts := [], laidByText := true, laidKinds := [.data, .pinned], laidTests := true, laidLooks := .later }
def DiffWritesUptoCardSaid : Prop := Claim7.holds Tryd.pinned (.plain (OpenSpec.upto diffWritesSpec)) diffWritesUptoCard
end Rows
end Go.Proofs.YtegcbhlfmmgmhaaDoor
