/-
  DERIVED. GIVEN WITH THE SEED: THE CARDS: each row of YtfdblmomnikehaaDoorRows.lean that lists a variable, with what it lists TIED to the program's text (the seventh form; the later family's looks); each row that meets fmt, with fmt's text TOLD by the authors' own Lean function (tested against real Go, not proved from fmt's source: count such statements apart). THE CARD IS WHAT COUNTS. Prove the row's statement (the work); the ties are given (YtfdblmomnikehaaDoorTie.lean); close each card by the builder's one call (the guide's Derived/Test/ToyasCard.lean, 'card_holds'). Laid BY PROGRAM, IN A SANDBOX (cutbox-door.mjs). By AI agents, Wed Nov 11 2026. No macro, syntax, notation, axiom, sorry.
-/
import Derived.Test.YtfdblmomnikehaaDoorRows
import GoSem.ClaimSeven
namespace Go.Proofs.YtfdblmomnikehaaDoor
namespace Rows

/-- THE TIED CARD OF 'retrospectlaw41.SpanEnds'. -/
def spanEndsCard : Claim7 := { stood := { row := spanEndsRow, standIns := [], harness := (true, "6970c0ab4c2a55e2e3a6134d71dd2db337198d0bdf89599ac7efce11b2ba13fa"), looks := false }, kinds := [], alts := [], laidByText := true, laidKinds := [.data, .pinned], laidTests := true, laidLooks := .later }
def SpanEndsCardSaid : Prop := Claim7.holds Tryd.pinned (.plain (OpenSpec.ofChange spanEndsSpec)) spanEndsCard

/-- THE SECOND FORM's CARD OF 'retrospectlaw41.SpanEnds'. -/
def spanEndsUptoCard : Claim7 := { stood := { row := spanEndsUptoRow, standIns := [], harness := (true, "6970c0ab4c2a55e2e3a6134d71dd2db337198d0bdf89599ac7efce11b2ba13fa"), looks := false }, kinds := [], alts := [], laidByText := true, laidKinds := [.data, .pinned], laidTests := true, laidLooks := .later }
def SpanEndsUptoCardSaid : Prop := Claim7.holds Tryd.pinned (.plain (OpenSpec.upto spanEndsSpec)) spanEndsUptoCard
end Rows
end Go.Proofs.YtfdblmomnikehaaDoor
