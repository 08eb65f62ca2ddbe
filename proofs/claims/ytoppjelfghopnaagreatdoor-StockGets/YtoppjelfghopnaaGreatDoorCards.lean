/-
  DERIVED. GIVEN WITH THE SEED: THE CARDS: each row of YtoppjelfghopnaaGreatDoorRows.lean that lists a variable, with what it lists TIED to the program's text (the seventh form; the later family's looks); each row that meets fmt, with fmt's text TOLD by the authors' own Lean function (tested against real Go, not proved from fmt's source: count such statements apart). THE CARD IS WHAT COUNTS. Prove the row's statement (the work); the ties are given (YtoppjelfghopnaaGreatDoorTie.lean); close each card by the builder's one call (the guide's Derived/Test/ToyasCard.lean, 'card_holds'). Laid BY PROGRAM, IN A SANDBOX (cutbox-door.mjs). By AI agents, Wed Nov 11 2026. No macro, syntax, notation, axiom, sorry.
-/
import Derived.Test.YtoppjelfghopnaaGreatDoorRows
import GoSem.ClaimSeven
namespace Go.Proofs.YtoppjelfghopnaaGreatDoor
namespace Rows

/-- THE TIED CARD OF 'retrospectlaw31.StockGets'. -/
def stockGetsCard : Claim7 := { stood := { row := stockGetsRow, standIns := [], harness := (true, "9b63a77b66b68769912c10d8559d3fce1c0847084f2fb6551fce7fb0508497c4"), looks := false }, kinds := [], alts := [], laidByText := true, laidKinds := [.data, .pinned], laidTests := true, laidLooks := .later }
def StockGetsCardSaid : Prop := Claim7.holds Tryz.pinned (.plain (OpenSpec.ofChange stockGetsSpec)) stockGetsCard

/-- THE TIED CARD OF 'retrospectlaw30.SchemeBack'. -/
def schemeBackCard : Claim7 := { stood := { row := schemeBackRow, standIns := [], harness := (true, "9b63a77b66b68769912c10d8559d3fce1c0847084f2fb6551fce7fb0508497c4"), looks := false }, kinds := [], alts := [], laidByText := true, laidKinds := [.data, .pinned], laidTests := true, laidLooks := .later }
def SchemeBackCardSaid : Prop := Claim7.holds Tryz.pinned (.plain (OpenSpec.ofChange schemeBackSpec)) schemeBackCard

/-- THE TIED CARD OF 'retrospectlaw31.StockRight'. -/
def stockRightCard : Claim7 := { stood := { row := stockRightRow, standIns := [], harness := (true, "9b63a77b66b68769912c10d8559d3fce1c0847084f2fb6551fce7fb0508497c4"), looks := false }, kinds := [], alts := [], laidByText := true, laidKinds := [.data, .pinned], laidTests := true, laidLooks := .later }
def StockRightCardSaid : Prop := Claim7.holds Tryz.pinned (.plain (OpenSpec.ofChange stockRightSpec)) stockRightCard

/-- THE SECOND FORM's CARD OF 'retrospectlaw31.StockGets'. -/
def stockGetsUptoCard : Claim7 := { stood := { row := stockGetsUptoRow, standIns := [], harness := (true, "9b63a77b66b68769912c10d8559d3fce1c0847084f2fb6551fce7fb0508497c4"), looks := false }, kinds := [], alts := [], laidByText := true, laidKinds := [.data, .pinned], laidTests := true, laidLooks := .later }
def StockGetsUptoCardSaid : Prop := Claim7.holds Tryz.pinned (.plain (OpenSpec.upto stockGetsSpec)) stockGetsUptoCard

/-- THE SECOND FORM's CARD OF 'retrospectlaw30.SchemeBack'. -/
def schemeBackUptoCard : Claim7 := { stood := { row := schemeBackUptoRow, standIns := [], harness := (true, "9b63a77b66b68769912c10d8559d3fce1c0847084f2fb6551fce7fb0508497c4"), looks := false }, kinds := [], alts := [], laidByText := true, laidKinds := [.data, .pinned], laidTests := true, laidLooks := .later }
def SchemeBackUptoCardSaid : Prop := Claim7.holds Tryz.pinned (.plain (OpenSpec.upto schemeBackSpec)) schemeBackUptoCard

/-- THE SECOND FORM's CARD OF 'retrospectlaw31.StockRight'. -/
def stockRightUptoCard : Claim7 := { stood := { row := stockRightUptoRow, standIns := [], harness := (true, "9b63a77b66b68769912c10d8559d3fce1c0847084f2fb6551fce7fb0508497c4"), looks := false }, kinds := [], alts := [], laidByText := true, laidKinds := [.data, .pinned], laidTests := true, laidLooks := .later }
def StockRightUptoCardSaid : Prop := Claim7.holds Tryz.pinned (.plain (OpenSpec.upto stockRightSpec)) stockRightUptoCard
end Rows
end Go.Proofs.YtoppjelfghopnaaGreatDoor
