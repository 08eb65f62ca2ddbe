/-
  DERIVED. GIVEN WITH THE SEED: THE CARDS: each row of YtajopjoiaogapaaGreatDoorRows.lean that lists a variable, with what it lists TIED to the program's text (the seventh form; the later family's looks); each row that meets fmt, with fmt's text TOLD by the authors' own Lean function (tested against real Go, not proved from fmt's source: count such statements apart). THE CARD IS WHAT COUNTS. Prove the row's statement (the work); the ties are given (YtajopjoiaogapaaGreatDoorTie.lean); close each card by the builder's one call (the guide's Derived/Test/ToyasCard.lean, 'card_holds'). Laid BY PROGRAM, IN A SANDBOX (cutbox-door.mjs). By AI agents, Wed Nov 11 2026. No macro, syntax, notation, axiom, sorry.
-/
import Derived.Test.YtajopjoiaogapaaGreatDoorRows
import GoSem.ClaimSeven
namespace Go.Proofs.YtajopjoiaogapaaGreatDoor
namespace Rows

/-- THE TIED CARD OF 'retrospectlaw32.OrderTrees'. -/
def orderTreesCard : Claim7 := { stood := { row := orderTreesRow, standIns := [], harness := (true, "0c4996b7bf731108389ec4928a897051a880df7ff91f66bf4be68484c86caf89"), looks := false }, kinds := [], alts := [], laidByText := true, laidKinds := [.data, .pinned], laidTests := true, laidLooks := .later }
def OrderTreesCardSaid : Prop := Claim7.holds Tryz.pinned (.plain (OpenSpec.ofChange orderTreesSpec)) orderTreesCard

/-- THE TIED CARD OF 'retrospectlaw32.OrderWeights'. -/
def orderWeightsCard : Claim7 := { stood := { row := orderWeightsRow, standIns := [], harness := (true, "0c4996b7bf731108389ec4928a897051a880df7ff91f66bf4be68484c86caf89"), looks := false }, kinds := [], alts := [], laidByText := true, laidKinds := [.data, .pinned], laidTests := true, laidLooks := .later }
def OrderWeightsCardSaid : Prop := Claim7.holds Tryz.pinned (.plain (OpenSpec.ofChange orderWeightsSpec)) orderWeightsCard

/-- THE TIED CARD OF 'retrospectlaw32.OrderStock'. -/
def orderStockCard : Claim7 := { stood := { row := orderStockRow, standIns := [], harness := (true, "0c4996b7bf731108389ec4928a897051a880df7ff91f66bf4be68484c86caf89"), looks := false }, kinds := [], alts := [], laidByText := true, laidKinds := [.data, .pinned], laidTests := true, laidLooks := .later }
def OrderStockCardSaid : Prop := Claim7.holds Tryz.pinned (.plain (OpenSpec.ofChange orderStockSpec)) orderStockCard

/-- THE TIED CARD OF 'retrospectlaw32.OrderShares'. -/
def orderSharesCard : Claim7 := { stood := { row := orderSharesRow, standIns := [], harness := (true, "0c4996b7bf731108389ec4928a897051a880df7ff91f66bf4be68484c86caf89"), looks := false }, kinds := [], alts := [], laidByText := true, laidKinds := [.data, .pinned], laidTests := true, laidLooks := .later }
def OrderSharesCardSaid : Prop := Claim7.holds Tryz.pinned (.plain (OpenSpec.ofChange orderSharesSpec)) orderSharesCard

/-- THE SECOND FORM's CARD OF 'retrospectlaw32.OrderTrees'. -/
def orderTreesUptoCard : Claim7 := { stood := { row := orderTreesUptoRow, standIns := [], harness := (true, "0c4996b7bf731108389ec4928a897051a880df7ff91f66bf4be68484c86caf89"), looks := false }, kinds := [], alts := [], laidByText := true, laidKinds := [.data, .pinned], laidTests := true, laidLooks := .later }
def OrderTreesUptoCardSaid : Prop := Claim7.holds Tryz.pinned (.plain (OpenSpec.upto orderTreesSpec)) orderTreesUptoCard

/-- THE SECOND FORM's CARD OF 'retrospectlaw32.OrderWeights'. -/
def orderWeightsUptoCard : Claim7 := { stood := { row := orderWeightsUptoRow, standIns := [], harness := (true, "0c4996b7bf731108389ec4928a897051a880df7ff91f66bf4be68484c86caf89"), looks := false }, kinds := [], alts := [], laidByText := true, laidKinds := [.data, .pinned], laidTests := true, laidLooks := .later }
def OrderWeightsUptoCardSaid : Prop := Claim7.holds Tryz.pinned (.plain (OpenSpec.upto orderWeightsSpec)) orderWeightsUptoCard

/-- THE SECOND FORM's CARD OF 'retrospectlaw32.OrderStock'. -/
def orderStockUptoCard : Claim7 := { stood := { row := orderStockUptoRow, standIns := [], harness := (true, "0c4996b7bf731108389ec4928a897051a880df7ff91f66bf4be68484c86caf89"), looks := false }, kinds := [], alts := [], laidByText := true, laidKinds := [.data, .pinned], laidTests := true, laidLooks := .later }
def OrderStockUptoCardSaid : Prop := Claim7.holds Tryz.pinned (.plain (OpenSpec.upto orderStockSpec)) orderStockUptoCard

/-- THE SECOND FORM's CARD OF 'retrospectlaw32.OrderShares'. -/
def orderSharesUptoCard : Claim7 := { stood := { row := orderSharesUptoRow, standIns := [], harness := (true, "0c4996b7bf731108389ec4928a897051a880df7ff91f66bf4be68484c86caf89"), looks := false }, kinds := [], alts := [], laidByText := true, laidKinds := [.data, .pinned], laidTests := true, laidLooks := .later }
def OrderSharesUptoCardSaid : Prop := Claim7.holds Tryz.pinned (.plain (OpenSpec.upto orderSharesSpec)) orderSharesUptoCard
end Rows
end Go.Proofs.YtajopjoiaogapaaGreatDoor
