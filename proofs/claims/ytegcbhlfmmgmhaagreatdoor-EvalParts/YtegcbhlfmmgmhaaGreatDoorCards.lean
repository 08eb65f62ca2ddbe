/-
  DERIVED. GIVEN WITH THE SEED: THE CARDS: each row of YtegcbhlfmmgmhaaGreatDoorRows.lean that lists a variable, with what it lists TIED to the program's text (the seventh form; the later family's looks); each row that meets fmt, with fmt's text TOLD by the authors' own Lean function (tested against real Go, not proved from fmt's source: count such statements apart). THE CARD IS WHAT COUNTS. Prove the row's statement (the work); the ties are given (YtegcbhlfmmgmhaaGreatDoorTie.lean); close each card by the builder's one call (the guide's Derived/Test/ToyasCard.lean, 'card_holds'). Laid BY PROGRAM, IN A SANDBOX (cutbox-door.mjs). By AI agents, Wed Nov 11 2026. No macro, syntax, notation, axiom, sorry.
-/
import Derived.Test.YtegcbhlfmmgmhaaGreatDoorRows
import GoSem.ClaimSeven
namespace Go.Proofs.YtegcbhlfmmgmhaaGreatDoor
namespace Rows

/-- THE TIED CARD OF 'retrospectlaw23.DiffDefined'. -/
def diffDefinedCard : Claim7 := { stood := { row := diffDefinedRow, standIns := [], harness := (true, "7100dbdd37d42c621a2b9ddec582d95121f766f2065131ce6da5151ab13258e3"), looks := false }, kinds := [], alts := [], laidByText := true, laidKinds := [.data, .pinned], laidTests := true, laidLooks := .later }
def DiffDefinedCardSaid : Prop := Claim7.holds Tryz.pinned (.plain (OpenSpec.ofChange diffDefinedSpec)) diffDefinedCard

/-- THE TIED CARD OF 'retrospectlaw21.EvalCodes'. -/
def evalCodesCard : Claim7 := { stood := { row := evalCodesRow, standIns := [], harness := (true, "7100dbdd37d42c621a2b9ddec582d95121f766f2065131ce6da5151ab13258e3"), looks := false }, kinds := [], alts := [], laidByText := true, laidKinds := [.data, .pinned], laidTests := true, laidLooks := .later }
def EvalCodesCardSaid : Prop := Claim7.holds Tryz.pinned (.plain (OpenSpec.ofChange evalCodesSpec)) evalCodesCard

/-- THE TIED CARD OF 'retrospectlaw21.EvalFields'. -/
def evalFieldsCard : Claim7 := { stood := { row := evalFieldsRow, standIns := [], harness := (true, "7100dbdd37d42c621a2b9ddec582d95121f766f2065131ce6da5151ab13258e3"), looks := false }, kinds := [], alts := [], laidByText := true, laidKinds := [.data, .pinned], laidTests := true, laidLooks := .later }
def EvalFieldsCardSaid : Prop := Claim7.holds Tryz.pinned (.plain (OpenSpec.ofChange evalFieldsSpec)) evalFieldsCard

/-- THE TIED CARD OF 'retrospectlaw21.EvalLimits'. -/
def evalLimitsCard : Claim7 := { stood := { row := evalLimitsRow, standIns := [], harness := (true, "7100dbdd37d42c621a2b9ddec582d95121f766f2065131ce6da5151ab13258e3"), looks := false }, kinds := [], alts := [], laidByText := true, laidKinds := [.data, .pinned], laidTests := true, laidLooks := .later }
def EvalLimitsCardSaid : Prop := Claim7.holds Tryz.pinned (.plain (OpenSpec.ofChange evalLimitsSpec)) evalLimitsCard

/-- THE TIED CARD OF 'retrospectlaw21.EvalParts'. -/
def evalPartsCard : Claim7 := { stood := { row := evalPartsRow, standIns := [], harness := (true, "7100dbdd37d42c621a2b9ddec582d95121f766f2065131ce6da5151ab13258e3"), looks := false }, kinds := [], alts := [], laidByText := true, laidKinds := [.data, .pinned], laidTests := true, laidLooks := .later }
def EvalPartsCardSaid : Prop := Claim7.holds Tryz.pinned (.plain (OpenSpec.ofChange evalPartsSpec)) evalPartsCard

/-- THE SECOND FORM's CARD OF 'retrospectlaw23.DiffDefined'. -/
def diffDefinedUptoCard : Claim7 := { stood := { row := diffDefinedUptoRow, standIns := [], harness := (true, "7100dbdd37d42c621a2b9ddec582d95121f766f2065131ce6da5151ab13258e3"), looks := false }, kinds := [], alts := [], laidByText := true, laidKinds := [.data, .pinned], laidTests := true, laidLooks := .later }
def DiffDefinedUptoCardSaid : Prop := Claim7.holds Tryz.pinned (.plain (OpenSpec.upto diffDefinedSpec)) diffDefinedUptoCard

/-- THE SECOND FORM's CARD OF 'retrospectlaw21.EvalCodes'. -/
def evalCodesUptoCard : Claim7 := { stood := { row := evalCodesUptoRow, standIns := [], harness := (true, "7100dbdd37d42c621a2b9ddec582d95121f766f2065131ce6da5151ab13258e3"), looks := false }, kinds := [], alts := [], laidByText := true, laidKinds := [.data, .pinned], laidTests := true, laidLooks := .later }
def EvalCodesUptoCardSaid : Prop := Claim7.holds Tryz.pinned (.plain (OpenSpec.upto evalCodesSpec)) evalCodesUptoCard

/-- THE SECOND FORM's CARD OF 'retrospectlaw21.EvalFields'. -/
def evalFieldsUptoCard : Claim7 := { stood := { row := evalFieldsUptoRow, standIns := [], harness := (true, "7100dbdd37d42c621a2b9ddec582d95121f766f2065131ce6da5151ab13258e3"), looks := false }, kinds := [], alts := [], laidByText := true, laidKinds := [.data, .pinned], laidTests := true, laidLooks := .later }
def EvalFieldsUptoCardSaid : Prop := Claim7.holds Tryz.pinned (.plain (OpenSpec.upto evalFieldsSpec)) evalFieldsUptoCard

/-- THE SECOND FORM's CARD OF 'retrospectlaw21.EvalLimits'. -/
def evalLimitsUptoCard : Claim7 := { stood := { row := evalLimitsUptoRow, standIns := [], harness := (true, "7100dbdd37d42c621a2b9ddec582d95121f766f2065131ce6da5151ab13258e3"), looks := false }, kinds := [], alts := [], laidByText := true, laidKinds := [.data, .pinned], laidTests := true, laidLooks := .later }
def EvalLimitsUptoCardSaid : Prop := Claim7.holds Tryz.pinned (.plain (OpenSpec.upto evalLimitsSpec)) evalLimitsUptoCard

/-- THE SECOND FORM's CARD OF 'retrospectlaw21.EvalParts'. -/
def evalPartsUptoCard : Claim7 := { stood := { row := evalPartsUptoRow, standIns := [], harness := (true, "7100dbdd37d42c621a2b9ddec582d95121f766f2065131ce6da5151ab13258e3"), looks := false }, kinds := [], alts := [], laidByText := true, laidKinds := [.data, .pinned], laidTests := true, laidLooks := .later }
def EvalPartsUptoCardSaid : Prop := Claim7.holds Tryz.pinned (.plain (OpenSpec.upto evalPartsSpec)) evalPartsUptoCard
end Rows
end Go.Proofs.YtegcbhlfmmgmhaaGreatDoor
