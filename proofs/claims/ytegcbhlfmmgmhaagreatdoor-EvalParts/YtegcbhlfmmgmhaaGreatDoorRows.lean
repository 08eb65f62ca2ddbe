/-
  NARROWER THAN 'FOR EVERY INPUT', by the rows' own cells (each row's printed sentence says how): DiffDefined: laid · EvalCodes: laid · EvalFields: laid · EvalLimits: laid · EvalParts: laid.
  DERIVED. THE GIVEN ROWS OF THIS SEAT. 5 by the template 'for every input the law returns true; each argument reads behind the call as it read before'; 0 by the template 'total and deterministic' (their statements: YtegcbhlfmmgmhaaGreatDoorTotals.lean).
  GIVEN WITH THE SEED: the statements are not yours to turn. If you find one false, say at which input.
  Laid BY PROGRAM, IN A SANDBOX (cutbox-rows.mjs): the forced cells as the released guide's own fill.sh prints them over the translation 5e40a638cb866e75… (all of the seat's roots in one cut). By AI agents, Wed Nov 11 2026. No macro, syntax, notation, axiom, sorry.
-/
import Derived.Test.YtegcbhlfmmgmhaaGreatDoorChecked
import GoSem.PinnedTables
import GoSem.Claim
import GoSem.ClaimJoined
import GoSem.ClaimMapViews
import Derived.JoinedTies
import Derived.KernelRfl
namespace Go.Proofs.YtegcbhlfmmgmhaaGreatDoor
/- THE CELL 'sum', in the pinned program and in every row, IS THE sha256 OF THE DUMP (.gsa) THAT YtegcbhlfmmgmhaaGreatDoorProg.lean LOADS. Nothing in Lean hashes anything: it is a label: what it is worth is what the hold of that sum in a sandbox is worth. -/
noncomputable def Tryz.pinned : Pinned := { name := "ytegcbhlfmmgmhaagreatdoor", sum := "5e40a638cb866e75a19acf8d52131866e94e4a3bf947486f78d60cb57e743f84", checked := Tryz.checked }
namespace Rows
def none {H : Type} : Left H := { results := [], args := [] }

/- WHAT THE LISTED PACKAGE-LEVEL VARIABLES READ AS WHEN THE CALL BEGINS. Each datum BY PROGRAM (the guide's laid-datum.mjs) off the statement by which the dump's own 'gosem.cut.vars' lays the variable. In a bare row this is a premise. The card (YtegcbhlfmmgmhaaGreatDoorCards.lean) ties it to the program's text. -/
def laid_unicode_utf8_acceptRanges {H : Type} : DataW H := .agg [.agg [.lit (.int .u8 128), .lit (.int .u8 191)], .agg [.lit (.int .u8 160), .lit (.int .u8 191)], .agg [.lit (.int .u8 128), .lit (.int .u8 159)], .agg [.lit (.int .u8 144), .lit (.int .u8 191)], .agg [.lit (.int .u8 128), .lit (.int .u8 143)], .agg [.lit (.int .u8 0), .lit (.int .u8 0)], .agg [.lit (.int .u8 0), .lit (.int .u8 0)], .agg [.lit (.int .u8 0), .lit (.int .u8 0)], .agg [.lit (.int .u8 0), .lit (.int .u8 0)], .agg [.lit (.int .u8 0), .lit (.int .u8 0)], .agg [.lit (.int .u8 0), .lit (.int .u8 0)], .agg [.lit (.int .u8 0), .lit (.int .u8 0)], .agg [.lit (.int .u8 0), .lit (.int .u8 0)], .agg [.lit (.int .u8 0), .lit (.int .u8 0)], .agg [.lit (.int .u8 0), .lit (.int .u8 0)], .agg [.lit (.int .u8 0), .lit (.int .u8 0)]]
/-- One of Go's own tables, pinned by name: the form's constant. -/
def laid_unicode_utf8_first : DataW Unit := Go.Pinned.utf8First

/-- 'retrospectlaw23.DiffDefined': WHATEVER THE INPUT: true; the input reads as it did. -/
def diffDefinedSpec : ChangeSpec := { name := "diffDefined", fn := fun _ => fun
  | [d1, d2, d3] => { results := [.lit (.bool true)], args := [d1, d2, d3] }
  | _ => none }
def diffDefinedRow : OpenClaim := { program := "ytegcbhlfmmgmhaagreatdoor", sum := "5e40a638cb866e75a19acf8d52131866e94e4a3bf947486f78d60cb57e743f84", func := "retrospect/retrospectlaw23.DiffDefined", spec := "diffDefined", inPlace := ["internal/abi.NoEscape", "internal/bytealg.IndexByteString", "internal/bytealg.IndexString"], named := ["unicode/utf8.first", "unicode/utf8.acceptRanges", "internal/bytealg.MaxLen"], apart := false, laid := [("unicode/utf8.acceptRanges", laid_unicode_utf8_acceptRanges), ("unicode/utf8.first", laid_unicode_utf8_first)] }
def DiffDefinedSaid : Prop := diffDefinedRow.holds Tryz.pinned (OpenSpec.ofChange diffDefinedSpec)

/-- ITS FALSE NEIGHBOUR: 'it returns false'. Refute it at one input. -/
def diffDefinedWrong : ChangeSpec := { name := "diffDefined", fn := fun _ => fun
  | [d1, d2, d3] => { results := [.lit (.bool false)], args := [d1, d2, d3] }
  | _ => none }
def DiffDefinedWrongFalsely : Prop := diffDefinedRow.holds Tryz.pinned (OpenSpec.ofChange diffDefinedWrong)

/-- 'retrospectlaw21.EvalCodes': WHATEVER THE INPUT: true; the input reads as it did. -/
def evalCodesSpec : ChangeSpec := { name := "evalCodes", fn := fun _ => fun
  | [d1, d2, d3] => { results := [.lit (.bool true)], args := [d1, d2, d3] }
  | _ => none }
def evalCodesRow : OpenClaim := { program := "ytegcbhlfmmgmhaagreatdoor", sum := "5e40a638cb866e75a19acf8d52131866e94e4a3bf947486f78d60cb57e743f84", func := "retrospect/retrospectlaw21.EvalCodes", spec := "evalCodes", inPlace := ["internal/abi.NoEscape", "internal/bytealg.IndexByteString", "internal/bytealg.IndexString"], named := ["unicode/utf8.first", "unicode/utf8.acceptRanges", "internal/bytealg.MaxLen"], apart := false, laid := [("unicode/utf8.acceptRanges", laid_unicode_utf8_acceptRanges), ("unicode/utf8.first", laid_unicode_utf8_first)] }
def EvalCodesSaid : Prop := evalCodesRow.holds Tryz.pinned (OpenSpec.ofChange evalCodesSpec)

/-- ITS FALSE NEIGHBOUR: 'it returns false'. Refute it at one input. -/
def evalCodesWrong : ChangeSpec := { name := "evalCodes", fn := fun _ => fun
  | [d1, d2, d3] => { results := [.lit (.bool false)], args := [d1, d2, d3] }
  | _ => none }
def EvalCodesWrongFalsely : Prop := evalCodesRow.holds Tryz.pinned (OpenSpec.ofChange evalCodesWrong)

/-- 'retrospectlaw21.EvalFields': WHATEVER THE INPUT: true; the input reads as it did. -/
def evalFieldsSpec : ChangeSpec := { name := "evalFields", fn := fun _ => fun
  | [d1, d2, d3] => { results := [.lit (.bool true)], args := [d1, d2, d3] }
  | _ => none }
def evalFieldsRow : OpenClaim := { program := "ytegcbhlfmmgmhaagreatdoor", sum := "5e40a638cb866e75a19acf8d52131866e94e4a3bf947486f78d60cb57e743f84", func := "retrospect/retrospectlaw21.EvalFields", spec := "evalFields", inPlace := ["internal/abi.NoEscape", "internal/bytealg.IndexByteString", "internal/bytealg.IndexString"], recurses := true, named := ["unicode/utf8.first", "unicode/utf8.acceptRanges", "internal/bytealg.MaxLen"], apart := false, laid := [("unicode/utf8.acceptRanges", laid_unicode_utf8_acceptRanges), ("unicode/utf8.first", laid_unicode_utf8_first)] }
def EvalFieldsSaid : Prop := evalFieldsRow.holds Tryz.pinned (OpenSpec.ofChange evalFieldsSpec)

/-- ITS FALSE NEIGHBOUR: 'it returns false'. Refute it at one input. -/
def evalFieldsWrong : ChangeSpec := { name := "evalFields", fn := fun _ => fun
  | [d1, d2, d3] => { results := [.lit (.bool false)], args := [d1, d2, d3] }
  | _ => none }
def EvalFieldsWrongFalsely : Prop := evalFieldsRow.holds Tryz.pinned (OpenSpec.ofChange evalFieldsWrong)

/-- 'retrospectlaw21.EvalLimits': WHATEVER THE INPUT: true; the input reads as it did. -/
def evalLimitsSpec : ChangeSpec := { name := "evalLimits", fn := fun _ => fun
  | [d1, d2, d3] => { results := [.lit (.bool true)], args := [d1, d2, d3] }
  | _ => none }
def evalLimitsRow : OpenClaim := { program := "ytegcbhlfmmgmhaagreatdoor", sum := "5e40a638cb866e75a19acf8d52131866e94e4a3bf947486f78d60cb57e743f84", func := "retrospect/retrospectlaw21.EvalLimits", spec := "evalLimits", inPlace := ["internal/abi.NoEscape", "internal/bytealg.IndexByteString", "internal/bytealg.IndexString"], named := ["unicode/utf8.first", "unicode/utf8.acceptRanges", "internal/bytealg.MaxLen"], apart := false, laid := [("unicode/utf8.acceptRanges", laid_unicode_utf8_acceptRanges), ("unicode/utf8.first", laid_unicode_utf8_first)] }
def EvalLimitsSaid : Prop := evalLimitsRow.holds Tryz.pinned (OpenSpec.ofChange evalLimitsSpec)

/-- ITS FALSE NEIGHBOUR: 'it returns false'. Refute it at one input. -/
def evalLimitsWrong : ChangeSpec := { name := "evalLimits", fn := fun _ => fun
  | [d1, d2, d3] => { results := [.lit (.bool false)], args := [d1, d2, d3] }
  | _ => none }
def EvalLimitsWrongFalsely : Prop := evalLimitsRow.holds Tryz.pinned (OpenSpec.ofChange evalLimitsWrong)

/-- 'retrospectlaw21.EvalParts': WHATEVER THE INPUT: true; the input reads as it did. -/
def evalPartsSpec : ChangeSpec := { name := "evalParts", fn := fun _ => fun
  | [d1, d2] => { results := [.lit (.bool true)], args := [d1, d2] }
  | _ => none }
def evalPartsRow : OpenClaim := { program := "ytegcbhlfmmgmhaagreatdoor", sum := "5e40a638cb866e75a19acf8d52131866e94e4a3bf947486f78d60cb57e743f84", func := "retrospect/retrospectlaw21.EvalParts", spec := "evalParts", inPlace := ["internal/abi.NoEscape", "internal/bytealg.IndexByteString", "internal/bytealg.IndexString"], named := ["unicode/utf8.first", "unicode/utf8.acceptRanges", "internal/bytealg.MaxLen"], apart := false, laid := [("unicode/utf8.acceptRanges", laid_unicode_utf8_acceptRanges), ("unicode/utf8.first", laid_unicode_utf8_first)] }
def EvalPartsSaid : Prop := evalPartsRow.holds Tryz.pinned (OpenSpec.ofChange evalPartsSpec)

/-- ITS FALSE NEIGHBOUR: 'it returns false'. Refute it at one input. -/
def evalPartsWrong : ChangeSpec := { name := "evalParts", fn := fun _ => fun
  | [d1, d2] => { results := [.lit (.bool false)], args := [d1, d2] }
  | _ => none }
def EvalPartsWrongFalsely : Prop := evalPartsRow.holds Tryz.pinned (OpenSpec.ofChange evalPartsWrong)

/- THE SECOND FORM. 'bulk': how many values and letters a reading holds, each counted each time it is reached (what is shared counts as often as it is met; a slice's spare places count too). A statement '..UptoSaid' is the law's where the arguments, and the package variables that the reading takes, are together of bulk at most 1048576: NARROWER than '..Said'. Prove '..Said' where nothing that the law and all that it calls make is longer than what came in: it says more and counts as full. Else prove '..UptoSaid'. A law counts once. -/
mutual
def uptoBulk {H : Type} : DataW H → Nat
  | .lit (.string bytes) => bytes.length + 1
  | .lit _ => 1
  | .nil => 1
  | .ptr d => uptoBulk d + 1
  | .slice elems spare => uptoBulkAll elems + uptoBulkAll spare + 1
  | .agg parts => uptoBulkAll parts + 1
  | .iface _ d => uptoBulk d + 1
  | .map entries => uptoBulkEntries entries + 1
  | .held _ => 1
def uptoBulkAll {H : Type} : List (DataW H) → Nat
  | [] => 0
  | d :: r => uptoBulk d + uptoBulkAll r
def uptoBulkEntries {H : Type} : List (Lit × DataW H) → Nat
  | [] => 0
  | x :: r => uptoBulkEntry x + uptoBulkEntries r
def uptoBulkEntry {H : Type} : Lit × DataW H → Nat
  | (.string bytes, d) => bytes.length + uptoBulk d + 1
  | (_, d) => uptoBulk d + 1
 end
def uptoSmall : (H : Type) → List (DataW H) → Bool := fun _ ds => decide (uptoBulkAll ds ≤ 1048576)
def OpenSpec.upto (s : _root_.Go.ChangeSpec) : _root_.Go.OpenSpec := { _root_.Go.OpenSpec.ofChange s with cond := some uptoSmall }

/-- 'retrospectlaw23.DiffDefined', WHERE WHAT IT READS IS OF BULK AT MOST 1048576: true; the input reads as it did. -/
def diffDefinedUptoRow : OpenClaim := { program := "ytegcbhlfmmgmhaagreatdoor", sum := "5e40a638cb866e75a19acf8d52131866e94e4a3bf947486f78d60cb57e743f84", func := "retrospect/retrospectlaw23.DiffDefined", spec := "diffDefined", inPlace := ["internal/abi.NoEscape", "internal/bytealg.IndexByteString", "internal/bytealg.IndexString"], named := ["unicode/utf8.first", "unicode/utf8.acceptRanges", "internal/bytealg.MaxLen"], apart := false, laid := [("unicode/utf8.acceptRanges", laid_unicode_utf8_acceptRanges), ("unicode/utf8.first", laid_unicode_utf8_first)], narrowed := true }
def DiffDefinedUptoSaid : Prop := diffDefinedUptoRow.holds Tryz.pinned (OpenSpec.upto diffDefinedSpec)

/-- 'retrospectlaw21.EvalCodes', WHERE WHAT IT READS IS OF BULK AT MOST 1048576: true; the input reads as it did. -/
def evalCodesUptoRow : OpenClaim := { program := "ytegcbhlfmmgmhaagreatdoor", sum := "5e40a638cb866e75a19acf8d52131866e94e4a3bf947486f78d60cb57e743f84", func := "retrospect/retrospectlaw21.EvalCodes", spec := "evalCodes", inPlace := ["internal/abi.NoEscape", "internal/bytealg.IndexByteString", "internal/bytealg.IndexString"], named := ["unicode/utf8.first", "unicode/utf8.acceptRanges", "internal/bytealg.MaxLen"], apart := false, laid := [("unicode/utf8.acceptRanges", laid_unicode_utf8_acceptRanges), ("unicode/utf8.first", laid_unicode_utf8_first)], narrowed := true }
def EvalCodesUptoSaid : Prop := evalCodesUptoRow.holds Tryz.pinned (OpenSpec.upto evalCodesSpec)

/-- 'retrospectlaw21.EvalFields', WHERE WHAT IT READS IS OF BULK AT MOST 1048576: true; the input reads as it did. -/
def evalFieldsUptoRow : OpenClaim := { program := "ytegcbhlfmmgmhaagreatdoor", sum := "5e40a638cb866e75a19acf8d52131866e94e4a3bf947486f78d60cb57e743f84", func := "retrospect/retrospectlaw21.EvalFields", spec := "evalFields", inPlace := ["internal/abi.NoEscape", "internal/bytealg.IndexByteString", "internal/bytealg.IndexString"], recurses := true, named := ["unicode/utf8.first", "unicode/utf8.acceptRanges", "internal/bytealg.MaxLen"], apart := false, laid := [("unicode/utf8.acceptRanges", laid_unicode_utf8_acceptRanges), ("unicode/utf8.first", laid_unicode_utf8_first)], narrowed := true }
def EvalFieldsUptoSaid : Prop := evalFieldsUptoRow.holds Tryz.pinned (OpenSpec.upto evalFieldsSpec)

/-- 'retrospectlaw21.EvalLimits', WHERE WHAT IT READS IS OF BULK AT MOST 1048576: true; the input reads as it did. -/
def evalLimitsUptoRow : OpenClaim := { program := "ytegcbhlfmmgmhaagreatdoor", sum := "5e40a638cb866e75a19acf8d52131866e94e4a3bf947486f78d60cb57e743f84", func := "retrospect/retrospectlaw21.EvalLimits", spec := "evalLimits", inPlace := ["internal/abi.NoEscape", "internal/bytealg.IndexByteString", "internal/bytealg.IndexString"], named := ["unicode/utf8.first", "unicode/utf8.acceptRanges", "internal/bytealg.MaxLen"], apart := false, laid := [("unicode/utf8.acceptRanges", laid_unicode_utf8_acceptRanges), ("unicode/utf8.first", laid_unicode_utf8_first)], narrowed := true }
def EvalLimitsUptoSaid : Prop := evalLimitsUptoRow.holds Tryz.pinned (OpenSpec.upto evalLimitsSpec)

/-- 'retrospectlaw21.EvalParts', WHERE WHAT IT READS IS OF BULK AT MOST 1048576: true; the input reads as it did. -/
def evalPartsUptoRow : OpenClaim := { program := "ytegcbhlfmmgmhaagreatdoor", sum := "5e40a638cb866e75a19acf8d52131866e94e4a3bf947486f78d60cb57e743f84", func := "retrospect/retrospectlaw21.EvalParts", spec := "evalParts", inPlace := ["internal/abi.NoEscape", "internal/bytealg.IndexByteString", "internal/bytealg.IndexString"], named := ["unicode/utf8.first", "unicode/utf8.acceptRanges", "internal/bytealg.MaxLen"], apart := false, laid := [("unicode/utf8.acceptRanges", laid_unicode_utf8_acceptRanges), ("unicode/utf8.first", laid_unicode_utf8_first)], narrowed := true }
def EvalPartsUptoSaid : Prop := evalPartsUptoRow.holds Tryz.pinned (OpenSpec.upto evalPartsSpec)

end Rows
end Go.Proofs.YtegcbhlfmmgmhaaGreatDoor
