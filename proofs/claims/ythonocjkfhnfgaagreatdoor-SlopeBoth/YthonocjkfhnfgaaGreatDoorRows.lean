/-
  NARROWER THAN 'FOR EVERY INPUT', by the rows' own cells (each row's printed sentence says how): PushLinear: laid · PullPush: laid · SlopeAlong: laid · SlopeBoth: laid.
  DERIVED. THE GIVEN ROWS OF THIS SEAT. 4 by the template 'for every input the law returns true; each argument reads behind the call as it read before'; 0 by the template 'total and deterministic' (their statements: YthonocjkfhnfgaaGreatDoorTotals.lean).
  GIVEN WITH THE SEED: the statements are not yours to turn. If you find one false, say at which input.
  Laid BY PROGRAM, IN A SANDBOX (cutbox-rows.mjs): the forced cells as the released guide's own fill.sh prints them over the translation 1dbd5ec5dd39adf5… (all of the seat's roots in one cut). By AI agents, Wed Nov 11 2026. No macro, syntax, notation, axiom, sorry.
-/
import Derived.Test.YthonocjkfhnfgaaGreatDoorChecked
import GoSem.PinnedTables
import GoSem.Claim
import GoSem.ClaimJoined
import GoSem.ClaimMapViews
import Derived.JoinedTies
import Derived.KernelRfl
namespace Go.Proofs.YthonocjkfhnfgaaGreatDoor
/- THE CELL 'sum', in the pinned program and in every row, IS THE sha256 OF THE DUMP (.gsa) THAT YthonocjkfhnfgaaGreatDoorProg.lean LOADS. Nothing in Lean hashes anything: it is a label: what it is worth is what the hold of that sum in a sandbox is worth. -/
noncomputable def Tryz.pinned : Pinned := { name := "ythonocjkfhnfgaagreatdoor", sum := "1dbd5ec5dd39adf59ae3d101f341c3e266ea2d85e302ee36cd727aa8597d6b44", checked := Tryz.checked }
namespace Rows
def none {H : Type} : Left H := { results := [], args := [] }

/- WHAT THE LISTED PACKAGE-LEVEL VARIABLES READ AS WHEN THE CALL BEGINS. Each datum BY PROGRAM (the guide's laid-datum.mjs) off the statement by which the dump's own 'gosem.cut.vars' lays the variable. In a bare row this is a premise. The card (YthonocjkfhnfgaaGreatDoorCards.lean) ties it to the program's text. -/
def laid_unicode_utf8_acceptRanges {H : Type} : DataW H := .agg [.agg [.lit (.int .u8 128), .lit (.int .u8 191)], .agg [.lit (.int .u8 160), .lit (.int .u8 191)], .agg [.lit (.int .u8 128), .lit (.int .u8 159)], .agg [.lit (.int .u8 144), .lit (.int .u8 191)], .agg [.lit (.int .u8 128), .lit (.int .u8 143)], .agg [.lit (.int .u8 0), .lit (.int .u8 0)], .agg [.lit (.int .u8 0), .lit (.int .u8 0)], .agg [.lit (.int .u8 0), .lit (.int .u8 0)], .agg [.lit (.int .u8 0), .lit (.int .u8 0)], .agg [.lit (.int .u8 0), .lit (.int .u8 0)], .agg [.lit (.int .u8 0), .lit (.int .u8 0)], .agg [.lit (.int .u8 0), .lit (.int .u8 0)], .agg [.lit (.int .u8 0), .lit (.int .u8 0)], .agg [.lit (.int .u8 0), .lit (.int .u8 0)], .agg [.lit (.int .u8 0), .lit (.int .u8 0)], .agg [.lit (.int .u8 0), .lit (.int .u8 0)]]
/-- One of Go's own tables, pinned by name: the form's constant. -/
def laid_unicode_utf8_first : DataW Unit := Go.Pinned.utf8First

/-- 'retrospectlaw27.PushLinear': WHATEVER THE INPUT: true; the input reads as it did. -/
def pushLinearSpec : ChangeSpec := { name := "pushLinear", fn := fun _ => fun
  | [d1, d2, d3, d4] => { results := [.lit (.bool true)], args := [d1, d2, d3, d4] }
  | _ => none }
def pushLinearRow : OpenClaim := { program := "ythonocjkfhnfgaagreatdoor", sum := "1dbd5ec5dd39adf59ae3d101f341c3e266ea2d85e302ee36cd727aa8597d6b44", func := "retrospect/retrospectlaw27.PushLinear", spec := "pushLinear", inPlace := ["internal/abi.NoEscape", "internal/bytealg.IndexByteString", "internal/bytealg.IndexString", "internal/bytealg.MakeNoZero"], unfollowed := true, recurses := true, named := ["unicode/utf8.first", "unicode/utf8.acceptRanges", "internal/bytealg.MaxLen"], apart := false, laid := [("unicode/utf8.acceptRanges", laid_unicode_utf8_acceptRanges), ("unicode/utf8.first", laid_unicode_utf8_first)] }
def PushLinearSaid : Prop := pushLinearRow.holds Tryz.pinned (OpenSpec.ofChange pushLinearSpec)

/-- ITS FALSE NEIGHBOUR: 'it returns false'. Refute it at one input. -/
def pushLinearWrong : ChangeSpec := { name := "pushLinear", fn := fun _ => fun
  | [d1, d2, d3, d4] => { results := [.lit (.bool false)], args := [d1, d2, d3, d4] }
  | _ => none }
def PushLinearWrongFalsely : Prop := pushLinearRow.holds Tryz.pinned (OpenSpec.ofChange pushLinearWrong)

/-- 'retrospectlaw28.PullPush': WHATEVER THE INPUT: true; the input reads as it did. -/
def pullPushSpec : ChangeSpec := { name := "pullPush", fn := fun _ => fun
  | [d1, d2, d3] => { results := [.lit (.bool true)], args := [d1, d2, d3] }
  | _ => none }
def pullPushRow : OpenClaim := { program := "ythonocjkfhnfgaagreatdoor", sum := "1dbd5ec5dd39adf59ae3d101f341c3e266ea2d85e302ee36cd727aa8597d6b44", func := "retrospect/retrospectlaw28.PullPush", spec := "pullPush", inPlace := ["internal/abi.NoEscape", "internal/bytealg.IndexByteString", "internal/bytealg.IndexString", "internal/bytealg.MakeNoZero"], unfollowed := true, recurses := true, named := ["unicode/utf8.first", "unicode/utf8.acceptRanges", "internal/bytealg.MaxLen"], apart := false, laid := [("unicode/utf8.acceptRanges", laid_unicode_utf8_acceptRanges), ("unicode/utf8.first", laid_unicode_utf8_first)] }
def PullPushSaid : Prop := pullPushRow.holds Tryz.pinned (OpenSpec.ofChange pullPushSpec)

/-- ITS FALSE NEIGHBOUR: 'it returns false'. Refute it at one input. -/
def pullPushWrong : ChangeSpec := { name := "pullPush", fn := fun _ => fun
  | [d1, d2, d3] => { results := [.lit (.bool false)], args := [d1, d2, d3] }
  | _ => none }
def PullPushWrongFalsely : Prop := pullPushRow.holds Tryz.pinned (OpenSpec.ofChange pullPushWrong)

/-- 'retrospectlaw29.SlopeAlong': WHATEVER THE INPUT: true; the input reads as it did. -/
def slopeAlongSpec : ChangeSpec := { name := "slopeAlong", fn := fun _ => fun
  | [d1, d2, d3] => { results := [.lit (.bool true)], args := [d1, d2, d3] }
  | _ => none }
def slopeAlongRow : OpenClaim := { program := "ythonocjkfhnfgaagreatdoor", sum := "1dbd5ec5dd39adf59ae3d101f341c3e266ea2d85e302ee36cd727aa8597d6b44", func := "retrospect/retrospectlaw29.SlopeAlong", spec := "slopeAlong", inPlace := ["internal/abi.NoEscape", "internal/bytealg.IndexByteString", "internal/bytealg.IndexString", "internal/bytealg.MakeNoZero"], unfollowed := true, recurses := true, named := ["unicode/utf8.first", "unicode/utf8.acceptRanges", "internal/bytealg.MaxLen"], apart := false, laid := [("unicode/utf8.acceptRanges", laid_unicode_utf8_acceptRanges), ("unicode/utf8.first", laid_unicode_utf8_first)] }
def SlopeAlongSaid : Prop := slopeAlongRow.holds Tryz.pinned (OpenSpec.ofChange slopeAlongSpec)

/-- ITS FALSE NEIGHBOUR: 'it returns false'. Refute it at one input. -/
def slopeAlongWrong : ChangeSpec := { name := "slopeAlong", fn := fun _ => fun
  | [d1, d2, d3] => { results := [.lit (.bool false)], args := [d1, d2, d3] }
  | _ => none }
def SlopeAlongWrongFalsely : Prop := slopeAlongRow.holds Tryz.pinned (OpenSpec.ofChange slopeAlongWrong)

/-- 'retrospectlaw29.SlopeBoth': WHATEVER THE INPUT: true; the input reads as it did. -/
def slopeBothSpec : ChangeSpec := { name := "slopeBoth", fn := fun _ => fun
  | [d1, d2] => { results := [.lit (.bool true)], args := [d1, d2] }
  | _ => none }
def slopeBothRow : OpenClaim := { program := "ythonocjkfhnfgaagreatdoor", sum := "1dbd5ec5dd39adf59ae3d101f341c3e266ea2d85e302ee36cd727aa8597d6b44", func := "retrospect/retrospectlaw29.SlopeBoth", spec := "slopeBoth", inPlace := ["internal/abi.NoEscape", "internal/bytealg.IndexByteString", "internal/bytealg.IndexString", "internal/bytealg.MakeNoZero"], unfollowed := true, recurses := true, named := ["unicode/utf8.first", "unicode/utf8.acceptRanges", "internal/bytealg.MaxLen"], apart := false, laid := [("unicode/utf8.acceptRanges", laid_unicode_utf8_acceptRanges), ("unicode/utf8.first", laid_unicode_utf8_first)] }
def SlopeBothSaid : Prop := slopeBothRow.holds Tryz.pinned (OpenSpec.ofChange slopeBothSpec)

/-- ITS FALSE NEIGHBOUR: 'it returns false'. Refute it at one input. -/
def slopeBothWrong : ChangeSpec := { name := "slopeBoth", fn := fun _ => fun
  | [d1, d2] => { results := [.lit (.bool false)], args := [d1, d2] }
  | _ => none }
def SlopeBothWrongFalsely : Prop := slopeBothRow.holds Tryz.pinned (OpenSpec.ofChange slopeBothWrong)

/- THE SECOND FORM. 'bulk': how many values and letters a reading holds, each counted each time it is reached (what is shared counts as often as it is met; a slice's spare places count too). A statement '..UptoSaid' is the law's where the arguments, and the package variables that the reading takes, are together of bulk at most 1048576: NARROWER than '..Said'. Prove '..Said' where nothing that the law and all that it calls make is longer than what came in: it says more and counts as full. Else prove '..UptoSaid'. A law counts once. -/
mutual
def uptoBulk {H : Type} : DataW H → Nat
  | .lit (.string bytes) => bytes.length + 1
  | .lit _ => 1
  | .nil => 1
  | .ptr d => uptoBulk d + 1
  | .slice elems spare => uptoBulkAll elems + uptoBulkAll spare + 1
  | .agg parts => uptoBulkAll parts + 1
  | .iface _ d => uptoBulk d + 1
  | .map entries => uptoBulkEntries entries + 1
  | .held _ => 1
def uptoBulkAll {H : Type} : List (DataW H) → Nat
  | [] => 0
  | d :: r => uptoBulk d + uptoBulkAll r
def uptoBulkEntries {H : Type} : List (Lit × DataW H) → Nat
  | [] => 0
  | x :: r => uptoBulkEntry x + uptoBulkEntries r
def uptoBulkEntry {H : Type} : Lit × DataW H → Nat
  | (.string bytes, d) => bytes.length + uptoBulk d + 1
  | (_, d) => uptoBulk d + 1
 end
def uptoSmall : (H : Type) → List (DataW H) → Bool := fun _ ds => decide (uptoBulkAll ds ≤ 1048576)
def OpenSpec.upto (s : _root_.Go.ChangeSpec) : _root_.Go.OpenSpec := { _root_.Go.OpenSpec.ofChange s with cond := some uptoSmall }

/-- 'retrospectlaw27.PushLinear', WHERE WHAT IT READS IS OF BULK AT MOST 1048576: true; the input reads as it did. -/
def pushLinearUptoRow : OpenClaim := { program := "ythonocjkfhnfgaagreatdoor", sum := "1dbd5ec5dd39adf59ae3d101f341c3e266ea2d85e302ee36cd727aa8597d6b44", func := "retrospect/retrospectlaw27.PushLinear", spec := "pushLinear", inPlace := ["internal/abi.NoEscape", "internal/bytealg.IndexByteString", "internal/bytealg.IndexString", "internal/bytealg.MakeNoZero"], unfollowed := true, recurses := true, named := ["unicode/utf8.first", "unicode/utf8.acceptRanges", "internal/bytealg.MaxLen"], apart := false, laid := [("unicode/utf8.acceptRanges", laid_unicode_utf8_acceptRanges), ("unicode/utf8.first", laid_unicode_utf8_first)], narrowed := true }
def PushLinearUptoSaid : Prop := pushLinearUptoRow.holds Tryz.pinned (OpenSpec.upto pushLinearSpec)

/-- 'retrospectlaw28.PullPush', WHERE WHAT IT READS IS OF BULK AT MOST 1048576: true; the input reads as it did. -/
def pullPushUptoRow : OpenClaim := { program := "ythonocjkfhnfgaagreatdoor", sum := "1dbd5ec5dd39adf59ae3d101f341c3e266ea2d85e302ee36cd727aa8597d6b44", func := "retrospect/retrospectlaw28.PullPush", spec := "pullPush", inPlace := ["internal/abi.NoEscape", "internal/bytealg.IndexByteString", "internal/bytealg.IndexString", "internal/bytealg.MakeNoZero"], unfollowed := true, recurses := true, named := ["unicode/utf8.first", "unicode/utf8.acceptRanges", "internal/bytealg.MaxLen"], apart := false, laid := [("unicode/utf8.acceptRanges", laid_unicode_utf8_acceptRanges), ("unicode/utf8.first", laid_unicode_utf8_first)], narrowed := true }
def PullPushUptoSaid : Prop := pullPushUptoRow.holds Tryz.pinned (OpenSpec.upto pullPushSpec)

/-- 'retrospectlaw29.SlopeAlong', WHERE WHAT IT READS IS OF BULK AT MOST 1048576: true; the input reads as it did. -/
def slopeAlongUptoRow : OpenClaim := { program := "ythonocjkfhnfgaagreatdoor", sum := "1dbd5ec5dd39adf59ae3d101f341c3e266ea2d85e302ee36cd727aa8597d6b44", func := "retrospect/retrospectlaw29.SlopeAlong", spec := "slopeAlong", inPlace := ["internal/abi.NoEscape", "internal/bytealg.IndexByteString", "internal/bytealg.IndexString", "internal/bytealg.MakeNoZero"], unfollowed := true, recurses := true, named := ["unicode/utf8.first", "unicode/utf8.acceptRanges", "internal/bytealg.MaxLen"], apart := false, laid := [("unicode/utf8.acceptRanges", laid_unicode_utf8_acceptRanges), ("unicode/utf8.first", laid_unicode_utf8_first)], narrowed := true }
def SlopeAlongUptoSaid : Prop := slopeAlongUptoRow.holds Tryz.pinned (OpenSpec.upto slopeAlongSpec)

/-- 'retrospectlaw29.SlopeBoth', WHERE WHAT IT READS IS OF BULK AT MOST 1048576: true; the input reads as it did. -/
def slopeBothUptoRow : OpenClaim := { program := "ythonocjkfhnfgaagreatdoor", sum := "1dbd5ec5dd39adf59ae3d101f341c3e266ea2d85e302ee36cd727aa8597d6b44", func := "retrospect/retrospectlaw29.SlopeBoth", spec := "slopeBoth", inPlace := ["internal/abi.NoEscape", "internal/bytealg.IndexByteString", "internal/bytealg.IndexString", "internal/bytealg.MakeNoZero"], unfollowed := true, recurses := true, named := ["unicode/utf8.first", "unicode/utf8.acceptRanges", "internal/bytealg.MaxLen"], apart := false, laid := [("unicode/utf8.acceptRanges", laid_unicode_utf8_acceptRanges), ("unicode/utf8.first", laid_unicode_utf8_first)], narrowed := true }
def SlopeBothUptoSaid : Prop := slopeBothUptoRow.holds Tryz.pinned (OpenSpec.upto slopeBothSpec)

end Rows
end Go.Proofs.YthonocjkfhnfgaaGreatDoor
