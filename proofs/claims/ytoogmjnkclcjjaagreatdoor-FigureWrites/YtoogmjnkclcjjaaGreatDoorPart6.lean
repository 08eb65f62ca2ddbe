/-
  A calculus of values, boxes and code, and what functions of the program compute, proved in it.
  Conditions: none beyond those that the theorems state. (Part 6: EwTab, EwBld, TxHalf, GpTrim, AxWp, EwEnd, TxJoin, TxJoinOk, TxStr, TxRune, TxRep, EwStr, Ab25, Ab26, Ab27, AxTop, NmFrac, AxTop2, GcSpan, NmGcd, GpCommon, GpWhole, GpFrac, GpRow, GpRow2, GpMix, GpSpan, AxTop3, EwBase, GpRef06, GpRef08, GpRef09, GpSplit.)
-/
import Derived.Test.YtoogmjnkclcjjaaGreatDoorPart5
import Derived.Test.YtoogmjnkclcjjaaGreatDoorProg
import Derived.KernelRfl
import Derived.Shelf.RegionOpenPlain
import Derived.Lib.Strings
import Derived.Lib.Slices
import Derived.Lib.Walk
import Derived.Lib.Builder
import Derived.Lib.AppendStr
import Derived.Lib.UnsafeStr
import Derived.Lib.MakeNoZero
import Derived.WalkKit
import Derived.Laws.Externs
import Derived.Laws.IdiomCopy
import Derived.Laws.BitsLemmas
import GoSem.Claims
import Derived.Deep.LoopGhost
import Derived.Shelf.Strings.Builder1
import Derived.Shelf.Strings.Builder2
import Derived.Shelf.Strings.OnBuilder
import Derived.Shelf.Strings.IndexAnyAll
import Derived.Shelf.Strings.Count
import Derived.Shelf.Strings.Search2
import Derived.Laws.RangeAny
import Derived.Laws.Runes
import Derived.Lib.DecodeN
import Derived.WalkMore
import Derived.Shelf.Small.Utf8
import Derived.Shelf.Bits.Mul64
import Derived.Shelf.Strings.Prefix
import Derived.Lib.RepeatB
import Derived.Deep.DeepCutAuto
import Derived.Deep.DeepFit
import Derived.Deep.CutBlock
import Derived.ProofKit
import Derived.OpenShut
import Derived.Test.YtoogmjnkclcjjaaGreatDoorRows
import Derived.Test.YtoogmjnkclcjjaaGreatDoorCards
import Derived.Test.YtoogmjnkclcjjaaGreatDoorTie
import Derived.LaidMore
import Derived.Stop.Joined
import Derived.SevenTiedAt
import Derived.Lib.LaidU8

set_option linter.unusedSectionVars false
set_option linter.unusedVariables false
set_option linter.unusedSimpArgs false
set_option linter.unnecessarySimpa false

section
namespace Go.Proofs.YtoogmjnkclcjjaaGreatDoor
open Go Go.Ab
set_option maxRecDepth 100000
def nus : List (Nat × Nat) := [(23, 64), (24, 111), (25, 70), (26, 112), (27, 67), (28, 113), (29, 32), (30, 60), (31, 76), (32, 41), (34, 18), (35, 22), (37, 35), (38, 91), (39, 98), (40, 107), (41, 71), (43, 13), (52, 47), (55, 69), (56, 84), (57, 101), (58, 36), (59, 135), (60, 66), (61, 37), (62, 68), (63, 50), (64, 81), (65, 82), (68, 21), (69, 24), (70, 54), (71, 93), (72, 20), (73, 138), (84, 75), (85, 121), (86, 53), (87, 19), (88, 130), (89, 102), (90, 55), (91, 103), (92, 104), (93, 105), (94, 106), (95, 88), (96, 89), (97, 48), (98, 118), (99, 119), (100, 120), (101, 56), (103, 58), (105, 61), (106, 125), (115, 137), (116, 141), (117, 129), (118, 92), (119, 131), (120, 132), (121, 133), (122, 122), (123, 85), (125, 95), (126, 79), (127, 96), (128, 97), (198, 139), (199, 123), (200, 124), (201, 90), (202, 51), (203, 52), (204, 26), (205, 42), (206, 27), (207, 17), (209, 34), (210, 65), (214, 31), (215, 29), (217, 30), (218, 63), (222, 28), (224, 86), (225, 87), (226, 46), (227, 49), (228, 15), (229, 14), (230, 16), (231, 7), (234, 23), (246, 39), (247, 4), (248, 6), (251, 8), (252, 25), (253, 83), (254, 43), (255, 44), (256, 12), (257, 10), (258, 62), (259, 9), (260, 38), (262, 11), (317, 3), (333, 5), (343, 33), (344, 40), (345, 45), (356, 99), (357, 100), (2043, 13), (2071, 93), (2092, 104), (2097, 48), (2106, 125)]
def nu (u : Nat) : FuncId := (nus.lookup u).getD 0
def row115 : AFx := ⟨3, 26, [.t 6, .t 7], b115, none, false⟩
def row116 : AFx := ⟨3, 25, [.t 6, .t 7], b116, none, false⟩
def row117 : AFx := ⟨4, 27, [.t 8, .t 9], b117, none, false⟩
def row118 : AFx := ⟨3, 29, [.t 6, .t 7, .t 8], b118, none, false⟩
def row91 : AFx := ⟨1, 23, [.t 2], b91, none, false⟩
def row86 : AFx := ⟨1, 21, [.t 2], b86, none, false⟩
def row106 : AFx := ⟨2, 15, [.t 4], b106, none, false⟩
def row71 : AFx := ⟨1, 6, [.t 2], b71, none, false⟩
def row72 : AFx := ⟨1, 10, [.t 2], b72, none, false⟩
def row73 : AFx := ⟨1, 28, [.t 2, .t 3], b73, none, false⟩
def row70 : AFx := ⟨1, 7, [.t 2], b70, none, false⟩
def row87 : AFx := ⟨2, 49, [.t 4], b87, none, false⟩
def row85 : AFx := ⟨2, 52, [.t 4], b85, none, false⟩
def row56 : AFx := ⟨1, 18, [.t 2], b56, none, false⟩
def row88 : AFx := ⟨2, 49, [.t 4, .t 5], b88, none, false⟩
def row57 : AFx := ⟨2, 24, [.t 4, .t 5], b57, none, false⟩
def row2106 : AFx := ⟨2, 15, [.t 4], b2106, (some [false, false]), false⟩
def row89 : AFx := ⟨5, 45, [], b89, (some [true, false, false, false, false]), false⟩
def row100 : AFx := ⟨3, 19, [.t 6], b100, none, false⟩
def row60 : AFx := ⟨2, 30, [.t 4], b60, none, false⟩
def row92 : AFx := ⟨2, 57, [.t 4], b92, none, false⟩
def row94 : AFx := ⟨2, 65, [.t 4], b94, none, false⟩
def row90 : AFx := ⟨2, 37, [.t 4, .t 5, .t 6], b90, none, false⟩
def row119 : AFx := ⟨5, 76, [.t 10], b119, none, false⟩
def row120 : AFx := ⟨4, 66, [.t 8], b120, (some [true, false, false, false]), false⟩
def row121 : AFx := ⟨3, 44, [], b121, (some [true, false, false]), false⟩
def row93 : AFx := ⟨2, 70, [.t 4], b93, (some [true, false]), false⟩
def row2071 : AFx := ⟨1, 6, [.t 2], b2071, (some [false]), false⟩
def row2092 : AFx := ⟨2, 57, [.t 4], b2092, (some [false, false]), false⟩
def row62 : AFx := ⟨2, 65, [.t 4, .t 5, .t 6], b62, none, false⟩
def row98 : AFx := ⟨2, 15, [.t 4, .t 5], b98, none, false⟩
def row123 : AFx := ⟨2, 18, [.t 4], b123, none, false⟩
def row64 : AFx := ⟨2, 11, [.t 4, .t 5], b64, none, false⟩
def row101 : AFx := ⟨1, 19, [.t 2], b101, none, false⟩
def row99 : AFx := ⟨1, 27, [.t 2], b99, none, false⟩
def row65 : AFx := ⟨1, 48, [.t 2, .cell 3 (some 4)], b65, none, false⟩
def row68 : AFx := ⟨0, 0, [], .prim prim68, none, false⟩
def row103 : AFx := ⟨2, 37, [.t 4], b103, none, false⟩
def row125 : AFx := ⟨2, 17, [.t 4], b125, none, false⟩
def row55 : AFx := ⟨2, 13, [.cell 4 (some 2)], b55, none, false⟩
def row38 : AFx := ⟨1, 9, [.cell 2 (some 2)], b38, none, false⟩
def row40 : AFx := ⟨1, 10, [.cell 2 (some 2)], b40, none, false⟩
def row23 : AFx := ⟨2, 39, [.cell 4 (some 2)], b23, none, false⟩
def row25 : AFx := ⟨2, 9, [.cell 4 (some 2)], b25, none, false⟩
def row27 : AFx := ⟨2, 16, [.cell 4 (some 2)], b27, none, false⟩
def row37 : AFx := ⟨1, 10, [.t 2], b37, none, false⟩
def row41 : AFx := ⟨1, 14, [.cell 2 (some 2)], b41, none, false⟩
def row36 : AFx := ⟨2, 9, [.t 4], b36, none, false⟩
def row29 : AFx := ⟨2, 48, [.cell 4 (some 2), .cell 5 (some 2), .t 6], b29, none, false⟩
def row34 : AFx := ⟨1, 13, [.t 2], b34, none, false⟩
def row32 : AFx := ⟨1, 36, [.cell 2 (some 2), .cell 3 (some 4)], b32, none, false⟩
def row198 : AFx := ⟨2, 12, [.t 4], b198, none, false⟩
def row199 : AFx := ⟨2, 56, [.t 4], b199, none, false⟩
def row200 : AFx := ⟨1, 12, [.t 2], b200, none, false⟩
def row201 : AFx := ⟨2, 37, [.t 4, .t 5], b201, none, false⟩
def row202 : AFx := ⟨2, 21, [.cell 4 (some 3)], b202, none, false⟩
def row203 : AFx := ⟨1, 13, [.cell 2 (some 2), .t 3], b203, none, false⟩
def row205 : AFx := ⟨1, 7, [.cell 2 (some 3)], b205, none, false⟩
def row207 : AFx := ⟨1, 8, [.cell 2 (some 3)], b207, none, false⟩
def row209 : AFx := ⟨1, 12, [.t 2], b209, none, false⟩
def row210 : AFx := ⟨2, 9, [.cell 4 (some 2)], b210, none, false⟩
def row212 : AFx := ⟨2, 9, [.t 4], b212, none, false⟩
def row215 : AFx := ⟨2, 30, [.cell 4 (some 3)], b215, none, false⟩
def row217 : AFx := ⟨2, 26, [.cell 4 (some 3)], b217, none, false⟩
def row218 : AFx := ⟨2, 40, [.cell 4 (some 3), .t 5], b218, none, false⟩
def row204 : AFx := ⟨2, 12, [.cell 4 (some 3), .t 5], b204, none, false⟩
def row206 : AFx := ⟨2, 13, [.cell 4 (some 3), .t 5], b206, none, false⟩
def row214 : AFx := ⟨1, 9, [.cell 2 (some 3)], b214, none, false⟩
def row222 : AFx := ⟨1, 22, [.cell 2 (some 2)], b222, none, false⟩
def row343 : AFx := ⟨0, 0, [], .prim prim343, none, false⟩
def row344 : AFx := ⟨0, 0, [], .prim prim344, none, false⟩
def row345 : AFx := ⟨2, 8, [.t 4], b345, none, false⟩
def row258 : AFx := ⟨2, 51, [.t 4, .t 5], b258, none, false⟩
def row356 : AFx := ⟨1, 20, [.t 2], b356, none, false⟩
def row357 : AFx := ⟨1, 66, [.t 2], b357, none, false⟩
def row252 : AFx := ⟨1, 12, [.t 2], b252, none, false⟩
def row253 : AFx := ⟨2, 25, [.t 4, .cell 5 (some 4)], b253, none, false⟩
def row254 : AFx := ⟨3, 36, [.cell 6 (some 3), .cell 7 (some 4)], b254, none, false⟩
def row255 : AFx := ⟨4, 49, [.cell 8 (some 3), .cell 9 (some 4)], b255, none, false⟩
def row256 : AFx := ⟨1, 61, [.cell 2 (some 3), .cell 3 (some 4)], b256, none, false⟩
def row257 : AFx := ⟨2, 73, [.t 4], b257, none, false⟩
def row251 : AFx := ⟨1, 21, [.t 2], b251, none, false⟩
def row263 : AFx := ⟨1, 20, [.t 2], b263, none, false⟩
def row264 : AFx := ⟨2, 21, [.t 4], b264, none, false⟩
def row266 : AFx := ⟨1, 19, [.t 2], b266, none, false⟩
def row43 : AFx := ⟨1, 23, [.t 2], b43, none, false⟩
def row84 : AFx := ⟨2, 13, [.t 4], b84, none, false⟩
def row52 : AFx := ⟨2, 30, [.t 4], b52, none, false⟩
def row58 : AFx := ⟨2, 43, [.t 4], b58, none, false⟩
def row59 : AFx := ⟨2, 47, [.t 4], b59, none, false⟩
def row61 : AFx := ⟨2, 68, [.t 4], b61, none, false⟩
def row122 : AFx := ⟨2, 32, [.t 4], b122, none, false⟩
def row95 : AFx := ⟨1, 19, [.t 2], b95, none, false⟩
def row96 : AFx := ⟨2, 30, [], b96, (some [true, false]), false⟩
def row97 : AFx := ⟨2, 37, [], b97, (some [true, false]), false⟩
def row63 : AFx := ⟨2, 54, [.t 4, .t 5], b63, none, false⟩
def row2043 : AFx := ⟨1, 23, [.t 2], b2043, (some [false]), false⟩
def row105 : AFx := ⟨1, 29, [.t 2], b105, (some [true]), false⟩
def row69 : AFx := ⟨1, 26, [.t 2], b69, none, false⟩
def row224 : AFx := ⟨1, 14, [.t 2], b224, none, false⟩
def row225 : AFx := ⟨2, 56, [.t 4], b225, (some [true, false]), false⟩
def row226 : AFx := ⟨1, 24, [.t 2, .t 3], b226, (some [true]), false⟩
def row227 : AFx := ⟨2, 17, [.t 4], b227, none, false⟩
def row228 : AFx := ⟨2, 56, [.t 4], b228, none, false⟩
def row229 : AFx := ⟨1, 12, [.t 2], b229, none, false⟩
def row230 : AFx := ⟨2, 18, [.t 4], b230, none, false⟩
def row2097 : AFx := ⟨2, 37, [], b2097, (some [true, true]), false⟩
def row39 : AFx := ⟨1, 16, [.cell 2 (some 2)], b39, none, false⟩
def row21 : AFx := ⟨2, 17, [.t 4], b21, none, false⟩
def row30 : AFx := ⟨1, 12, [.t 2], b30, none, false⟩
def row26 : AFx := ⟨1, 10, [.cell 2 (some 2)], b26, none, false⟩
def row24 : AFx := ⟨2, 43, [.cell 4 (some 2)], b24, none, false⟩
def row28 : AFx := ⟨2, 17, [.cell 4 (some 2)], b28, none, false⟩
def row31 : AFx := ⟨2, 45, [.cell 4 (some 2), .cell 5 (some 2)], b31, none, false⟩
def row35 : AFx := ⟨1, 13, [.t 2], b35, none, false⟩
def row33 : AFx := ⟨1, 33, [.cell 2 (some 2), .t 3], b33, none, false⟩
def row231 : AFx := ⟨1, 40, [.cell 2 (some 3)], b231, none, false⟩
def row234 : AFx := ⟨1, 8, [.cell 2 (some 2)], b234, none, false⟩
def row246 : AFx := ⟨1, 15, [.cell 2 (some 2)], b246, none, false⟩
def row247 : AFx := ⟨2, 17, [.t 4], b247, none, false⟩
def row259 : AFx := ⟨1, 18, [.t 2], b259, none, false⟩
def row260 : AFx := ⟨1, 15, [.t 2], b260, none, false⟩
def row262 : AFx := ⟨2, 66, [.t 4], b262, none, false⟩
def row248 : AFx := ⟨1, 11, [.cell 2 (some 3)], b248, none, false⟩
def row317 : AFx := ⟨2, 31, [.t 4], b317, none, false⟩
def row333 : AFx := ⟨0, 31, [.t 0], b333, none, false⟩
def RowOk (P : Program) (ν : Nat → FuncId) (τ : Nat → Nat) (u : Nat) (af : AFx) : Prop :=
 match af.body.isPrim with
 | some f => ∀ xs r, f xs = some r → PCall P (ν u) xs (· = r)
 | none => if af.body.isBad = true then ∀ m ∈ methsA af, methOf P af.np m.1 = some (ν m.2) else resFn P (ν u) = some (erF ν τ af)
theorem ok_pr {P : Program} {ν : Nat → FuncId} {τ : Nat → Nat} {u : Nat} {af : AFx} {f : List AV → Option AV} (h0 : af.body.isPrim = some f) (h : ∀ xs r, f xs = some r → PCall P (ν u) xs (· = r)) : RowOk P ν τ u af := by unfold RowOk; rw [h0]; exact h
theorem ok_fn {P : Program} {ν : Nat → FuncId} {τ : Nat → Nat} {u : Nat} {af : AFx} (h0 : af.body.isPrim = none) (h1 : af.body.isBad = false) (h : resFn P (ν u) = some (erF ν τ af)) : RowOk P ν τ u af := by unfold RowOk; rw [h0]; simp only [h1]; exact h
theorem ok_cons {P : Program} {ν : Nat → FuncId} {τ : Nat → Nat} {u : Nat} {af : AFx} {l : List (Nat × AFx)} (h : RowOk P ν τ u af) (hl : ∀ p ∈ l, RowOk P ν τ p.1 p.2) :
  ∀ p ∈ (u, af) :: l, RowOk P ν τ p.1 p.2 := by
 intro p hp
 rcases List.mem_cons.1 hp with rfl | hp
 ·exact h
 ·exact hl p hp
theorem ok_lookup {P : Program} {ν : Nat → FuncId} {l : List (Nat × AFx)} (hl : ∀ p ∈ l, RowOk P ν (tyNum fun u => l.lookup u) p.1 p.2) : TOk P ν (fun u => l.lookup u) := fun _ _ h => hl _ (mem_of_lookup h)
theorem sub_cons {l l2 : List (Nat × AFx)} {u : Nat} {af : AFx} (h : l.lookup u = some af) (h2 : ∀ p ∈ l2, l.lookup p.1 = some p.2) : ∀ p ∈ (u, af) :: l2, l.lookup p.1 = some p.2 := by
 intro p hp
 rcases List.mem_cons.1 hp with rfl | hp
 ·exact h
 ·exact h2 p hp
def gTab : List (Nat × AFx) := [(115, row115), (116, row116), (117, row117), (118, row118), (91, row91), (86, row86), (106, row106), (71, row71), (72, row72), (73, row73), (70, row70), (87, row87), (85, row85), (56, row56), (88, row88), (57, row57), (2106, row2106), (89, row89), (100, row100), (60, row60), (92, row92), (94, row94), (90, row90), (119, row119), (120, row120), (121, row121), (93, row93), (2071, row2071), (2092, row2092), (62, row62), (98, row98), (123, row123), (64, row64), (101, row101), (99, row99), (65, row65), (68, row68), (103, row103), (125, row125), (55, row55), (38, row38), (40, row40), (23, row23), (25, row25), (27, row27), (37, row37), (41, row41), (36, row36), (29, row29), (34, row34), (32, row32), (198, row198), (199, row199), (200, row200), (201, row201), (202, row202), (203, row203), (205, row205), (207, row207), (209, row209), (210, row210), (212, row212), (215, row215), (217, row217), (218, row218), (204, row204), (206, row206), (214, row214), (222, row222), (343, row343), (344, row344), (345, row345), (258, row258), (356, row356), (357, row357), (252, row252), (253, row253), (254, row254), (255, row255), (256, row256), (257, row257), (251, row251), (263, row263), (264, row264), (266, row266), (43, row43), (84, row84), (52, row52), (58, row58), (59, row59), (61, row61), (122, row122), (95, row95), (96, row96), (97, row97), (63, row63), (2043, row2043), (105, row105), (69, row69), (224, row224), (225, row225), (226, row226), (227, row227), (228, row228), (229, row229), (230, row230), (2097, row2097), (39, row39), (21, row21), (30, row30), (26, row26), (24, row24), (28, row28), (31, row31), (35, row35), (33, row33), (231, row231), (234, row234), (246, row246), (247, row247), (259, row259), (260, row260), (262, row262), (248, row248), (317, row317), (333, row333)]
def lTab : List (Nat × AFx) := [(115, row115), (116, row116), (117, row117), (118, row118), (91, row91), (86, row86), (106, row106), (71, row71), (72, row72), (73, row73), (70, row70), (87, row87), (85, row85), (56, row56), (88, row88), (57, row57), (2106, row2106), (89, row89), (100, row100), (60, row60), (92, row92), (94, row94), (90, row90), (119, row119), (120, row120), (121, row121), (93, row93), (2071, row2071), (2092, row2092), (62, row62), (98, row98), (123, row123), (64, row64), (99, row99), (65, row65), (68, row68), (55, row55), (38, row38), (40, row40), (23, row23), (25, row25), (27, row27), (37, row37), (41, row41), (29, row29), (34, row34), (32, row32), (198, row198), (199, row199), (200, row200), (201, row201), (202, row202), (203, row203), (205, row205), (207, row207), (209, row209), (210, row210), (215, row215), (217, row217), (218, row218), (204, row204), (206, row206), (214, row214), (222, row222), (343, row343), (344, row344), (345, row345), (258, row258), (356, row356), (357, row357), (252, row252), (253, row253), (254, row254), (255, row255), (256, row256), (257, row257), (251, row251), (43, row43), (84, row84), (52, row52), (58, row58), (59, row59), (61, row61), (122, row122), (95, row95), (96, row96), (97, row97), (63, row63), (2043, row2043), (105, row105), (69, row69), (224, row224), (225, row225), (226, row226), (227, row227), (228, row228), (229, row229), (230, row230), (2097, row2097), (39, row39), (30, row30), (26, row26), (24, row24), (28, row28), (31, row31), (35, row35), (231, row231), (234, row234), (246, row246), (247, row247), (259, row259), (260, row260), (262, row262), (248, row248), (317, row317), (333, row333)]
def tab : Tbl := fun u => gTab.lookup u
def tau_l : Nat → Nat := tyNum fun u => lTab.lookup u
theorem resl_115 : resFn Tryz.prog (nu 115) = some (erF nu tau_l row115) := by kernel_rfl
theorem resl_116 : resFn Tryz.prog (nu 116) = some (erF nu tau_l row116) := by kernel_rfl
theorem resl_117 : resFn Tryz.prog (nu 117) = some (erF nu tau_l row117) := by kernel_rfl
theorem resl_118 : resFn Tryz.prog (nu 118) = some (erF nu tau_l row118) := by kernel_rfl
theorem resl_91 : resFn Tryz.prog (nu 91) = some (erF nu tau_l row91) := by kernel_rfl
theorem resl_86 : resFn Tryz.prog (nu 86) = some (erF nu tau_l row86) := by kernel_rfl
theorem resl_106 : resFn Tryz.prog (nu 106) = some (erF nu tau_l row106) := by kernel_rfl
theorem resl_71 : resFn Tryz.prog (nu 71) = some (erF nu tau_l row71) := by kernel_rfl
theorem resl_72 : resFn Tryz.prog (nu 72) = some (erF nu tau_l row72) := by kernel_rfl
theorem resl_73 : resFn Tryz.prog (nu 73) = some (erF nu tau_l row73) := by kernel_rfl
theorem resl_70 : resFn Tryz.prog (nu 70) = some (erF nu tau_l row70) := by kernel_rfl
theorem resl_87 : resFn Tryz.prog (nu 87) = some (erF nu tau_l row87) := by kernel_rfl
theorem resl_85 : resFn Tryz.prog (nu 85) = some (erF nu tau_l row85) := by kernel_rfl
theorem resl_56 : resFn Tryz.prog (nu 56) = some (erF nu tau_l row56) := by kernel_rfl
theorem resl_88 : resFn Tryz.prog (nu 88) = some (erF nu tau_l row88) := by kernel_rfl
theorem resl_57 : resFn Tryz.prog (nu 57) = some (erF nu tau_l row57) := by kernel_rfl
theorem resl_2106 : resFn Tryz.prog (nu 2106) = some (erF nu tau_l row2106) := by kernel_rfl
theorem resl_89 : resFn Tryz.prog (nu 89) = some (erF nu tau_l row89) := by kernel_rfl
theorem resl_100 : resFn Tryz.prog (nu 100) = some (erF nu tau_l row100) := by kernel_rfl
theorem resl_60 : resFn Tryz.prog (nu 60) = some (erF nu tau_l row60) := by kernel_rfl
theorem resl_92 : resFn Tryz.prog (nu 92) = some (erF nu tau_l row92) := by kernel_rfl
theorem resl_94 : resFn Tryz.prog (nu 94) = some (erF nu tau_l row94) := by kernel_rfl
theorem resl_90 : resFn Tryz.prog (nu 90) = some (erF nu tau_l row90) := by kernel_rfl
theorem resl_119 : resFn Tryz.prog (nu 119) = some (erF nu tau_l row119) := by kernel_rfl
theorem resl_120 : resFn Tryz.prog (nu 120) = some (erF nu tau_l row120) := by kernel_rfl
theorem resl_121 : resFn Tryz.prog (nu 121) = some (erF nu tau_l row121) := by kernel_rfl
theorem resl_93 : resFn Tryz.prog (nu 93) = some (erF nu tau_l row93) := by kernel_rfl
theorem resl_2071 : resFn Tryz.prog (nu 2071) = some (erF nu tau_l row2071) := by kernel_rfl
theorem resl_2092 : resFn Tryz.prog (nu 2092) = some (erF nu tau_l row2092) := by kernel_rfl
theorem resl_62 : resFn Tryz.prog (nu 62) = some (erF nu tau_l row62) := by kernel_rfl
theorem resl_98 : resFn Tryz.prog (nu 98) = some (erF nu tau_l row98) := by kernel_rfl
theorem resl_123 : resFn Tryz.prog (nu 123) = some (erF nu tau_l row123) := by kernel_rfl
theorem resl_64 : resFn Tryz.prog (nu 64) = some (erF nu tau_l row64) := by kernel_rfl
theorem resl_99 : resFn Tryz.prog (nu 99) = some (erF nu tau_l row99) := by kernel_rfl
theorem resl_65 : resFn Tryz.prog (nu 65) = some (erF nu tau_l row65) := by kernel_rfl
theorem resl_55 : resFn Tryz.prog (nu 55) = some (erF nu tau_l row55) := by kernel_rfl
theorem resl_38 : resFn Tryz.prog (nu 38) = some (erF nu tau_l row38) := by kernel_rfl
theorem resl_40 : resFn Tryz.prog (nu 40) = some (erF nu tau_l row40) := by kernel_rfl
theorem resl_23 : resFn Tryz.prog (nu 23) = some (erF nu tau_l row23) := by kernel_rfl
theorem resl_25 : resFn Tryz.prog (nu 25) = some (erF nu tau_l row25) := by kernel_rfl
theorem resl_27 : resFn Tryz.prog (nu 27) = some (erF nu tau_l row27) := by kernel_rfl
theorem resl_37 : resFn Tryz.prog (nu 37) = some (erF nu tau_l row37) := by kernel_rfl
theorem resl_41 : resFn Tryz.prog (nu 41) = some (erF nu tau_l row41) := by kernel_rfl
theorem resl_29 : resFn Tryz.prog (nu 29) = some (erF nu tau_l row29) := by kernel_rfl
theorem resl_34 : resFn Tryz.prog (nu 34) = some (erF nu tau_l row34) := by kernel_rfl
theorem resl_32 : resFn Tryz.prog (nu 32) = some (erF nu tau_l row32) := by kernel_rfl
theorem resl_198 : resFn Tryz.prog (nu 198) = some (erF nu tau_l row198) := by kernel_rfl
theorem resl_199 : resFn Tryz.prog (nu 199) = some (erF nu tau_l row199) := by kernel_rfl
theorem resl_200 : resFn Tryz.prog (nu 200) = some (erF nu tau_l row200) := by kernel_rfl
theorem resl_201 : resFn Tryz.prog (nu 201) = some (erF nu tau_l row201) := by kernel_rfl
theorem resl_202 : resFn Tryz.prog (nu 202) = some (erF nu tau_l row202) := by kernel_rfl
theorem resl_203 : resFn Tryz.prog (nu 203) = some (erF nu tau_l row203) := by kernel_rfl
theorem resl_205 : resFn Tryz.prog (nu 205) = some (erF nu tau_l row205) := by kernel_rfl
theorem resl_207 : resFn Tryz.prog (nu 207) = some (erF nu tau_l row207) := by kernel_rfl
theorem resl_209 : resFn Tryz.prog (nu 209) = some (erF nu tau_l row209) := by kernel_rfl
theorem resl_210 : resFn Tryz.prog (nu 210) = some (erF nu tau_l row210) := by kernel_rfl
theorem resl_215 : resFn Tryz.prog (nu 215) = some (erF nu tau_l row215) := by kernel_rfl
theorem resl_217 : resFn Tryz.prog (nu 217) = some (erF nu tau_l row217) := by kernel_rfl
theorem resl_218 : resFn Tryz.prog (nu 218) = some (erF nu tau_l row218) := by kernel_rfl
theorem resl_204 : resFn Tryz.prog (nu 204) = some (erF nu tau_l row204) := by kernel_rfl
theorem resl_206 : resFn Tryz.prog (nu 206) = some (erF nu tau_l row206) := by kernel_rfl
theorem resl_214 : resFn Tryz.prog (nu 214) = some (erF nu tau_l row214) := by kernel_rfl
theorem resl_222 : resFn Tryz.prog (nu 222) = some (erF nu tau_l row222) := by kernel_rfl
theorem resl_345 : resFn Tryz.prog (nu 345) = some (erF nu tau_l row345) := by kernel_rfl
theorem resl_258 : resFn Tryz.prog (nu 258) = some (erF nu tau_l row258) := by kernel_rfl
theorem resl_356 : resFn Tryz.prog (nu 356) = some (erF nu tau_l row356) := by kernel_rfl
theorem resl_357 : resFn Tryz.prog (nu 357) = some (erF nu tau_l row357) := by kernel_rfl
theorem resl_252 : resFn Tryz.prog (nu 252) = some (erF nu tau_l row252) := by kernel_rfl
theorem resl_253 : resFn Tryz.prog (nu 253) = some (erF nu tau_l row253) := by kernel_rfl
theorem resl_254 : resFn Tryz.prog (nu 254) = some (erF nu tau_l row254) := by kernel_rfl
theorem resl_255 : resFn Tryz.prog (nu 255) = some (erF nu tau_l row255) := by kernel_rfl
theorem resl_256 : resFn Tryz.prog (nu 256) = some (erF nu tau_l row256) := by kernel_rfl
theorem resl_257 : resFn Tryz.prog (nu 257) = some (erF nu tau_l row257) := by kernel_rfl
theorem resl_251 : resFn Tryz.prog (nu 251) = some (erF nu tau_l row251) := by kernel_rfl
theorem resl_43 : resFn Tryz.prog (nu 43) = some (erF nu tau_l row43) := by kernel_rfl
theorem resl_84 : resFn Tryz.prog (nu 84) = some (erF nu tau_l row84) := by kernel_rfl
theorem resl_52 : resFn Tryz.prog (nu 52) = some (erF nu tau_l row52) := by kernel_rfl
theorem resl_58 : resFn Tryz.prog (nu 58) = some (erF nu tau_l row58) := by kernel_rfl
theorem resl_59 : resFn Tryz.prog (nu 59) = some (erF nu tau_l row59) := by kernel_rfl
theorem resl_61 : resFn Tryz.prog (nu 61) = some (erF nu tau_l row61) := by kernel_rfl
theorem resl_122 : resFn Tryz.prog (nu 122) = some (erF nu tau_l row122) := by kernel_rfl
theorem resl_95 : resFn Tryz.prog (nu 95) = some (erF nu tau_l row95) := by kernel_rfl
theorem resl_96 : resFn Tryz.prog (nu 96) = some (erF nu tau_l row96) := by kernel_rfl
theorem resl_97 : resFn Tryz.prog (nu 97) = some (erF nu tau_l row97) := by kernel_rfl
theorem resl_63 : resFn Tryz.prog (nu 63) = some (erF nu tau_l row63) := by kernel_rfl
theorem resl_2043 : resFn Tryz.prog (nu 2043) = some (erF nu tau_l row2043) := by kernel_rfl
theorem resl_105 : resFn Tryz.prog (nu 105) = some (erF nu tau_l row105) := by kernel_rfl
theorem resl_69 : resFn Tryz.prog (nu 69) = some (erF nu tau_l row69) := by kernel_rfl
theorem resl_224 : resFn Tryz.prog (nu 224) = some (erF nu tau_l row224) := by kernel_rfl
theorem resl_225 : resFn Tryz.prog (nu 225) = some (erF nu tau_l row225) := by kernel_rfl
theorem resl_226 : resFn Tryz.prog (nu 226) = some (erF nu tau_l row226) := by kernel_rfl
theorem resl_227 : resFn Tryz.prog (nu 227) = some (erF nu tau_l row227) := by kernel_rfl
theorem resl_228 : resFn Tryz.prog (nu 228) = some (erF nu tau_l row228) := by kernel_rfl
theorem resl_229 : resFn Tryz.prog (nu 229) = some (erF nu tau_l row229) := by kernel_rfl
theorem resl_230 : resFn Tryz.prog (nu 230) = some (erF nu tau_l row230) := by kernel_rfl
theorem resl_2097 : resFn Tryz.prog (nu 2097) = some (erF nu tau_l row2097) := by kernel_rfl
theorem resl_39 : resFn Tryz.prog (nu 39) = some (erF nu tau_l row39) := by kernel_rfl
theorem resl_30 : resFn Tryz.prog (nu 30) = some (erF nu tau_l row30) := by kernel_rfl
theorem resl_26 : resFn Tryz.prog (nu 26) = some (erF nu tau_l row26) := by kernel_rfl
theorem resl_24 : resFn Tryz.prog (nu 24) = some (erF nu tau_l row24) := by kernel_rfl
theorem resl_28 : resFn Tryz.prog (nu 28) = some (erF nu tau_l row28) := by kernel_rfl
theorem resl_31 : resFn Tryz.prog (nu 31) = some (erF nu tau_l row31) := by kernel_rfl
theorem resl_35 : resFn Tryz.prog (nu 35) = some (erF nu tau_l row35) := by kernel_rfl
theorem resl_231 : resFn Tryz.prog (nu 231) = some (erF nu tau_l row231) := by kernel_rfl
theorem resl_234 : resFn Tryz.prog (nu 234) = some (erF nu tau_l row234) := by kernel_rfl
theorem resl_246 : resFn Tryz.prog (nu 246) = some (erF nu tau_l row246) := by kernel_rfl
theorem resl_247 : resFn Tryz.prog (nu 247) = some (erF nu tau_l row247) := by kernel_rfl
theorem resl_259 : resFn Tryz.prog (nu 259) = some (erF nu tau_l row259) := by kernel_rfl
theorem resl_260 : resFn Tryz.prog (nu 260) = some (erF nu tau_l row260) := by kernel_rfl
theorem resl_262 : resFn Tryz.prog (nu 262) = some (erF nu tau_l row262) := by kernel_rfl
theorem resl_248 : resFn Tryz.prog (nu 248) = some (erF nu tau_l row248) := by kernel_rfl
theorem resl_317 : resFn Tryz.prog (nu 317) = some (erF nu tau_l row317) := by kernel_rfl
theorem resl_333 : resFn Tryz.prog (nu 333) = some (erF nu tau_l row333) := by kernel_rfl
theorem lTab_ok (hp68 : ∀ xs r, prim68 xs = some r → PCall Tryz.prog (nu 68) xs (· = r)) (hp343 : ∀ xs r, prim343 xs = some r → PCall Tryz.prog (nu 343) xs (· = r)) (hp344 : ∀ xs r, prim344 xs = some r → PCall Tryz.prog (nu 344) xs (· = r)) : TOk Tryz.prog nu (fun u => lTab.lookup u) := ok_lookup (ok_cons (ok_fn rfl rfl resl_115) (ok_cons (ok_fn rfl rfl resl_116) (ok_cons (ok_fn rfl rfl resl_117) (ok_cons (ok_fn rfl rfl resl_118) (ok_cons (ok_fn rfl rfl resl_91) (ok_cons (ok_fn rfl rfl resl_86) (ok_cons (ok_fn rfl rfl resl_106) (ok_cons (ok_fn rfl rfl resl_71) (ok_cons (ok_fn rfl rfl resl_72) (ok_cons (ok_fn rfl rfl resl_73) (ok_cons (ok_fn rfl rfl resl_70) (ok_cons (ok_fn rfl rfl resl_87) (ok_cons (ok_fn rfl rfl resl_85) (ok_cons (ok_fn rfl rfl resl_56) (ok_cons (ok_fn rfl rfl resl_88) (ok_cons (ok_fn rfl rfl resl_57) (ok_cons (ok_fn rfl rfl resl_2106) (ok_cons (ok_fn rfl rfl resl_89) (ok_cons (ok_fn rfl rfl resl_100) (ok_cons (ok_fn rfl rfl resl_60) (ok_cons (ok_fn rfl rfl resl_92) (ok_cons (ok_fn rfl rfl resl_94) (ok_cons (ok_fn rfl rfl resl_90) (ok_cons (ok_fn rfl rfl resl_119) (ok_cons (ok_fn rfl rfl resl_120) (ok_cons (ok_fn rfl rfl resl_121) (ok_cons (ok_fn rfl rfl resl_93) (ok_cons (ok_fn rfl rfl resl_2071) (ok_cons (ok_fn rfl rfl resl_2092) (ok_cons (ok_fn rfl rfl resl_62) (ok_cons (ok_fn rfl rfl resl_98) (ok_cons (ok_fn rfl rfl resl_123) (ok_cons (ok_fn rfl rfl resl_64) (ok_cons (ok_fn rfl rfl resl_99) (ok_cons (ok_fn rfl rfl resl_65) (ok_cons (ok_pr rfl hp68) (ok_cons (ok_fn rfl rfl resl_55) (ok_cons (ok_fn rfl rfl resl_38) (ok_cons (ok_fn rfl rfl resl_40) (ok_cons (ok_fn rfl rfl resl_23) (ok_cons (ok_fn rfl rfl resl_25) (ok_cons (ok_fn rfl rfl resl_27) (ok_cons (ok_fn rfl rfl resl_37) (ok_cons (ok_fn rfl rfl resl_41) (ok_cons (ok_fn rfl rfl resl_29) (ok_cons (ok_fn rfl rfl resl_34) (ok_cons (ok_fn rfl rfl resl_32) (ok_cons (ok_fn rfl rfl resl_198) (ok_cons (ok_fn rfl rfl resl_199) (ok_cons (ok_fn rfl rfl resl_200) (ok_cons (ok_fn rfl rfl resl_201) (ok_cons (ok_fn rfl rfl resl_202) (ok_cons (ok_fn rfl rfl resl_203) (ok_cons (ok_fn rfl rfl resl_205) (ok_cons (ok_fn rfl rfl resl_207) (ok_cons (ok_fn rfl rfl resl_209) (ok_cons (ok_fn rfl rfl resl_210) (ok_cons (ok_fn rfl rfl resl_215) (ok_cons (ok_fn rfl rfl resl_217) (ok_cons (ok_fn rfl rfl resl_218) (ok_cons (ok_fn rfl rfl resl_204) (ok_cons (ok_fn rfl rfl resl_206) (ok_cons (ok_fn rfl rfl resl_214) (ok_cons (ok_fn rfl rfl resl_222) (ok_cons (ok_pr rfl hp343) (ok_cons (ok_pr rfl hp344) (ok_cons (ok_fn rfl rfl resl_345) (ok_cons (ok_fn rfl rfl resl_258) (ok_cons (ok_fn rfl rfl resl_356) (ok_cons (ok_fn rfl rfl resl_357) (ok_cons (ok_fn rfl rfl resl_252) (ok_cons (ok_fn rfl rfl resl_253) (ok_cons (ok_fn rfl rfl resl_254) (ok_cons (ok_fn rfl rfl resl_255) (ok_cons (ok_fn rfl rfl resl_256) (ok_cons (ok_fn rfl rfl resl_257) (ok_cons (ok_fn rfl rfl resl_251) (ok_cons (ok_fn rfl rfl resl_43) (ok_cons (ok_fn rfl rfl resl_84) (ok_cons (ok_fn rfl rfl resl_52) (ok_cons (ok_fn rfl rfl resl_58) (ok_cons (ok_fn rfl rfl resl_59) (ok_cons (ok_fn rfl rfl resl_61) (ok_cons (ok_fn rfl rfl resl_122) (ok_cons (ok_fn rfl rfl resl_95) (ok_cons (ok_fn rfl rfl resl_96) (ok_cons (ok_fn rfl rfl resl_97) (ok_cons (ok_fn rfl rfl resl_63) (ok_cons (ok_fn rfl rfl resl_2043) (ok_cons (ok_fn rfl rfl resl_105) (ok_cons (ok_fn rfl rfl resl_69) (ok_cons (ok_fn rfl rfl resl_224) (ok_cons (ok_fn rfl rfl resl_225) (ok_cons (ok_fn rfl rfl resl_226) (ok_cons (ok_fn rfl rfl resl_227) (ok_cons (ok_fn rfl rfl resl_228) (ok_cons (ok_fn rfl rfl resl_229) (ok_cons (ok_fn rfl rfl resl_230) (ok_cons (ok_fn rfl rfl resl_2097) (ok_cons (ok_fn rfl rfl resl_39) (ok_cons (ok_fn rfl rfl resl_30) (ok_cons (ok_fn rfl rfl resl_26) (ok_cons (ok_fn rfl rfl resl_24) (ok_cons (ok_fn rfl rfl resl_28) (ok_cons (ok_fn rfl rfl resl_31) (ok_cons (ok_fn rfl rfl resl_35) (ok_cons (ok_fn rfl rfl resl_231) (ok_cons (ok_fn rfl rfl resl_234) (ok_cons (ok_fn rfl rfl resl_246) (ok_cons (ok_fn rfl rfl resl_247) (ok_cons (ok_fn rfl rfl resl_259) (ok_cons (ok_fn rfl rfl resl_260) (ok_cons (ok_fn rfl rfl resl_262) (ok_cons (ok_fn rfl rfl resl_248) (ok_cons (ok_fn rfl rfl resl_317) (ok_cons (ok_fn rfl rfl resl_333) (fun p hp => by cases hp)))))))))))))))))))))))))))))))))))))))))))))))))))))))))))))))))))))))))))))))))))))))))))))))))))))))))))))))))))))
theorem lTab_part : Part gTab lTab := ⟨sub_cons (by kernel_rfl) (sub_cons (by kernel_rfl) (sub_cons (by kernel_rfl) (sub_cons (by kernel_rfl) (sub_cons (by kernel_rfl) (sub_cons (by kernel_rfl) (sub_cons (by kernel_rfl) (sub_cons (by kernel_rfl) (sub_cons (by kernel_rfl) (sub_cons (by kernel_rfl) (sub_cons (by kernel_rfl) (sub_cons (by kernel_rfl) (sub_cons (by kernel_rfl) (sub_cons (by kernel_rfl) (sub_cons (by kernel_rfl) (sub_cons (by kernel_rfl) (sub_cons (by kernel_rfl) (sub_cons (by kernel_rfl) (sub_cons (by kernel_rfl) (sub_cons (by kernel_rfl) (sub_cons (by kernel_rfl) (sub_cons (by kernel_rfl) (sub_cons (by kernel_rfl) (sub_cons (by kernel_rfl) (sub_cons (by kernel_rfl) (sub_cons (by kernel_rfl) (sub_cons (by kernel_rfl) (sub_cons (by kernel_rfl) (sub_cons (by kernel_rfl) (sub_cons (by kernel_rfl) (sub_cons (by kernel_rfl) (sub_cons (by kernel_rfl) (sub_cons (by kernel_rfl) (sub_cons (by kernel_rfl) (sub_cons (by kernel_rfl) (sub_cons (by kernel_rfl) (sub_cons (by kernel_rfl) (sub_cons (by kernel_rfl) (sub_cons (by kernel_rfl) (sub_cons (by kernel_rfl) (sub_cons (by kernel_rfl) (sub_cons (by kernel_rfl) (sub_cons (by kernel_rfl) (sub_cons (by kernel_rfl) (sub_cons (by kernel_rfl) (sub_cons (by kernel_rfl) (sub_cons (by kernel_rfl) (sub_cons (by kernel_rfl) (sub_cons (by kernel_rfl) (sub_cons (by kernel_rfl) (sub_cons (by kernel_rfl) (sub_cons (by kernel_rfl) (sub_cons (by kernel_rfl) (sub_cons (by kernel_rfl) (sub_cons (by kernel_rfl) (sub_cons (by kernel_rfl) (sub_cons (by kernel_rfl) (sub_cons (by kernel_rfl) (sub_cons (by kernel_rfl) (sub_cons (by kernel_rfl) (sub_cons (by kernel_rfl) (sub_cons (by kernel_rfl) (sub_cons (by kernel_rfl) (sub_cons (by kernel_rfl) (sub_cons (by kernel_rfl) (sub_cons (by kernel_rfl) (sub_cons (by kernel_rfl) (sub_cons (by kernel_rfl) (sub_cons (by kernel_rfl) (sub_cons (by kernel_rfl) (sub_cons (by kernel_rfl) (sub_cons (by kernel_rfl) (sub_cons (by kernel_rfl) (sub_cons (by kernel_rfl) (sub_cons (by kernel_rfl) (sub_cons (by kernel_rfl) (sub_cons (by kernel_rfl) (sub_cons (by kernel_rfl) (sub_cons (by kernel_rfl) (sub_cons (by kernel_rfl) (sub_cons (by kernel_rfl) (sub_cons (by kernel_rfl) (sub_cons (by kernel_rfl) (sub_cons (by kernel_rfl) (sub_cons (by kernel_rfl) (sub_cons (by kernel_rfl) (sub_cons (by kernel_rfl) (sub_cons (by kernel_rfl) (sub_cons (by kernel_rfl) (sub_cons (by kernel_rfl) (sub_cons (by kernel_rfl) (sub_cons (by kernel_rfl) (sub_cons (by kernel_rfl) (sub_cons (by kernel_rfl) (sub_cons (by kernel_rfl) (sub_cons (by kernel_rfl) (sub_cons (by kernel_rfl) (sub_cons (by kernel_rfl) (sub_cons (by kernel_rfl) (sub_cons (by kernel_rfl) (sub_cons (by kernel_rfl) (sub_cons (by kernel_rfl) (sub_cons (by kernel_rfl) (sub_cons (by kernel_rfl) (sub_cons (by kernel_rfl) (sub_cons (by kernel_rfl) (sub_cons (by kernel_rfl) (sub_cons (by kernel_rfl) (sub_cons (by kernel_rfl) (sub_cons (by kernel_rfl) (sub_cons (by kernel_rfl) (sub_cons (by kernel_rfl) (sub_cons (by kernel_rfl) (sub_cons (by kernel_rfl) (sub_cons (by kernel_rfl) (sub_cons (by kernel_rfl) (fun p hp => by cases hp)))))))))))))))))))))))))))))))))))))))))))))))))))))))))))))))))))))))))))))))))))))))))))))))))))))))))))))))))))), by kernel_rfl⟩
def sTab : List (Nat × AFx) := [(118, row118), (86, row86), (106, row106), (71, row71), (70, row70), (90, row90), (101, row101), (103, row103), (125, row125)]
def tau_s : Nat → Nat := tyNum fun u => sTab.lookup u
theorem ress_118 : resFn Tryz.prog (nu 118) = some (erF nu tau_s row118) := by kernel_rfl
theorem ress_86 : resFn Tryz.prog (nu 86) = some (erF nu tau_s row86) := by kernel_rfl
theorem ress_106 : resFn Tryz.prog (nu 106) = some (erF nu tau_s row106) := by kernel_rfl
theorem ress_71 : resFn Tryz.prog (nu 71) = some (erF nu tau_s row71) := by kernel_rfl
theorem ress_70 : resFn Tryz.prog (nu 70) = some (erF nu tau_s row70) := by kernel_rfl
theorem ress_90 : resFn Tryz.prog (nu 90) = some (erF nu tau_s row90) := by kernel_rfl
theorem ress_101 : resFn Tryz.prog (nu 101) = some (erF nu tau_s row101) := by kernel_rfl
theorem ress_103 : resFn Tryz.prog (nu 103) = some (erF nu tau_s row103) := by kernel_rfl
theorem ress_125 : resFn Tryz.prog (nu 125) = some (erF nu tau_s row125) := by kernel_rfl
theorem sTab_ok : TOk Tryz.prog nu (fun u => sTab.lookup u) := ok_lookup (ok_cons (ok_fn rfl rfl ress_118) (ok_cons (ok_fn rfl rfl ress_86) (ok_cons (ok_fn rfl rfl ress_106) (ok_cons (ok_fn rfl rfl ress_71) (ok_cons (ok_fn rfl rfl ress_70) (ok_cons (ok_fn rfl rfl ress_90) (ok_cons (ok_fn rfl rfl ress_101) (ok_cons (ok_fn rfl rfl ress_103) (ok_cons (ok_fn rfl rfl ress_125) (fun p hp => by cases hp))))))))))
theorem sTab_part : Part gTab sTab := ⟨sub_cons (by kernel_rfl) (sub_cons (by kernel_rfl) (sub_cons (by kernel_rfl) (sub_cons (by kernel_rfl) (sub_cons (by kernel_rfl) (sub_cons (by kernel_rfl) (sub_cons (by kernel_rfl) (sub_cons (by kernel_rfl) (sub_cons (by kernel_rfl) (fun p hp => by cases hp))))))))), by kernel_rfl⟩
instance : CLimb tab where
 h115 := by kernel_rfl
 h116 := by kernel_rfl
 h117 := by kernel_rfl
 h118 := by kernel_rfl
 h91 := by kernel_rfl
instance : CNat tab where
 h115 := by kernel_rfl
 h116 := by kernel_rfl
 h117 := by kernel_rfl
 h118 := by kernel_rfl
 h91 := by kernel_rfl
 h86 := by kernel_rfl
 h106 := by kernel_rfl
 h71 := by kernel_rfl
 h72 := by kernel_rfl
 h73 := by kernel_rfl
 h70 := by kernel_rfl
 h87 := by kernel_rfl
 h85 := by kernel_rfl
 h56 := by kernel_rfl
 h88 := by kernel_rfl
 h57 := by kernel_rfl
 h2106 := by kernel_rfl
instance : CProd tab where
 h115 := by kernel_rfl
 h116 := by kernel_rfl
 h117 := by kernel_rfl
 h118 := by kernel_rfl
 h91 := by kernel_rfl
 h86 := by kernel_rfl
 h106 := by kernel_rfl
 h71 := by kernel_rfl
 h72 := by kernel_rfl
 h73 := by kernel_rfl
 h70 := by kernel_rfl
 h87 := by kernel_rfl
 h85 := by kernel_rfl
 h56 := by kernel_rfl
 h88 := by kernel_rfl
 h57 := by kernel_rfl
 h2106 := by kernel_rfl
 h89 := by kernel_rfl
 h100 := by kernel_rfl
 h60 := by kernel_rfl
instance : CTwos tab where
 h92 := by kernel_rfl
 h94 := by kernel_rfl
instance : CQuot tab where
 h90 := by kernel_rfl
 h119 := by kernel_rfl
 h120 := by kernel_rfl
 h121 := by kernel_rfl
 h93 := by kernel_rfl
instance : CQuotD tab where
 h2071 := by kernel_rfl
 h2092 := by kernel_rfl
 h62 := by kernel_rfl
instance : CDigits tab where
 h98 := by kernel_rfl
 h123 := by kernel_rfl
 h64 := by kernel_rfl
 h101 := by kernel_rfl
 h99 := by kernel_rfl
 h65 := by kernel_rfl
instance : CText tab where
 h68 := by kernel_rfl
instance : CTrim tab where
 h103 := by kernel_rfl
 h125 := by kernel_rfl
instance : CWhole tab where
 h55 := by kernel_rfl
 h38 := by kernel_rfl
 h40 := by kernel_rfl
 h23 := by kernel_rfl
 h25 := by kernel_rfl
 h27 := by kernel_rfl
 h37 := by kernel_rfl
 h41 := by kernel_rfl
 h36 := by kernel_rfl
 h29 := by kernel_rfl
 h34 := by kernel_rfl
 h32 := by kernel_rfl
instance : CCommon tab where
 h198 := by kernel_rfl
 h199 := by kernel_rfl
 h200 := by kernel_rfl
 h201 := by kernel_rfl
instance : CFrac tab where
 h202 := by kernel_rfl
 h203 := by kernel_rfl
 h205 := by kernel_rfl
 h207 := by kernel_rfl
 h209 := by kernel_rfl
 h210 := by kernel_rfl
 h212 := by kernel_rfl
 h215 := by kernel_rfl
 h217 := by kernel_rfl
 h218 := by kernel_rfl
instance : CFrac2 tab where
 h204 := by kernel_rfl
 h206 := by kernel_rfl
 h214 := by kernel_rfl
 h222 := by kernel_rfl
instance : CStr tab where
 h343 := by kernel_rfl
 h344 := by kernel_rfl
instance : CSplit tab where
 h345 := by kernel_rfl
instance : CPow tab where
 h258 := by kernel_rfl
 h356 := by kernel_rfl
 h357 := by kernel_rfl
instance : CFig tab where
 h252 := by kernel_rfl
 h253 := by kernel_rfl
 h254 := by kernel_rfl
 h255 := by kernel_rfl
 h256 := by kernel_rfl
 h257 := by kernel_rfl
instance : CJoin tab where
instance : CRow tab where
 h251 := by kernel_rfl
 h263 := by kernel_rfl
 h264 := by kernel_rfl
 h266 := by kernel_rfl
instance : CRow2 tab where
instance : CRef02 tab where
 h43 := by kernel_rfl
 h84 := by kernel_rfl
 h52 := by kernel_rfl
 h58 := by kernel_rfl
 h59 := by kernel_rfl
instance : CRef04 tab where
 h43 := by kernel_rfl
 h84 := by kernel_rfl
 h52 := by kernel_rfl
 h58 := by kernel_rfl
 h59 := by kernel_rfl
 h61 := by kernel_rfl
instance : CRef05 tab where
 h43 := by kernel_rfl
 h84 := by kernel_rfl
 h52 := by kernel_rfl
 h58 := by kernel_rfl
 h59 := by kernel_rfl
 h61 := by kernel_rfl
 h122 := by kernel_rfl
 h95 := by kernel_rfl
 h96 := by kernel_rfl
 h97 := by kernel_rfl
 h63 := by kernel_rfl
instance : CRef07 tab where
 h43 := by kernel_rfl
 h84 := by kernel_rfl
 h52 := by kernel_rfl
 h58 := by kernel_rfl
 h59 := by kernel_rfl
 h61 := by kernel_rfl
 h122 := by kernel_rfl
 h95 := by kernel_rfl
 h96 := by kernel_rfl
 h97 := by kernel_rfl
 h63 := by kernel_rfl
 h2043 := by kernel_rfl
 h105 := by kernel_rfl
 h69 := by kernel_rfl
instance : CRef06 tab where
 h224 := by kernel_rfl
 h225 := by kernel_rfl
 h226 := by kernel_rfl
 h227 := by kernel_rfl
 h228 := by kernel_rfl
 h229 := by kernel_rfl
 h230 := by kernel_rfl
 h2097 := by kernel_rfl
instance : CRef08 tab where
 h43 := by kernel_rfl
 h84 := by kernel_rfl
 h52 := by kernel_rfl
 h58 := by kernel_rfl
 h59 := by kernel_rfl
 h61 := by kernel_rfl
 h122 := by kernel_rfl
 h95 := by kernel_rfl
 h96 := by kernel_rfl
 h97 := by kernel_rfl
 h63 := by kernel_rfl
 h2043 := by kernel_rfl
 h105 := by kernel_rfl
 h69 := by kernel_rfl
 h39 := by kernel_rfl
 h21 := by kernel_rfl
 h30 := by kernel_rfl
 h26 := by kernel_rfl
 h24 := by kernel_rfl
 h28 := by kernel_rfl
 h31 := by kernel_rfl
 h35 := by kernel_rfl
 h33 := by kernel_rfl
instance : CRef09 tab where
 h231 := by kernel_rfl
 h234 := by kernel_rfl
 h246 := by kernel_rfl
 h247 := by kernel_rfl
instance : CRef10 tab where
 h259 := by kernel_rfl
 h260 := by kernel_rfl
 h262 := by kernel_rfl
instance : CRef11 tab where
instance : CRef11b tab where
instance : CLaw09 tab where
 h248 := by kernel_rfl
instance : CLaw11 tab where
instance : CLaw10 tab where
 h317 := by kernel_rfl
 h333 := by kernel_rfl
instance : CLenD tab where
end Go.Proofs.YtoogmjnkclcjjaaGreatDoor
end

section
namespace Go.Proofs
open Go.RowKit
theorem Tryz.sizeBuilder : (Tryz.prog.info? 89).map (·.size) = some 2 := by kernel_rfl
theorem Tryz.liesBuilder : liesAt Tryz.prog Tryz.prog.depth 89 (2 / Tryz.prog.cellsOf 89) 0 89 1 = true := by kernel_rfl
theorem Tryz.infoByte : (Tryz.prog.info? 5).map (fun i => (i.zero, i.size, i.bytes)) = some (some (.int .u8 0), 1, 1) := by kernel_rfl
theorem Tryz.cellsByte : Tryz.prog.cellsOf 5 = 1 := by kernel_rfl
set_option maxHeartbeats 1000000 in
set_option maxRecDepth 100000 in
theorem Tryz.bString (B b : Nat) (l : List UInt8) (w : World) (h : Lib.IsBuilder 89 5 B b (Lib.byteCells l) w) (h0 : l ≠ []) :
  Calls Tryz.prog 59 #[.pointer (some ⟨b, 0, none⟩)] w fun e w' => e = .returned (.string ⟨l.toArray⟩) ∧ Below B w w' := by
 obtain ⟨p, hB, v, hbk, hown, hne⟩ : ∃ p, Lib.BuilderAt 89 5 B b p (Lib.byteCells l) w := by
  rcases h with h | h
  ·exact ⟨_, h⟩
  ·exact ⟨_, h⟩
 have hl0 : l.length ≠ 0 := by simpa using h0
 rw [Lib.byteCells_length] at hown
 obtain ⟨g, cap, cur, rfl, hbg, hg, hnc, hcm, hcs, htake⟩ : ∃ g cap cur, v = .slice (some ⟨g, 0, none⟩) l.length cap ∧ B ≤ g ∧ w.heap[g]? = some (.cells cur 5 (0, 0)) ∧ l.length ≤ cap ∧ cap ≤ maxLen ∧ cur.size = cap * 1 ∧ cur.toList.take (l.length * 1) = Lib.byteCells l := by
  rcases hown.2 with ⟨_, hz⟩ | ⟨g, cap, cur, hv, r⟩
  ·exact absurd hz hl0
  ·exact ⟨g, cap, cur, hv, r⟩
 have c1 : w.drew.cell? ⟨b, 1, none⟩ = some (.slice (some ⟨g, 0, none⟩) l.length cap) := by
  have : w.drew.heap[b]? = some (.cells #[p, .slice (some ⟨g, 0, none⟩) l.length cap] 89 (0, 0)) := hbk
  rw [Lib.cell_of_heap this]; rfl
 have hSD : (Builtin.unsafeSliceData_ #[87] 137 #[.slice (some ⟨g, 0, none⟩) l.length cap]).run Tryz.prog w.drew = .ok (.pointer (some ⟨g, 0, none⟩)) w.drew :=
  Lib.run_unsafeSliceData_row _ _ _ _ _ _ (by omega)
 have hUS : (Builtin.unsafeString_ #[137, 3] 9 #[.pointer (some ⟨g, 0, none⟩), .int .i64 l.length]).run Tryz.prog w.drew = .ok (.string ⟨l.toArray⟩) (w.drew.freeze ⟨g, 0, none⟩ l.length) := by
  refine Lib.run_unsafeString_row w.drew 137 3 9 5 Tryz.underlying137 Tryz.cellsByte g cur.size (by have hg' : w.drew.heap[g]? = some (.cells cur 5 (0, 0)) := hg; simp [World.shape?, hg']) l h0 (by omega) (by unfold maxLen at hcm; omega) ?_
  intro j x hx
  have := hown.cells (g := g) rfl j (.int .u8 x.toNat) (by simp [Lib.byteCells, hx])
  exact this
 go_enter Tryz.func59, Tryz.ntmps59
 go_wp2
 go_region
 all_goals (go_wp2; go_ret; exact ⟨rfl, Lib.below_freeze (Below.drew (Below.refl B w)) (p := ⟨g, 0, none⟩) hbg _⟩)
set_option maxHeartbeats 1000000 in
set_option maxRecDepth 100000 in
theorem Tryz.bCheck_used (b : Nat) (w : World) (h0 : w.cell? ⟨b, 0, none⟩ = some (.pointer (some ⟨b, 0, none⟩))) :
  Calls Tryz.prog 94 #[.pointer (some ⟨b, 0, none⟩)] w fun e w' => e = .returned (.tuple #[]) ∧ w' = w := by
 obtain ⟨j, hj, _⟩ := Option.map_eq_some_iff.1 Tryz.sizeBuilder
 go_enter Tryz.func94, Tryz.ntmps94
 go_wp2
 rw [Lib.run_neq_ptr_same w _ Tryz.underlying86 hj]
 go_wp2
 go_end0
 exact ⟨rfl, rfl⟩
set_option maxHeartbeats 1000000 in
set_option maxRecDepth 100000 in
theorem Tryz.bCheck_fresh (b : Nat) (w : World) (h0 : w.cell? ⟨b, 0, none⟩ = some (.pointer none)) (hsh : w.shape? b = some (89, 2)) (hfz : w.frozen? ⟨b, 0, none⟩ = false) :
  Calls Tryz.prog 94 #[.pointer (some ⟨b, 0, none⟩)] w fun e w' => e = .returned (.tuple #[]) ∧ w' = w.setCell ⟨b, 0, none⟩ (.pointer (some ⟨b, 0, none⟩)) := by
 obtain ⟨j, hj, hjs⟩ := Option.map_eq_some_iff.1 Tryz.sizeBuilder
 go_enter Tryz.func94, Tryz.ntmps94
 go_wp2
 rw [Lib.run_to_unsafe w ⟨b, 0, none⟩ Tryz.underlying86 Tryz.underlying153 hj (by rw [hjs]; decide) hsh (Nat.zero_lt_succ 1)]
 simp only [Result.andThen]
 rw [Oper.upon_value]
 go_wp2
 rw [run_callFunc_extern Tryz.func126 (by kernel_rfl) (by kernel_rfl) (by kernel_rfl) (e := Extern.AbiNoEscape.same) (by kernel_rfl)]
 rw [Lib.run_noEscape]
 simp only [Result.andThen]
 rw [Oper.upon_value]
 go_wp2
 rw [Lib.run_from_unsafe w ⟨b, 0, none⟩ Tryz.underlying153 Tryz.underlying86 hj hsh Tryz.liesBuilder]
 simp only [Result.andThen]
 rw [Oper.upon_value]
 go_wp2
 go_end0
 exact ⟨rfl, rfl⟩
theorem Tryz.bCheck (B b : Nat) (bs : List Value) (w : World) (h : Lib.IsBuilder 89 5 B b bs w) :
  Calls Tryz.prog 94 #[.pointer (some ⟨b, 0, none⟩)] w fun e w' => e = .returned (.tuple #[]) ∧ (Lib.BuilderAt 89 5 B b (.pointer (some ⟨b, 0, none⟩)) bs w' ∧ Below B w w') := by
 rcases h with h | h
 ·refine (Tryz.bCheck_fresh b w h.cell0 h.shape h.frozen0).mono ?_
  rintro e w' ⟨rfl, rfl⟩
  exact ⟨rfl, h.used _, (Below.refl B w).setCell (p := ⟨b, 0, none⟩) h.1 _⟩
 ·refine (Tryz.bCheck_used b w h.cell0).mono ?_
  rintro e w' ⟨rfl, rfl⟩
  exact ⟨rfl, h, Below.refl B _⟩
set_option maxHeartbeats 2000000 in
set_option maxRecDepth 100000 in
theorem Tryz.bWrite (B b : Nat) (bs : List Value) (s : ByteArray) (w : World) (h : Lib.IsBuilder 89 5 B b bs w) (hlen : bs.length + s.size ≤ 140737488355328) (hBw : B ≤ w.heap.size) :
  Calls Tryz.prog 57 #[.pointer (some ⟨b, 0, none⟩), .string s] w fun e w' => e = .returned (.tuple #[.int .i64 s.size, .nilIface]) ∧ (Lib.BuilderAt 89 5 B b (.pointer (some ⟨b, 0, none⟩)) (bs ++ Lib.strCells s) w' ∧ Below B w w') := by
 obtain ⟨i0, hi, hz0, hz1, hz2⟩ := info_parts Tryz.infoByte
 go_enter Tryz.func57, Tryz.ntmps57
 go_wp2_with (go_at_call 94; refine (Tryz.bCheck B b bs _ h).mono ?_)
 rintro e w1 ⟨rfl, h1, hb1⟩
 obtain ⟨hB, v, hbk, hown, hne⟩ := h1
 have c0 : w1.cell? ⟨b, 0, none⟩ = some (.pointer (some ⟨b, 0, none⟩)) := by rw [Lib.cell_of_heap hbk]; rfl
 have c1 : w1.cell? ⟨b, 1, none⟩ = some v := by rw [Lib.cell_of_heap hbk]; rfl
 go_wp2_with (at_builtin; refine Lib.wpList_append_own_string _ rfl _ _ 87 9 rfl B 5 i0 Tryz.underlying87 Tryz.underlying9 hi hz0 hz1 hz2 _ _ _ rfl hown s rfl ?c3 ?c4 ?c5 ?_)
 case c3 => unfold maxLen; omega
 case c4 => omega
 case c5 => have := hb1.size; omega
 intro v' w2 hown' hgrow _
 have hlt : b < w1.heap.size := by
  rcases Nat.lt_or_ge b w1.heap.size with h' | h'
  ·exact h'
  ·simp [Array.getElem?_eq_none h'] at hbk
 have hb2 : w2.heap[b]? = some (.cells #[.pointer (some ⟨b, 0, none⟩), v] 89 (0, 0)) := by
  rw [hgrow.block b hlt (fun e => hne e.symm)]
  exact hbk
 have d0 : w2.cell? ⟨b, 0, none⟩ = some (.pointer (some ⟨b, 0, none⟩)) := by rw [Lib.cell_of_heap hb2]; rfl
 have d1 : w2.cell? ⟨b, 1, none⟩ = some v := by rw [Lib.cell_of_heap hb2]; rfl
 have f1 : w2.frozen? ⟨b, 1, none⟩ = false := Lib.frozen_of_heap hb2 1
 obtain ⟨ao, n', cap, rfl⟩ : ∃ ao n' cap, v' = .slice ao n' cap := by
  rcases hown'.2 with ⟨hv, _⟩ | ⟨g, cap, cur, hv, _⟩
  ·exact ⟨_, _, _, hv⟩
  ·exact ⟨_, _, _, hv⟩
 go_wp2
 go_ret2
 refine ⟨rfl, ?_, ?_⟩
 ·exact Lib.BuilderAt.put (T := 89) (e := 5) hB hb2 (bs' := bs ++ Lib.strCells s) (by simpa [Lib.strCells_length] using hown') (by decide)
 ·exact (hb1.grown hgrow (by have := hb1.size; omega) (fun k hk => (hown.lt k hk).1)).setCell (p := ⟨b, 1, none⟩) hB _
end Go.Proofs
end

section
namespace Go.Ab
def pieces (n : Nat) : List (List UInt8) := if h : n = 0 then [] else digK 9 (n % 1000000000) :: pieces (n / 1000000000)
termination_by n
decreasing_by exact Nat.div_lt_self (Nat.pos_of_ne_zero h) (by decide)
theorem pieces_zero : pieces 0 = [] := by unfold pieces; simp
theorem pieces_pos {n : Nat} (h : n ≠ 0) : pieces n = digK 9 (n % 1000000000) :: pieces (n / 1000000000) := by
 conv => lhs; unfold pieces
 rw [dif_neg h]
def rowsS (l : List (List UInt8)) : List (List AV) := l.map fun s => [.s s]
@[simp] theorem rowsS_length (l : List (List UInt8)) : (rowsS l).length = l.length := by simp [rowsS]
@[simp] theorem rowsS_wk (l : List (List UInt8)) : wkL (rowsS l) = rowsS l := by
 induction l with
 | nil => rfl
 | cons x l ih => simpa [rowsS, wkL, wkR] using ih
@[simp] theorem rowsS_rf (l : List (List UInt8)) : ((rowsS l).flatMap fun r => r.flatMap rfA) = [] := by
 induction l with
 | nil => rfl
 | cons x l ih => simp [rowsS, rfA]
theorem rowsS_app (l : List (List UInt8)) (s : List UInt8) : rowsS l ++ [[.s s]] = rowsS (l ++ [s]) := by simp [rowsS]
def txL : AX :=
 (.note
 (.seq
 (.seq
  (.reg [⟨(some 11), none, .mov (.t 0)⟩,
   ⟨(some 12), none, .call 70 [(.t 11)]⟩,
   ⟨(some 13), none, .un .not (.t 12)⟩])
  (.cond (.t 13)
  .skip
  (.exit 0)))
 (.block 1
  (.seq
  (.reg [⟨(some 15), none, .mov (.t 0)⟩,
   ⟨(some 16), none, .call 90 [(.t 15), (.c (u32 1000000000))]⟩,
   ⟨(some 14), none, .mov (.t 16)⟩,
   ⟨(some 17), none, .ext (.t 14) 0⟩,
   ⟨(some 18), none, .ext (.t 14) 1⟩,
   ⟨(some 19), none, .ext (.t 14) 2⟩,
   ⟨(some 4), none, .mov (.t 17)⟩,
   ⟨(some 5), none, .mov (.t 18)⟩,
   ⟨(some 6), none, .mov (.t 19)⟩])
  (.seq
   (.reg [⟨(some 20), none, .mov (.t 3)⟩,
    ⟨(some 21), none, .mov (.t 5)⟩,
    ⟨(some 22), none, .call 101 [(.t 21)]⟩,
    ⟨(some 23), none, .bsl 1 [(.s [])] 1 [(0, (.t 22))]⟩,
    ⟨(some 24), none, .app 1 (.t 20) (.t 23)⟩,
    ⟨(some 3), none, .mov (.t 24)⟩])
   (.reg [⟨(some 25), none, .mov (.t 4)⟩,
    ⟨(some 0), none, .mov (.t 25)⟩])))))
 (.norm false [0, 3]))
def tx0 : AX := (.reg [⟨(some 2), none, .mov (.c (.s []))⟩])
def txA : AX :=
  (.seq
  (.reg [⟨(some 9), none, .mov (.t 0)⟩,
   ⟨(some 10), none, .call 70 [(.t 9)]⟩])
  (.cond (.t 10)
   (.seq
   (.reg [⟨(some 2), none, .mov (.c (.s [48]))⟩])
   (.pre (.norm false [2]) .ret))
   .skip))
def tx3 : AX := (.note (.reg [⟨(some 3), none, .mov (.c (.sl [] .nl))⟩]) (.nil 3 1))
def txP : AX := (.lp 0 (.norm false [0, 3]) txL (.norm false [3]))
section
variable {T : Tbl}
theorem txt_0 (x : AV) : evX (orc T) T 0 tx0 ⟨argEnv [x], [], 1⟩ = some (.n, ⟨[(2, .s []), (0, x)], [], 1⟩) := by
 simp -implicitDefEqProofs [tx0]
end
section
variable {T : Tbl} [CNat T]
theorem txt_A0 (a : List UInt32) (hl : a.length ≤ 1000) (h0 : val a = 0) : evX (orc T) T 0 txA ⟨[(2, .s []), (0, .sl (u32s a) .an)], [], 1⟩ = some (.r, ⟨[(2, .s [48])], [], 2⟩) := by
 have hz := nat_zero (T := T) a (by omega)
 simp -implicitDefEqProofs [txA, hz, h0]
end
section
variable {T : Tbl} [CNat T]
theorem txt_A1 (a : List UInt32) (hl : a.length ≤ 1000) (h0 : val a ≠ 0) : evX (orc T) T 0 txA ⟨[(2, .s []), (0, .sl (u32s a) .an)], [], 1⟩ =
  some (.n, ⟨[(10, .b false), (9, .sl (u32s a) .an), (2, .s []), (0, .sl (u32s a) .an)], [], 1⟩) := by
 have hz := nat_zero (T := T) a (by omega)
 simp -implicitDefEqProofs [txA, hz, h0]
end
section
variable {T : Tbl} [CNat T] [CProd T] [CTwos T] [CQuot T] [CDigits T]
def stTp (a : List UInt32) (l : List (List UInt8)) : St := ⟨[(0, .sl (u32s a) .an), (3, .bs (.loc 3) 1 1 0 l.length)], [((.loc 3), ⟨1, .own, 1, rowsS l⟩)], 3⟩
theorem rowsS_take (l : List (List UInt8)) (s : List UInt8) : wkL (List.take l.length (rowsS l) ++ [[AV.s s]]) = rowsS (l ++ [s]) := by
 rw [List.take_of_length_le (by simp), rowsS_app, rowsS_wk]
end
section
variable {T : Tbl} [CNat T] [CQuot T] [CDigits T]
theorem txt_loop (N : Nat) (hN : N ≤ 4294967295) (L : List (List UInt8)) : ∀ y : List UInt32 × List (List UInt8), (y.1.length ≤ 1000 ∧ y.2 ++ pieces (val y.1) = L ∧ L.length = N) →
  loopN T 0 0 (Gh.norm false [3]) txL (stTp y.1 y.2) = some (.n, ⟨[(3, .bs (.loc 3) 1 1 0 L.length)], [((.loc 3), ⟨1, .own, 1, rowsS L⟩)], 3⟩) := by
 refine loopN_eq (fun y : List UInt32 × List (List UInt8) => stTp y.1 y.2) _ (fun y => val y.1) _ ?_
 rintro ⟨a, l⟩ ⟨ha, hL, hn⟩
 simp only at ha hL hn
 have hz := nat_zero (T := T) a (by omega)
 by_cases h0 : val a = 0
 ·right
  rw [h0, pieces_zero, List.append_nil] at hL
  subst hL
  constructor <;> simp -implicitDefEqProofs [txL, stTp, hz, h0]
 ·left
  have hq := quot_word (T := T) a 1000000000 (by omega) (by omega) (by omega)
  have hn9 := digits_nine (T := T) (val a % 1000000000) (by omega)
  have hlen : (ofN (val a / 1000000000)).length ≤ a.length := Nat.le_trans (ofN_len_le (Nat.div_le_self _ _)) (ofN_length_le a)
  rw [pieces_pos h0] at hL
  have hll : l.length ≤ 4294967295 := by have := congrArg List.length hL; simp at this; omega
  refine ⟨(ofN (val a / 1000000000), l ++ [digK 9 (val a % 1000000000)]), ⟨by simp only; omega, by simp only [val_ofN, List.append_assoc, List.singleton_append]; exact hL, hn⟩, ?_, ?_, rfl⟩
  ·simp only [val_ofN]
   exact Nat.div_lt_self (Nat.pos_of_ne_zero h0) (by decide)
  ·simp -implicitDefEqProofs [txL, stTp, hz, hq, hn9, h0, hll, rowsS_take]
end
section
variable {T : Tbl} [CNat T] [CProd T] [CTwos T] [CQuot T] [CDigits T]
theorem pieces_length : ∀ k n, n < 1000000000 ^ k → (pieces n).length ≤ k
 | 0, n, h => by
  have : n = 0 := by omega
  subst this
  simp [pieces_zero]
 | k + 1, n, h => by
  by_cases h0 : n = 0
  ·subst h0; simp [pieces_zero]
  ·rw [pieces_pos h0]
   have := pieces_length k (n / 1000000000) (Nat.div_lt_of_lt_mul (by rw [Nat.mul_comm, ← Nat.pow_succ]; exact h))
   simp only [List.length_cons]
   omega
theorem pieces_le (a : List UInt32) : (pieces (val a)).length ≤ 2 * a.length := by
 refine pieces_length _ _ (Nat.lt_of_lt_of_le (val_lt a) ?_)
 rw [Nat.pow_mul]
 exact Nat.pow_le_pow_left (by decide) _
theorem pieces_nine : ∀ n, ∀ s ∈ pieces n, s.length = 9 := by
 intro n
 induction n using Nat.strongRecOn with
 | _ n ih =>
  intro s hs
  by_cases h0 : n = 0
  ·subst h0; simp [pieces_zero] at hs
  ·rw [pieces_pos h0] at hs
   rcases List.mem_cons.1 hs with rfl | hs
   ·exact digK_length 9 _
   ·exact ih _ (Nat.div_lt_self (Nat.pos_of_ne_zero h0) (by decide)) s hs
theorem digK_textN : ∀ (k n : Nat), n ≠ 0 → n < 10 ^ k → (digK k n).dropWhile (· == 48) = textN n
 | 0, n, h0, h => by omega
 | k + 1, n, h0, h => by
  rw [digK_succ]
  by_cases h1 : n < 10
  ·have e : n / 10 = 0 := by omega
   have e2 : n % 10 = n := by omega
   have hz : ∀ j, (digK j 0).dropWhile (· == 48) = [] := by
    intro j
    induction j with
    | zero => rfl
    | succ j ih => rw [digK_succ, List.dropWhile_append, Nat.zero_div, ih]; rfl
   rw [e, e2, List.dropWhile_append, hz, textN_small h1]
   have : ∀ d, d < 10 → d ≠ 0 → List.dropWhile (fun x => x == 48) [UInt8.ofNat (48 + d)] = [UInt8.ofNat (48 + d)] := by decide
   simpa using this n h1 h0
  ·have ih := digK_textN k (n / 10) (by omega) (Nat.div_lt_of_lt_mul (by rw [Nat.mul_comm, ← Nat.pow_succ]; exact h))
   have hne : textN (n / 10) ≠ [] := by
    unfold textN
    by_cases h2 : n / 10 < 10
    ·rw [digs_small h2]; simp
    ·rw [digs_big h2]; simp
   rw [List.dropWhile_append, ih, textN_big h1]
   rw [if_neg (by simpa using hne)]
theorem digK_add (j : Nat) : ∀ (k n : Nat), digK (j + k) n = digK j (n / 10 ^ k) ++ digK k (n % 10 ^ k)
 | 0, n => by simp [digK_zero]
 | k + 1, n => by
  rw [← Nat.add_assoc, digK_succ, digK_add j k (n / 10), digK_succ, List.append_assoc]
  have e1 : n / 10 / 10 ^ k = n / 10 ^ (k + 1) := by rw [Nat.div_div_eq_div_mul, Nat.pow_succ, Nat.mul_comm]
  have e2 : n / 10 % 10 ^ k = n % 10 ^ (k + 1) / 10 := by rw [Nat.pow_succ, Nat.mul_comm, Nat.mod_mul_right_div_self]
  have e3 : n % 10 ^ (k + 1) % 10 = n % 10 := by rw [Nat.pow_succ, Nat.mod_mul_left_mod]
  rw [e1, e2, e3]
theorem pieces_join : ∀ n, (pieces n).reverse.flatten = digK (9 * (pieces n).length) n := by
 intro n
 induction n using Nat.strongRecOn with
 | _ n ih =>
  by_cases h0 : n = 0
  ·subst h0; simp [pieces_zero, digK_zero]
  ·rw [pieces_pos h0, List.reverse_cons, List.flatten_append, ih _ (Nat.div_lt_self (Nat.pos_of_ne_zero h0) (by decide))]
   simp only [List.length_cons, List.flatten_cons, List.flatten_nil, List.append_nil]
   rw [show 9 * ((pieces (n / 1000000000)).length + 1) = 9 * (pieces (n / 1000000000)).length + 9 by omega, digK_add]
theorem pieces_lt : ∀ n, n < 10 ^ (9 * (pieces n).length) := by
 intro n
 induction n using Nat.strongRecOn with
 | _ n ih =>
  by_cases h0 : n = 0
  ·subst h0; simp [pieces_zero]
  ·have h := ih _ (Nat.div_lt_self (Nat.pos_of_ne_zero h0) (by decide : 1 < 1000000000))
   rw [pieces_pos h0, List.length_cons, Nat.mul_add, Nat.pow_add]
   exact (Nat.div_lt_iff_lt_mul (by decide : 0 < 10 ^ (9 * 1))).1 h
theorem pieces_text (n : Nat) (h : n ≠ 0) : ((pieces n).reverse.flatten).dropWhile (· == 48) = textN n := by
 rw [pieces_join]
 exact digK_textN _ n h (pieces_lt n)
theorem flatten_nine : ∀ (l : List (List UInt8)), (∀ s ∈ l, s.length = 9) → l.flatten.length = 9 * l.length
 | [], _ => rfl
 | s :: l, h => by
  rw [List.flatten_cons, List.length_append, h s List.mem_cons_self, flatten_nine l fun s hs => h s (List.mem_cons_of_mem _ hs), List.length_cons]
  omega
def stT3 (a : List UInt32) : St := ⟨[(3, .bs (.loc 3) 1 1 0 0), (3, .sl [] .nl), (10, .b false), (9, .sl (u32s a) .an), (2, .s []), (0, .sl (u32s a) .an)], [(.loc 3, ⟨1, .own, 1, []⟩)], 2⟩
end
section
variable {T : Tbl}
theorem txt_3 (a : List UInt32) : evX (orc T) T 0 tx3 ⟨[(10, .b false), (9, .sl (u32s a) .an), (2, .s []), (0, .sl (u32s a) .an)], [], 1⟩ = some (.n, stT3 a) := by
 simp -implicitDefEqProofs [tx3, stT3]
end
section
variable {T : Tbl} [CNat T] [CQuot T] [CDigits T]
theorem txt_P (a : List UInt32) (hl : a.length ≤ 1000) : evX (orc T) T 0 txP (stT3 a) =
  some (.n, ⟨[(3, .bs (.loc 3) 1 1 0 (pieces (val a)).length)], [((.loc 3), ⟨1, .own, 1, rowsS (pieces (val a))⟩)], 3⟩) := by
 have hp := pieces_le a
 have h := txt_loop (T := T) (pieces (val a)).length (by omega) (pieces (val a)) (a, []) ⟨by simpa using hl, rfl, rfl⟩
 unfold stTp at h
 simp [rowsS] at h
 simp -implicitDefEqProofs [stT3, txP, h, rowsS]
end
end Go.Ab
end

section
namespace Go.Ab
section
variable {T : Tbl}
theorem trimL_loop (res : List UInt8) : ∀ l : List UInt8, (l.length ≤ 1000000 ∧ l.dropWhile (· == 48) = res) →
  loopN T 0 0 (.norm false [0]) l125_0 ⟨[(0, .s l), (1, u8 48)], [], 2⟩ = some (.n, ⟨[(0, .s res)], [], 2⟩) := by
 refine loopN_eq (fun l : List UInt8 => ⟨[(0, .s l), (1, u8 48)], [], 2⟩) _ (fun l => l.length) _ ?_
 rintro l ⟨hl, hr⟩
 cases l with
 | nil =>
  right
  simp at hr
  subst hr
  constructor <;> simp -implicitDefEqProofs [l125_0]
 | cons c r =>
  simp only [List.length_cons] at hl
  have h2 : (0 : Int) < (r.length : Int) + 1 := by omega
  have h3 : (1 : Int) ≤ (r.length : Int) + 1 := by omega
  by_cases hc : c = 48
  ·left
   subst hc
   rw [List.dropWhile_cons_of_pos (by decide)] at hr
   exact ⟨r, ⟨by omega, hr⟩, Nat.lt_succ_self _, by simp -implicitDefEqProofs [l125_0, h2, h3], rfl⟩
  ·right
   rw [List.dropWhile_cons_of_neg (by simpa using hc)] at hr
   subst hr
   have hc' : ¬ c.toNat = 48 := fun h => hc (UInt8.toNat_inj.1 h)
   constructor <;> simp -implicitDefEqProofs [l125_0, h2, hc']
end
section
variable {T : Tbl} [CTrim T]
theorem trim_left (l : List UInt8) (hl : l.length ≤ 1000000) : callF T 103 [.s l, .s [48]] = some (.s (l.dropWhile (· == 48))) := by
 have h := trimL_loop (T := T) _ l ⟨hl, rfl⟩
 have h1 : callF T 125 [.s l, u8 48] = some (.s (l.dropWhile (· == 48))) := by
  rw [f125 _ rfl, b125]
  simp -implicitDefEqProofs [h]
 obtain ⟨Z, hZ⟩ : ∃ Z, b103 = (.seq
 (.reg [⟨(some 4), none, .mov (.c (.s []))⟩])
 (.seq
  (.seq
  (.reg [⟨(some 7), none, .mov (.t 0)⟩,
   ⟨(some 8), none, .bin .eql (.t 7) (.c (.s []))⟩,
   ⟨(some 9), none, .mov (.t 8)⟩,
   ⟨(some 10), (some (9, false)), .mov (.t 1)⟩,
   ⟨(some 11), (some (9, false)), .bin .eql (.t 10) (.c (.s []))⟩,
   ⟨(some 12), none, .pick (.t 9) (.c (.b true)) (.t 11)⟩])
  (.cond (.t 12)
   (.seq
   (.reg [⟨(some 13), none, .mov (.t 0)⟩,
    ⟨(some 4), none, .mov (.t 13)⟩])
   (.pre (.norm false [4]) .ret))
   .skip))
  (.seq
  (.seq
   (.reg [⟨(some 14), none, .mov (.t 1)⟩,
    ⟨(some 15), none, .lens (.t 14)⟩,
    ⟨(some 16), none, .bin .eql (.t 15) (.c (.i .i64 1))⟩,
    ⟨(some 17), none, .mov (.t 16)⟩,
    ⟨(some 18), (some (17, true)), .mov (.t 1)⟩,
    ⟨(some 19), (some (17, true)), .ixs (.t 18) (.c (.i .i64 0))⟩,
    ⟨(some 20), (some (17, true)), .bin .lss (.t 19) (.c (u8 128))⟩,
    ⟨(some 21), none, .pick (.t 17) (.t 20) (.c (.b false))⟩])
   (.cond (.t 21)
   (.seq
    (.reg [⟨(some 22), none, .mov (.t 0)⟩,
     ⟨(some 23), none, .mov (.t 1)⟩,
     ⟨(some 24), none, .ixs (.t 23) (.c (.i .i64 0))⟩,
     ⟨(some 25), none, .call 125 [(.t 22), (.t 24)]⟩,
     ⟨(some 4), none, .mov (.t 25)⟩])
    (.pre (.norm false [4]) .ret))
   .skip)) Z)) : AX) := ⟨_, rfl⟩
 rw [f103 _ rfl, hZ]
 by_cases h0 : l = []
 ·subst h0
  simp -implicitDefEqProofs
 ·simp -implicitDefEqProofs [h0, h1]
end
end Go.Ab
end

section
namespace Go.Ab
variable {P : Program} {ν : Nat → FuncId} {T : Tbl}
theorem ev_wp (hT : TOk P ν T) (hm : P.follows .mixedOrders = true) {cx : Cx} (hP : cx.P = P) (hk : cx.clk0 = 1) (c : AX) {code : Code} {nt : Nat} (hnt : cx.nt = nt) (hres : resCode P nt code = some (er ν (tyNum T) c)) {st : St} {e : Ex} {st' : St}
  (h : evX (orc T) T 0 c st = some (e, st')) {a : Act} {w : World} (hr : Rel cx st a w) {K : Exit → Act → World → Prop} (hK : ∀ a' w', Rel cx st' a' w' → K e.out a' w') : code.wp P K a w := by
 obtain ⟨L, h1, h2⟩ := evX_fin T 0 c st _ _ h
 obtain ⟨n, hn⟩ := orc_all T h1
 have hev := evX_sound (GoodO.orcN hT hm n) (k := 0) (cx := cx) hP hk c st e st' (h2 _ hn)
 subst hP hnt
 refine wp_mono (hev code hres hm a w hr) ?_
 rintro ex a' w' ⟨s, ⟨rfl, rfl⟩, hr'⟩
 exact hK a' w' hr'
theorem start_rel {nt : Nat} {w : World} {S : Nat → Nat → Prop} {cargs : Array Value} {args : List AV} (hl : cargs.size = args.length) (hn : args.length ≤ nt)
  (hC : ∀ (j : Nat) (v : Value) (c : AV), cargs[j]? = some v → args[j]? = some c → CP w S v c) (hS : ∀ k o, S k o → k < w.heap.size) :
  Rel ⟨P, nt, w, S, fun _ => none, 1⟩ ⟨argEnv args, [], 1⟩ { tmps := cargs ++ Array.replicate (nt - cargs.size) undef, defers := [] } w := by
 refine ⟨S, fun _ => none, by simp; omega, rfl, fun t => ?_, ⟨⟨fun b bx hb => (by simp at hb), fun g m hm => (by cases hm), fun b bx b' bx' h1 => (by simp at h1), fun g g' k h1 => (by cases h1)⟩,
  Ext.refl _ _ _ _, ⟨rfl, rfl, rfl, Nat.le_refl _, fun _ _ _ => rfl⟩, fun k o hs => .inl hs, hS, fun g k hm => (by cases hm)⟩⟩
 rw [argEnv_get]
 cases ha : args[t]? with
 | none => exact .p (.dead _)
 | some x =>
  have htl := get_lt ha
  have hv : cargs[t]? = some (cargs[t]'(by omega)) := Array.getElem?_eq_getElem _
  have e1 : (cargs ++ Array.replicate (nt - cargs.size) undef).getD t undef = cargs[t]'(by omega) := by
   simp only [Array.getD_eq_getD_getElem?]
   rw [Array.getElem?_append_left (by omega), hv]
   rfl
  rw [e1]
  exact .p (hC t _ x hv ha)
theorem Rel.below {nt : Nat} {w0 : World} {S : Nat → Nat → Prop} {st : St} {a : Act} {w : World} (h : Rel ⟨P, nt, w0, S, fun _ => none, 1⟩ st a w) : RowKit.Below w0.heap.size w0 w := by
 obtain ⟨S', M', hr⟩ := h
 exact ⟨hr.wr.fr.os, hr.wr.fr.tape, hr.wr.fr.output, hr.wr.fr.size, fun k hk => hr.wr.fr.block k hk fun ⟨g, hg⟩ => (by cases hg)⟩
theorem Rel.strAt {cx : Cx} {st : St} {a : Act} {w : World} (h : Rel cx st a w) {t : Nat} {l : List UInt8} (he : st.env.get t = .s l) : a.tmps.getD t undef = .string ⟨l.toArray⟩ := by
 obtain ⟨S', M', hr⟩ := h
 have := hr.env t
 rw [he] at this
 generalize a.tmps.getD t undef = v at *
 cases this with
 | p h => cases h; rfl
theorem Rel.strs {cx : Cx} {st : St} {a : Act} {w : World} (h : Rel cx st a w) {t : Nat} {b : BId} {g n : Nat} {ls : List (List UInt8)} (hne : ls ≠ []) (he : st.env.get t = .bs b g 1 0 n)
  (hb : st.heap.lookup b = some ⟨g, .own, 1, ls.map fun s => [.s s]⟩) : ∃ k arr e cap, a.tmps.getD t undef = .slice (some ⟨k, 0, none⟩) n cap ∧ w.heap[k]? = some (.cells arr e (0, 0)) ∧ n ≤ cap ∧ cap ≤ maxLen ∧ cap ≤ arr.size ∧
   ∀ (i : Nat) (s : List UInt8), ls[i]? = some s → arr[i]? = some (Value.string ⟨s.toArray⟩) := by
 obtain ⟨S', M', hr⟩ := h
 have h1 := hr.env t
 rw [he] at h1
 obtain ⟨_, _, m, hm, h2⟩ := hr.wr.heap.box b _ hb
 simp only at hm h2
 generalize a.tmps.getD t undef = v at *
 cases h1 with
 | p h => cases h
 | bs _ _ _ _ _ _ hg hB h1 =>
  unfold BsOk at hB
  rw [hm] at hB
  cases m with
  | none => exact absurd (by simpa using h2.1) hne
  | some k =>
   obtain ⟨arr, e, cap, hk, hv, c1, c2, c3⟩ := hB
   obtain ⟨arr', e', hk', _, hcells, _⟩ := h2
   rw [hk] at hk'
   cases hk'
   refine ⟨k, arr, e, cap, by rw [hv], hk, c1, c2, by omega, fun i s hi => ?_⟩
   obtain ⟨u, hu, _, _, hc⟩ := hcells i [.s s] 0 (.s s) (by simp [hi]) rfl
   have := hc (by simp)
   rw [Nat.mul_one, Nat.add_zero] at hu
   cases this
   exact hu
end Go.Ab
end

section
namespace Go.Proofs.YtoogmjnkclcjjaaGreatDoor
open Go Go.Ab Go.RowKit
theorem list_cons {α : Type} {n : Nat} {l : List α} (h : l.length = n + 1) : ∃ x t, l = x :: t ∧ t.length = n := by
 cases l with
 | nil => simp at h
 | cons x t => exact ⟨x, t, rfl, by simpa using h⟩
set_option maxHeartbeats 2000000 in
set_option maxRecDepth 100000 in
theorem text_calls (hm : Tryz.prog.follows .mixedOrders = true) (a : List UInt32) (hl : a.length ≤ 1000) {w0 : World} {S : Nat → Nat → Prop} {cargs : Array Value} (hsz : cargs.size = 1)
  (hC : ∀ (j : Nat) (v : Value) (c : AV), cargs[j]? = some v → [AV.sl (u32s a) .an][j]? = some c → CP w0 S v c) (hS : ∀ k o, S k o → k < w0.heap.size) :
  Calls Tryz.prog 21 cargs w0 fun e w' => e = .returned (.string ⟨(textN (val a)).toArray⟩) ∧ Below w0.heap.size w0 w' := by
 refine calls_of_wp Tryz.func21 rfl ?_
 have h0 := start_rel (P := Tryz.prog) (nt := 40) (w := w0) (S := S) (cargs := cargs) (args := [AV.sl (u32s a) .an]) (by simpa using hsz) (by simp) hC hS
 refine wp_seq (ev_wp sTab_ok hm (cx := ⟨Tryz.prog, 40, w0, S, fun _ => none, 1⟩) rfl rfl tx0 (nt := 40) rfl (by kernel_rfl) (sTab_part.ev (by kernel_rfl) (txt_0 (T := tab) _)) h0 fun a1 w1 h1 => ?_)
 refine wp_seq ?_
 by_cases hz : val a = 0
 ·refine ev_wp sTab_ok hm (cx := ⟨Tryz.prog, 40, w0, S, fun _ => none, 1⟩) rfl rfl txA (nt := 40) rfl (by kernel_rfl) (sTab_part.ev (by kernel_rfl) (txt_A0 (T := tab) a hl hz)) h1 fun a2 w2 h2 => ?_
  have hv := h2.strAt (t := 2) (l := [48]) rfl
  have hb := h2.below
  have ht : textN (val a) = [48] := by rw [hz]; exact textN_small (by decide)
  obtain ⟨_, _, hr2⟩ := h2
  refine (show bodyPost Tryz.prog Tryz.f21 (fun e w' => e = .returned (.string ⟨(textN (val a)).toArray⟩) ∧ Below w0.heap.size w0 w') .ret a2 w2 from ?_)
  refine ⟨hr2.defers, .string ⟨[48].toArray⟩, ?_, by rw [ht], hb⟩
  rw [← hv]
  exact results_tmp rfl _ _ _
 ·refine ev_wp sTab_ok hm (cx := ⟨Tryz.prog, 40, w0, S, fun _ => none, 1⟩) rfl rfl txA (nt := 40) rfl (by kernel_rfl) (sTab_part.ev (by kernel_rfl) (txt_A1 (T := tab) a hl hz)) h1 fun a2 w2 h2 => ?_
  refine wp_seq (ev_wp sTab_ok hm (cx := ⟨Tryz.prog, 40, w0, S, fun _ => none, 1⟩) rfl rfl tx3 (nt := 40) rfl (by kernel_rfl) (sTab_part.ev (by kernel_rfl) (txt_3 (T := tab) a)) h2 fun a3 w3 h3 => ?_)
  refine wp_seq (ev_wp sTab_ok hm (cx := ⟨Tryz.prog, 40, w0, S, fun _ => none, 1⟩) rfl rfl txP (nt := 40) rfl (by kernel_rfl) (sTab_part.ev (by kernel_rfl) (txt_P (T := tab) a hl)) h3 fun a4 w4 h4 => ?_)
  have hb4 := h4.below
  have hne : pieces (val a) ≠ [] := by rw [pieces_pos hz]; simp
  obtain ⟨k, arr, e, cap, hv, hk, hc1, hc2, hc3, hcells⟩ := h4.strs (t := 3) (ls := pieces (val a)) hne rfl (by simp [rowsS])
  obtain ⟨_, _, hr4⟩ := h4
  have hdf := hr4.defers
  have hsz := hr4.size
  have hpl := pieces_le a
  clear hr4 h0 h1 h2 h3
  change Code.wp _ _ _ a4 w4
  obtain ⟨tm, df⟩ := a4
  obtain ⟨l, rfl⟩ : ∃ l : List Value, tm = l.toArray := ⟨tm.toList, by simp⟩
  simp only [List.size_toArray] at hsz
  simp only at hdf
  subst hdf
  obtain ⟨x0, l0, rfl, s0⟩ := list_cons hsz
  obtain ⟨x1, l1, rfl, s1⟩ := list_cons s0
  obtain ⟨x2, l2, rfl, s2⟩ := list_cons s1
  obtain ⟨x3, l3, rfl, s3⟩ := list_cons s2
  obtain ⟨x4, l4, rfl, s4⟩ := list_cons s3
  obtain ⟨x5, l5, rfl, s5⟩ := list_cons s4
  obtain ⟨x6, l6, rfl, s6⟩ := list_cons s5
  obtain ⟨x7, l7, rfl, s7⟩ := list_cons s6
  obtain ⟨x8, l8, rfl, s8⟩ := list_cons s7
  obtain ⟨x9, l9, rfl, s9⟩ := list_cons s8
  obtain ⟨x10, l10, rfl, s10⟩ := list_cons s9
  obtain ⟨x11, l11, rfl, s11⟩ := list_cons s10
  obtain ⟨x12, l12, rfl, s12⟩ := list_cons s11
  obtain ⟨x13, l13, rfl, s13⟩ := list_cons s12
  obtain ⟨x14, l14, rfl, s14⟩ := list_cons s13
  obtain ⟨x15, l15, rfl, s15⟩ := list_cons s14
  obtain ⟨x16, l16, rfl, s16⟩ := list_cons s15
  obtain ⟨x17, l17, rfl, s17⟩ := list_cons s16
  obtain ⟨x18, l18, rfl, s18⟩ := list_cons s17
  obtain ⟨x19, l19, rfl, s19⟩ := list_cons s18
  obtain ⟨x20, l20, rfl, s20⟩ := list_cons s19
  obtain ⟨x21, l21, rfl, s21⟩ := list_cons s20
  obtain ⟨x22, l22, rfl, s22⟩ := list_cons s21
  obtain ⟨x23, l23, rfl, s23⟩ := list_cons s22
  obtain ⟨x24, l24, rfl, s24⟩ := list_cons s23
  obtain ⟨x25, l25, rfl, s25⟩ := list_cons s24
  obtain ⟨x26, l26, rfl, s26⟩ := list_cons s25
  obtain ⟨x27, l27, rfl, s27⟩ := list_cons s26
  obtain ⟨x28, l28, rfl, s28⟩ := list_cons s27
  obtain ⟨x29, l29, rfl, s29⟩ := list_cons s28
  obtain ⟨x30, l30, rfl, s30⟩ := list_cons s29
  obtain ⟨x31, l31, rfl, s31⟩ := list_cons s30
  obtain ⟨x32, l32, rfl, s32⟩ := list_cons s31
  obtain ⟨x33, l33, rfl, s33⟩ := list_cons s32
  obtain ⟨x34, l34, rfl, s34⟩ := list_cons s33
  obtain ⟨x35, l35, rfl, s35⟩ := list_cons s34
  obtain ⟨x36, l36, rfl, s36⟩ := list_cons s35
  obtain ⟨x37, l37, rfl, s37⟩ := list_cons s36
  obtain ⟨x38, l38, rfl, s38⟩ := list_cons s37
  obtain ⟨x39, l39, rfl, s39⟩ := list_cons s38
  cases List.eq_nil_of_length_eq_zero s39
  have hx3 : x3 = .slice (some ⟨k, 0, none⟩) (pieces (val a)).length cap := hv
  subst hx3
  have hjoin := pieces_text (val a) hz
  have hall := pieces_nine (val a)
  generalize pieces (val a) = ps at *
  have HC : Aside (∀ (i : Nat) (s : List UInt8), ps[i]? = some s → arr[i]? = some (Value.string ⟨s.toArray⟩)) := hcells
  have HJ : Aside (List.dropWhile (fun x => x == 48) ps.reverse.flatten = textN (val a)) := hjoin
  have HN : Aside (∀ s ∈ ps, s.length = 9) := hall
  have HB : Aside (Below w0.heap.size w0 w4) := hb4
  have HK : Aside (w4.heap[k]? = some (.cells arr e (0, 0))) := hk
  have hk4 : k < w4.heap.size := by
   rcases Nat.lt_or_ge k w4.heap.size with h' | h'
   ·exact h'
   ·simp [Array.getElem?_eq_none h'] at hk
  clear hcells hjoin hall hb4 hk
  go_wp2
  go_loopg [8] ps.length (fun g s8 wx => s8 = .int .i64 ((g : Int) - 1) ∧ g ≤ ps.length ∧ Aside (Lib.IsBuilder 89 5 w4.heap.size w4.heap.size (Lib.byteCells (ps.drop g).reverse.flatten) wx ∧ Below w4.heap.size w4 wx))
  case atStart => exact ⟨rfl, Nat.le_refl _, by rw [List.drop_length]; exact Lib.fresh_isBuilder 89 5 w4, (Below.refl _ _).alloc (Nat.le_refl _) _⟩
  case round =>
   obtain ⟨rfl, hg, HW⟩ := hrel
   cases gk with
   | zero =>
    obtain ⟨hBld, hBel⟩ := HW.out
    rw [List.drop_zero] at hBld
    have hne' : ps.reverse.flatten ≠ [] := by
     intro h
     have := flatten_nine ps.reverse (fun s hs => HN.out s (List.mem_reverse.1 hs))
     rw [h] at this
     simp at this
     exact hne (List.eq_nil_of_length_eq_zero (by omega))
    have HT : Aside (ps.reverse.flatten ≠ []) := hne'
    clear hne'
    have hlenF : ps.reverse.flatten.length ≤ 1000000 := by
     rw [flatten_nine ps.reverse (fun s hs => HN.out s (List.mem_reverse.1 hs)), List.length_reverse]
     omega
    have hT : ∀ W : World, Calls Tryz.prog 58 #[.string ⟨ps.reverse.flatten.toArray⟩, .string ⟨#[48]⟩] W fun e w' => e = .returned (.string ⟨(textN (val a)).toArray⟩) ∧ Below W.heap.size W w' := by
     intro W
     have h1 := callF_sound sTab_ok hm (u := 103) rfl rfl (sTab_part.call (by kernel_rfl) (trim_left (T := tab) ps.reverse.flatten hlenF))
     rw [HJ.out] at h1
     refine (h1.2 W (fun _ _ => False) #[.string ⟨ps.reverse.flatten.toArray⟩, .string ⟨#[48]⟩] rfl (fun j v c hv hc => ?_) (fun _ _ h => h.elim)).mono ?_
     ·match j, hv, hc with
      | 0, hv, hc => cases hv; cases hc; exact .s _
      | 1, hv, hc => cases hv; cases hc; exact .s _
     ·rintro e w' ⟨v, r, rfl, rfl, hb, hc⟩
      cases hc
      exact ⟨rfl, hb⟩
    have HTT := hT
    clear hT
    go_wp2_with (go_at_call 59; refine (Tryz.bString w4.heap.size w4.heap.size ps.reverse.flatten wr hBld HT.out).mono ?_)
    rintro e1 w5 ⟨rfl, hb5⟩
    go_wp2_with (go_at_call 58; refine (HTT w5).mono ?_)
    rintro e2 w6 ⟨rfl, hb6⟩
    go_wp2
    go_ret
    refine ⟨rfl, ?_⟩
    have hs1 := HB.out.size
    have hs5 := (hBel.trans hb5).size
    exact HB.out.trans (((hBel.trans hb5).mono hs1).trans (hb6.mono (by omega)))
   | succ j =>
    obtain ⟨hBld, hBel⟩ := HW.out
    obtain ⟨s, hs⟩ : ∃ s, ps[j]? = some s := ⟨_, List.getElem?_eq_getElem (by omega)⟩
    have hcell : wr.cell? ⟨k, j, none⟩ = some (.string ⟨s.toArray⟩) := by
     rw [hBel.cell (p := ⟨k, j, none⟩) hk4, Lib.cell_of_heap HK.out]
     exact HC.out j s hs
    have hs9 : s.length = 9 := HN.out s (List.mem_of_getElem? hs)
    have hflen := flatten_nine (ps.drop (j + 1)).reverse (fun s hs => HN.out s (List.mem_of_mem_drop (List.mem_reverse.1 hs)))
    have HS : Aside (ps[j]? = some s) := hs
    clear hs
    rw [List.length_reverse, List.length_drop] at hflen
    have hbound : (Lib.byteCells (ps.drop (j + 1)).reverse.flatten).length + (⟨s.toArray⟩ : ByteArray).size ≤ 140737488355328 := by
     rw [Lib.byteCells_length, hflen]
     show _ + s.toArray.size ≤ _
     simp only [List.size_toArray]
     omega
    have HF : Aside ((Lib.byteCells (ps.drop (j + 1)).reverse.flatten).length + (⟨s.toArray⟩ : ByteArray).size ≤ 140737488355328) := hbound
    clear hflen hbound
    go_wp2_with (go_at_call 57; refine (Tryz.bWrite w4.heap.size w4.heap.size _ ⟨s.toArray⟩ wr hBld HF.out hBel.size).mono ?_)
    rintro e1 w5 ⟨rfl, h5, hb5⟩
    go_wp2
    go_roundg j
    case measure => omega
    case rel =>
     refine ⟨by congr 1, by omega, ?_, hBel.trans hb5⟩
     have e1 : (ps.drop j).reverse.flatten = (ps.drop (j + 1)).reverse.flatten ++ s := by
      obtain ⟨hj, he⟩ := List.getElem?_eq_some_iff.1 HS.out
      rw [List.drop_eq_getElem_cons hj, he]
      simp
     rw [e1, Lib.byteCells_append]
     exact .inr h5
theorem word_rows : ∀ (els : List (List AV)) (l : List UInt32), els.mapM wordOf = some l → els = u32s l
 | [], l, h => by cases h; rfl
 | r :: els, l, h => by
  rw [List.mapM_cons] at h
  obtain ⟨x, hx, h1⟩ := bind_some h
  obtain ⟨y, hy, h2⟩ := bind_some h1
  cases h2
  rw [word_rows els y hy]
  unfold wordOf at hx
  split at hx
  ·split at hx
   ·cases hx
    rename_i n hn
    have : (w32 n.toNat).toNat = n.toNat := w32_of_lt (by omega)
    simp only [u32s, List.map_cons, this, u32]
    rw [Int.toNat_of_nonneg hn.1]
   ·cases hx
  ·cases hx
theorem text_ok (hm : Tryz.prog.follows .mixedOrders = true) : ∀ xs r, prim68 xs = some r → PCall Tryz.prog (nu 68) xs (· = r) := by
 intro xs r h
 unfold prim68 at h
 split at h
 ·split at h
  ·rename_i els hl
   cases hw : els.mapM wordOf with
   | none => rw [hw] at h; cases h
   | some l =>
    rw [hw] at h
    cases h
    have he := word_rows els l hw
    subst he
    rw [u32s_length] at hl
    refine ⟨enters_of Tryz.func21 (by kernel_rfl) rfl, fun w S cargs hsz hC hS => ?_⟩
    refine (text_calls hm l hl (by simpa using hsz) hC hS).mono ?_
    rintro e w' ⟨rfl, hb⟩
    exact ⟨_, _, rfl, rfl, hb, .s _⟩
  ·cases h
 ·cases h
#print axioms text_ok
end Go.Proofs.YtoogmjnkclcjjaaGreatDoor
end

section
set_option linter.unusedVariables false
namespace Go.Proofs
open Go.Shelf Go.RowKit
variable {P : Program} {ρ : Ren}
structure JL (P : Program) (ρ : Ren) : Prop extends Lays.n169 P ρ, Lays.n241 P ρ, Builder.Extra P ρ where
 f156 : P.funcs[ρ.f 156]? = some (Body.n156 ρ)
 f165 : P.funcs[ρ.f 165]? = some (Body.n165 ρ)
 f166 : P.funcs[ρ.f 166]? = some (Body.n166 ρ)
 t4 : P.underlying (ρ.t 4) = some (TypeDesc.bool)
 a4 : ∀ w, (isAgg (ρ.t 4)).run P w = .ok false w
 z4 : ∀ w, (Go.sizeOf (ρ.t 4)).run P w = .ok 1 w
 v4 : ∀ w, (zeroValue (ρ.t 4)).run P w = .ok (Value.bool false) w
 t20 : P.underlying (ρ.t 20) = some (TypeDesc.interface #[])
 a20 : ∀ w, (isAgg (ρ.t 20)).run P w = .ok false w
 z20 : ∀ w, (Go.sizeOf (ρ.t 20)).run P w = .ok 1 w
 v20 : ∀ w, (zeroValue (ρ.t 20)).run P w = .ok (Value.nilIface) w
 t31 : P.underlying (ρ.t 31) = some (TypeDesc.slice (ρ.t 9))
 a31 : ∀ w, (isAgg (ρ.t 31)).run P w = .ok false w
 z31 : ∀ w, (Go.sizeOf (ρ.t 31)).run P w = .ok 1 w
 v31 : ∀ w, (zeroValue (ρ.t 31)).run P w = .ok (Value.slice none 0 0) w
 t75 : P.underlying (ρ.t 75) = some (TypeDesc.interface #[("Error", ρ.t 80)])
 a75 : ∀ w, (isAgg (ρ.t 75)).run P w = .ok false w
 z75 : ∀ w, (Go.sizeOf (ρ.t 75)).run P w = .ok 1 w
 v75 : ∀ w, (zeroValue (ρ.t 75)).run P w = .ok (Value.nilIface) w
 t76 : P.underlying (ρ.t 76) = some (TypeDesc.tuple #[ρ.t 3, ρ.t 75])
 a76 : ∀ w, (isAgg (ρ.t 76)).run P w = .ok false w
 z76 : ∀ w, (Go.sizeOf (ρ.t 76)).run P w = .ok 1 w
 v76 : ∀ w, (zeroValue (ρ.t 76)).run P w = .ok (Value.tuple #[Value.int IntKind.i64 0, Value.nilIface]) w
 t164 : P.underlying (ρ.t 164) = some (TypeDesc.unsafePointer)
 a164 : ∀ w, (isAgg (ρ.t 164)).run P w = .ok false w
 z164 : ∀ w, (Go.sizeOf (ρ.t 164)).run P w = .ok 1 w
 v164 : ∀ w, (zeroValue (ρ.t 164)).run P w = .ok (Value.pointer none) w
 e240 : ∀ args w, (callFunc (ρ.f 240) args).run P w = .ok (.enter (ρ.f 240) args) w
 c240 : ∀ (B b : Nat) (bs : List Value) (w : World), Lib.IsBuilder (ρ.t 72) (ρ.t 5) B b bs w →
  Calls P (ρ.f 240) #[.pointer (some ⟨b, 0, none⟩)] w fun e w' => e = .returned (.tuple #[]) ∧ (Lib.BuilderAt (ρ.t 72) (ρ.t 5) B b (.pointer (some ⟨b, 0, none⟩)) bs w' ∧ Below B w w')
 c240f : ∀ (b : Nat) (w : World), w.cell? ⟨b, 0, none⟩ = some (.pointer none) → w.shape? b = some ((ρ.t 72), 2) → w.frozen? ⟨b, 0, none⟩ = false →
  Calls P (ρ.f 240) #[.pointer (some ⟨b, 0, none⟩)] w fun e w' => e = .returned (.tuple #[]) ∧ w' = w.setCell ⟨b, 0, none⟩ (.pointer (some ⟨b, 0, none⟩))
theorem Jl.hid {p : Prop} (h : p) : Hid p := h
end Go.Proofs
end

section
namespace Go.Proofs
open Go.Shelf Go.RowKit Go.Ab
variable {P : Program} {ρ : Ren}
theorem s_inv {w : World} {S : Nat → Nat → Prop} {v : Value} {l : List UInt8} (h : CP w S v (.s l)) : v = .string ⟨l.toArray⟩ := by
 cases h with
 | s => rfl
theorem two_args {cargs : Array Value} (h : cargs.size = 2) : ∃ a b, cargs = #[a, b] := by
 obtain ⟨l⟩ := cargs
 match l, h with
 | [a, b], _ => exact ⟨a, b, rfl⟩
end Go.Proofs
end

section
namespace Go.Proofs
open Go.Shelf Go.RowKit Go.Ab
variable {P : Program} {ρ : Ren}
theorem bytes_size (s : List UInt8) : (⟨s.toArray⟩ : ByteArray).size = s.length := by simp [ByteArray.size]
theorem bytes_list (s : List UInt8) : (⟨s.toArray⟩ : ByteArray).data.toList = s := by simp
theorem all_ascii {s : List UInt8} (h : s.all (fun c => decide (c.toNat < 128)) = true) : ∀ (j : Nat) b, (⟨s.toArray⟩ : ByteArray).data.toList[j]? = some b → b.toNat < 128 := by
 intro j b hb
 rw [bytes_list] at hb
 exact of_decide_eq_true (List.all_eq_true.1 h b (List.mem_of_getElem? hb))
end Go.Proofs
end

section
namespace Go.Proofs
open Go.Shelf Go.RowKit Go.Lib
variable {P : Program} {ρ : Ren}
abbrev slashDot : ByteArray := ⟨#[47, 46]⟩
set_option maxHeartbeats 2000000 in
set_option maxRecDepth 1000000 in
theorem rune_invalid (L : Lays.n152 P ρ) (r : Int) (w : World) (h0 : 128 ≤ r) (h1 : r ≤ 2147483647) (h2 : r ≠ 65533) (hv : Lib.validRune r = false) :
  Calls P (ρ.f 152) #[.string slashDot, .int .i32 r] w fun e w' => e = .returned (.int .i64 (-1)) ∧ w' = w := by
 have t3 := L.t3; have a3 := L.a3; have z3 := L.z3; have v3 := L.v3
 have t4 := L.t4; have a4 := L.a4; have z4 := L.z4; have v4 := L.v4
 have t5 := L.t5; have a5 := L.a5; have z5 := L.z5; have v5 := L.v5
 have t9 := L.t9; have a9 := L.a9; have z9 := L.z9; have v9 := L.v9
 have t21 := L.t21; have a21 := L.a21; have z21 := L.z21; have v21 := L.v21
 have e119 : ∀ args w, (callFunc (ρ.f 119) args).run P w = .ok (.enter (ρ.f 119) args) w := enters_of L.f119 (by kernel_rfl) rfl
 go_enter L.f152, Body.n152_ntmps ρ
 go_wp2_with (go_at_fn (ρ.f 119); refine (Any.utf8_ValidRune { L with } _ _).mono ?_; rintro e w' ⟨rfl, hw⟩; rw [hw, hv])
 go_ret
 exact ⟨rfl, rfl⟩
theorem next_slash (w : World) (ty : TypeId) : (Instr.next (.pointer (some ⟨w.heap.size, 0, none⟩)) true ty).run P (w.iter slashDot 0) = .ok (.tuple #[.bool true, .int .i64 0, .int .i32 47]) (w.iter slashDot 1) :=
 run_next_ascii (P := P) w slashDot 0 ty (by decide) (by decide)
theorem next_dot (w : World) (ty : TypeId) : (Instr.next (.pointer (some ⟨w.heap.size, 0, none⟩)) true ty).run P (w.iter slashDot 1) = .ok (.tuple #[.bool true, .int .i64 1, .int .i32 46]) (w.iter slashDot 2) :=
 run_next_ascii (P := P) w slashDot 1 ty (by decide) (by decide)
set_option maxHeartbeats 2000000 in
set_option maxRecDepth 1000000 in
theorem rune_error (L : Lays.n152 P ρ) (w : World) :
  Calls P (ρ.f 152) #[.string slashDot, .int .i32 65533] w fun e w' => e = .returned (.int .i64 (-1)) ∧ ∃ pos, w' = w.iter slashDot pos := by
 have t3 := L.t3; have a3 := L.a3; have z3 := L.z3; have v3 := L.v3
 have t4 := L.t4; have a4 := L.a4; have z4 := L.z4; have v4 := L.v4
 have t5 := L.t5; have a5 := L.a5; have z5 := L.z5; have v5 := L.v5
 have t9 := L.t9; have a9 := L.a9; have z9 := L.z9; have v9 := L.v9
 have t21 := L.t21; have a21 := L.a21; have z21 := L.z21; have v21 := L.v21
 go_enter L.f152, Body.n152_ntmps ρ
 go_wp2
 go_loopg [5, 6] 2 (fun g _ _ wx => ∃ i : Nat, i + g = 2 ∧ wx = w.iter slashDot i)
 case atStart => exact ⟨0, by omega, rfl⟩
 case round =>
  obtain ⟨i, hig, rfl⟩ := hrel
  match gk, i, hig with
  | 0, 2, _ =>
   have hnx := fun ty => run_next_end (P := P) w slashDot 2 ty (by decide)
   go_wp2
   go_ret
   exact ⟨rfl, _, rfl⟩
  | 1, 1, _ =>
   have hnx := next_dot (P := P) w
   go_wp2
   go_roundg 0
   case measure => omega
   case rel => exact ⟨2, by omega, rfl⟩
  | 2, 0, _ =>
   have hnx := next_slash (P := P) w
   go_wp2
   go_roundg 1
   case measure => omega
   case rel => exact ⟨1, by omega, rfl⟩
set_option maxHeartbeats 4000000 in
set_option maxRecDepth 1000000 in
theorem rune_three (L : Lays.n152 P ρ) (r : Int) (w : World) (h0 : 128 ≤ r) (h1 : r ≤ 2147483647) (h2 : r ≠ 65533) (hv : Lib.validRune r = true) (hk : 3 ≤ (Utf8.encode r).size) (hk4 : (Utf8.encode r).size ≤ 4) :
  Calls P (ρ.f 152) #[.string slashDot, .int .i32 r] w fun e w' => e = .returned (.int .i64 (-1)) ∧ w' = w := by
 have t3 := L.t3; have a3 := L.a3; have z3 := L.z3; have v3 := L.v3
 have t4 := L.t4; have a4 := L.a4; have z4 := L.z4; have v4 := L.v4
 have t5 := L.t5; have a5 := L.a5; have z5 := L.z5; have v5 := L.v5
 have t9 := L.t9; have a9 := L.a9; have z9 := L.z9; have v9 := L.v9
 have t21 := L.t21; have a21 := L.a21; have z21 := L.z21; have v21 := L.v21
 have e119 : ∀ args w, (callFunc (ρ.f 119) args).run P w = .ok (.enter (ρ.f 119) args) w := enters_of L.f119 (by kernel_rfl) rfl
 have hcv : ∀ w, (convert (ρ.t 21) (ρ.t 9) (.int .i32 r)).run P w = .ok (.string (Utf8.encode r)) w := fun w => run_convert_int_string w _ _ _ _ (by rw [L.t21]; rfl) L.t9
 generalize Utf8.encode r = b at *
 go_enter L.f152, Body.n152_ntmps ρ
 go_wp2_with (first | (go_at_fn (ρ.f 119); refine (Any.utf8_ValidRune { L with } _ _).mono ?_; rintro e w' ⟨rfl, hw⟩; rw [hw, hv]) | simp only [hcv])
 go_step3
 go_wp2_with (simp only [hcv])
 go_loopg [9] 0 (fun g i wx => i = .int .i64 ((b.size : Int) - 1) ∧ wx = w)
 case atStart => exact ⟨rfl, rfl⟩
 case round =>
  obtain ⟨rfl, rfl⟩ := hrel
  have hge : decide (((b.size : Int) - 1) < 2) = false := decide_eq_false (by omega)
  go_wp2
  rw [Exit.noGoto_ret]
  go_ret
  exact ⟨rfl, rfl⟩
set_option maxHeartbeats 4000000 in
set_option maxRecDepth 1000000 in
theorem rune_two (L : Lays.n152 P ρ) (r : Int) (w : World) (h0 : 128 ≤ r) (h1 : r ≤ 2147483647) (h2 : r ≠ 65533) (hv : Lib.validRune r = true) (x : UInt8) (hk : (Utf8.encode r).size = 2) (hx : ∀ h : 1 < (Utf8.encode r).size, (Utf8.encode r)[1]'h = x) (hx128 : 128 ≤ x.toNat) :
  Calls P (ρ.f 152) #[.string slashDot, .int .i32 r] w fun e w' => e = .returned (.int .i64 (-1)) ∧ Below w.heap.size w w' := by
 have mixed := L.mixed
 have t3 := L.t3; have a3 := L.a3; have z3 := L.z3; have v3 := L.v3
 have t4 := L.t4; have a4 := L.a4; have z4 := L.z4; have v4 := L.v4
 have t5 := L.t5; have a5 := L.a5; have z5 := L.z5; have v5 := L.v5
 have t9 := L.t9; have a9 := L.a9; have z9 := L.z9; have v9 := L.v9
 have t21 := L.t21; have a21 := L.a21; have z21 := L.z21; have v21 := L.v21
 have e119 : ∀ args w, (callFunc (ρ.f 119) args).run P w = .ok (.enter (ρ.f 119) args) w := enters_of L.f119 (by kernel_rfl) rfl
 have e137 : ∀ args w, (callFunc (ρ.f 137) args).run P w = .ok (.enter (ρ.f 137) args) w := enters_of L.f137 (by kernel_rfl) rfl
 have hcv : ∀ w, (convert (ρ.t 21) (ρ.t 9) (.int .i32 r)).run P w = .ok (.string (Utf8.encode r)) w := fun w => run_convert_int_string w _ _ _ _ (by rw [L.t21]; rfl) L.t9
 generalize Utf8.encode r = b at *
 go_enter L.f152, Body.n152_ntmps ρ
 go_wp2_with (first | (go_at_fn (ρ.f 119); refine (Any.utf8_ValidRune { L with } _ _).mono ?_; rintro e w' ⟨rfl, hw⟩; rw [hw, hv]) | simp only [hcv])
 go_step3
 go_wp2_with (simp only [hcv])
 go_loopg [9] 0 (fun g i wx => i = .int .i64 1 ∧ wx = w)
 case atStart => exact ⟨rfl, rfl⟩
 case round =>
  obtain ⟨rfl, rfl⟩ := hrel
  have hb : 1 < b.size := by omega
  have hxx := hx hb
  have hne : ((46 : Int) == (x.toNat : Int)) = false := beq_eq_false_iff_ne.2 (by omega)
  have hsz : (b.size : Int) = 2 := by omega
  have hg : slashDot[1]'(by decide) = 46 := rfl
  go_wp2
  go_step3
  go_wp2_with (go_at_fn (ρ.f 137); refine (Any.strings_IndexByte { L with } _ _ _).mono ?_; rintro e w' ⟨rfl, hw⟩; rw [hw])
  go_region_o
  have hne2 : ((46 : Int) != (x.toNat : Int)) = true := by rw [bne, hne]; rfl
  try rw [hne2]
  go_wp2
  go_region_with_o (go_at_fn (ρ.f 137); refine (Any.strings_IndexByte { L with } _ _ _).mono ?_; rintro e w' ⟨rfl, hw⟩; rw [hw])
  all_goals go_wp2
  all_goals rw [Exit.noGoto_ret]
  all_goals go_wp2
  all_goals rw [Exit.noGoto_ret]
  all_goals go_ret
  all_goals exact ⟨rfl, ⟨rfl, rfl, rfl, Nat.le_refl _, fun _ _ => rfl⟩⟩
theorem rune_wide (L : Lays.n152 P ρ) (r : Int) (w : World) (h0 : 128 ≤ r) (h1 : r ≤ 2147483647) :
  Calls P (ρ.f 152) #[.string slashDot, .int .i32 r] w fun e w' => e = .returned (.int .i64 (-1)) ∧ Below w.heap.size w w' := by
 by_cases h2 : r = 65533
 ·subst h2
  refine (rune_error L w).mono ?_
  rintro e w' ⟨h, pos, rfl⟩
  exact ⟨h, (Below.refl _ _).alloc (Nat.le_refl _) _⟩
 ·cases hv : Lib.validRune r with
  | false =>
   refine (rune_invalid L r w h0 h1 h2 hv).mono ?_
   rintro e w' ⟨h, rfl⟩
   exact ⟨h, Below.refl _ _⟩
  | true =>
   have hu : Utf8.valid r = true := by rw [Go.validRune_eq]; exact hv
   obtain ⟨k2, k4, kx⟩ := encode_facts r hu h0
   by_cases h3 : (Utf8.encode r).size = 2
   ·have hk := kx (by omega)
    have he : (Utf8.encode r).size - 1 = 1 := by omega
    simp only [he] at hk
    exact rune_two L r w h0 h1 h2 hv ((Utf8.encode r)[1]'(by omega)) h3 (fun _ => rfl) hk
   ·refine (rune_three L r w h0 h1 h2 hv (by omega) k4).mono ?_
    rintro e w' ⟨h, rfl⟩
    exact ⟨h, Below.refl _ _⟩
theorem wide_n (n b0 b1 b2 b3 : Nat) (hn : 1 ≤ n) (h : 128 ≤ b0) : 1 ≤ (decodeN n b0 b1 b2 b3).2 ∧ (decodeN n b0 b1 b2 b3).2 ≤ 4 ∧ (decodeN n b0 b1 b2 b3).2 ≤ n ∧
  (2 ≤ (decodeN n b0 b1 b2 b3).2 → 128 ≤ b1) ∧ (3 ≤ (decodeN n b0 b1 b2 b3).2 → 128 ≤ b2) ∧ (4 ≤ (decodeN n b0 b1 b2 b3).2 → 128 ≤ b3) := by
 unfold decodeN
 rw [if_neg (by omega)]
 (repeat' split) <;> simp only <;> omega
theorem wide_bytes (s : ByteArray) (i : Nat) (hi : i < s.size) (h : 128 ≤ (s[i]'hi).toNat) : 1 ≤ (Utf8.decode s i).2 ∧ i + (Utf8.decode s i).2 ≤ s.size ∧
  ∀ (j : Nat) (b : UInt8), i ≤ j → j < i + (Utf8.decode s i).2 → s.data.toList[j]? = some b → 128 ≤ b.toNat := by
 have hg : ∀ (j : Nat) (b : UInt8), s.data.toList[j]? = some b → s.get! j = b := by
  intro j b hb
  obtain ⟨hj, hb⟩ := List.getElem?_eq_some_iff.1 hb
  have hj2 : j < s.size := by simpa using hj
  have : s.get! j = s[j]'hj2 := by
   simp [ByteArray.get!, getElem!_pos, hj2]
   rfl
  rw [this, ← hb]
  rfl
 have h0 : s.get! i = s[i]'hi := get_at s i hi
 have hw := wide_n (s.size - i) (s.get! i).toNat (s.get! (i + 1)).toNat (s.get! (i + 2)).toNat (s.get! (i + 3)).toNat (by omega) (by rw [h0]; exact h)
 rw [← decode_at] at hw
 obtain ⟨w1, w2, w3, w4, w5, w6⟩ := hw
 refine ⟨w1, by omega, fun j b hij hj hb => ?_⟩
 have hgb := hg j b hb
 rw [← hgb]
 have hc : j = i ∨ j = i + 1 ∨ j = i + 2 ∨ j = i + 3 := by omega
 rcases hc with rfl | rfl | rfl | rfl
 ·rw [h0]; exact h
 ·exact w4 (by omega)
 ·exact w5 (by omega)
 ·exact w6 (by omega)
theorem next_at (wx : World) (B : Nat) (s : ByteArray) (pos : Nat) (ty : TypeId) (hB : wx.heap[B]? = some (.stringIter s pos)) (h : pos < s.size) :
  (Instr.next (.pointer (some ⟨B, 0, none⟩)) true ty).run P wx = .ok (.tuple #[.bool true, .int .i64 pos, .int .i32 (Utf8.decode s pos).1]) { wx with heap := wx.heap.setIfInBounds B (.stringIter s (pos + (Utf8.decode s pos).2)) } := by
 simp only [Instr.next, getObj, setObj, Sem.run_bind, Sem.run, hB, Result.andThen, h, if_true]
 simp [goInt]
theorem next_none (wx : World) (B : Nat) (s : ByteArray) (pos : Nat) (ty : TypeId) (hB : wx.heap[B]? = some (.stringIter s pos)) (h : ¬ pos < s.size) :
  (Instr.next (.pointer (some ⟨B, 0, none⟩)) true ty).run P wx = .ok (.tuple #[.bool false]) wx := by
 simp [Instr.next, getObj, Sem.run, hB, h]
theorem below_iter {B : Nat} {w wx : World} (h : Below B w wx) (o : Obj) : Below B w { wx with heap := wx.heap.setIfInBounds B o } :=
 h.trans ⟨rfl, rfl, rfl, by simp, fun k hk => by
  show (wx.heap.setIfInBounds B o)[k]? = wx.heap[k]?
  rw [Array.getElem?_setIfInBounds_ne (by omega)]⟩
set_option maxHeartbeats 8000000 in
set_option maxRecDepth 1000000 in
theorem indexAny_short_any (L : Lays.n153 P ρ) (s : ByteArray) (w : World) (h8 : s.size ≤ 8) :
  Calls P (ρ.f 153) #[.string s, .string slashDot] w fun e w' => e = .returned (.int .i64 (Lib.indexAny s.data.toList [47, 46])) ∧ Below w.heap.size w w' := by
 have h8z : decide ((8 : Int) < (s.size : Int)) = false := decide_eq_false (by omega)
 have t3 := L.t3; have a3 := L.a3; have z3 := L.z3; have v3 := L.v3
 have t4 := L.t4; have a4 := L.a4; have z4 := L.z4; have v4 := L.v4
 have t5 := L.t5; have a5 := L.a5; have z5 := L.z5; have v5 := L.v5
 have t9 := L.t9; have a9 := L.a9; have z9 := L.z9; have v9 := L.v9
 have t21 := L.t21; have a21 := L.a21; have z21 := L.z21; have v21 := L.v21
 have e152 : ∀ args w, (callFunc (ρ.f 152) args).run P w = .ok (.enter (ρ.f 152) args) w := enters_of L.f152 (by kernel_rfl) rfl
 have e226 : ∀ args w, (callFunc (ρ.f 226) args).run P w = .ok (.enter (ρ.f 226) args) w := enters_of L.f226 (by kernel_rfl) rfl
 go_enter L.f153, Body.n153_ntmps ρ
 go_wp2_with (go_at_fn (ρ.f 226); refine (Any.strings_shouldUseASCIISet { L with } _ _).mono ?_; rintro e w' ⟨rfl, hw⟩; rw [hw, h8z])
 go_loopg [9, 10] s.size (fun g _ _ wx => ∃ i : Nat, s.size ≤ i + g ∧ i ≤ s.size ∧ wx.heap[w.heap.size]? = some (.stringIter s i) ∧ Below w.heap.size w wx ∧ Lib.NoAny s.data.toList [47, 46] i)
 case atStart => exact ⟨0, by omega, by omega, World.iter_heap w s 0, (Below.refl _ _).alloc (Nat.le_refl _) _, Lib.NoAny.zero _ _⟩
 case round =>
  obtain ⟨i, hig, his, hit, hbel, hno⟩ := hrel
  have HN : Aside (Lib.NoAny s.data.toList [47, 46] i) := hno
  have HB : Aside (Below w.heap.size w wr) := hbel
  have HI : Aside (wr.heap[w.heap.size]? = some (.stringIter s i)) := hit
  clear hno hbel
  by_cases hi : i < s.size
  ·cases gk with
   | zero => omega
   | succ g =>
   have hlt : w.heap.size < wr.heap.size := (Array.getElem?_eq_some_iff.1 hit).1
   obtain ⟨x, hx⟩ : ∃ x : UInt8, s[i]'hi = x := ⟨_, rfl⟩
   have hxl : s.data.toList[i]? = some x := by rw [← hx]; exact Lib.data_getElem? s i hi
   have hnx := fun ty => next_at (P := P) wr w.heap.size s i ty hit hi
   by_cases h128 : x.toNat < 128
   ·have hd := decode_ascii s i hi (by rw [hx]; exact h128)
    rw [hx] at hd
    rw [hd] at hnx
    simp only at hnx
    have Hx : Aside (s.data.toList[i]? = some x) := hxl
    clear hxl hx hit
    have hcon := Lib.contains_iff_indexByte [47, 46] x
    have hback : ((x.toNat : Int)).toNat.toUInt8 = x := by simp
    cases hin : ([47, 46] : List UInt8).contains x
    ·rw [hin] at hcon
     have hlt0 : ¬ ((0 : Int) ≤ Lib.indexByte [47, 46] x) := of_decide_eq_false hcon.symm
     clear hcon
     go_wp2_with (go_at_fn (ρ.f 152); refine (Any.strings_IndexRune_ascii { L with } _ _ _ (by omega) (by omega)).mono ?_; rintro e w' ⟨rfl, hw⟩; rw [hw, hback])
     go_roundg g
     case measure => omega
     case rel => exact ⟨i + 1, by omega, by omega, by simp [hlt], below_iter HB.out _, HN.out.succ Hx.out hin⟩
    ·rw [hin] at hcon
     have hge : (0 : Int) ≤ Lib.indexByte [47, 46] x := of_decide_eq_true hcon.symm
     clear hcon
     go_wp2_with (go_at_fn (ρ.f 152); refine (Any.strings_IndexRune_ascii { L with } _ _ _ (by omega) (by omega)).mono ?_; rintro e w' ⟨rfl, hw⟩; rw [hw, hback])
     go_ret
     exact ⟨by rw [Lib.indexAny_hit HN.out Hx.out hin]; rfl, below_iter HB.out _⟩
   ·have hwb := wide_bytes s i hi (by rw [hx]; omega)
    have hdh := decode_high s i hi (by rw [hx]; omega)
    have hdl := decode_le s i
    obtain ⟨r, hr⟩ : ∃ r, r = (Utf8.decode s i).1 := ⟨_, rfl⟩
    obtain ⟨k, hk⟩ : ∃ k, k = (Utf8.decode s i).2 := ⟨_, rfl⟩
    rw [← hr, ← hk] at hnx
    rw [← hk] at hwb hdh
    rw [← hr] at hdh hdl
    obtain ⟨wb1, wb2, wb3⟩ := hwb
    have HW : Aside (∀ (j : Nat) (b : UInt8), i ≤ j → j < i + k → s.data.toList[j]? = some b → 128 ≤ b.toNat) := wb3
    clear wb3 hxl hx hit hr hk
    have r1 : (128 : Int) ≤ (r : Int) := by omega
    have r2 : (r : Int) ≤ 2147483647 := by omega
    go_wp2_with (go_at_fn (ρ.f 152); refine (rune_wide { L with } _ _ r1 r2).mono ?_; rintro e w' ⟨rfl, hw⟩)
    go_roundg g
    case measure => omega
    case rel =>
     refine ⟨i + k, by omega, by omega, ?_, (below_iter HB.out _).trans (hw.mono (by simp; omega)), ?_⟩
     ·rw [hw.block _ (by simpa using hlt)]
      simp [hlt]
     ·intro j b hj hb
      by_cases hji : j < i
      ·exact HN.out j b hji hb
      ·have h3 := HW.out j b (by omega) hj hb
       have e1 : ¬ b = 47 := fun e => by rw [e] at h3; exact absurd h3 (by decide)
       have e2 : ¬ b = 46 := fun e => by rw [e] at h3; exact absurd h3 (by decide)
       simp [e1, e2]
  ·obtain rfl : i = s.size := by omega
   have hnx := fun ty => next_none (P := P) wr w.heap.size s s.size ty hit hi
   clear hit
   go_wp2
   go_ret
   exact ⟨by rw [Lib.indexAny_none (by rw [← Lib.size_eq]; exact HN.out)]; rfl, HB.out⟩
open Go.Ab in
theorem indexAny_pcall (L : Lays.n153 P ρ) (h116 : (P.info? (ρ.t 116)).map (fun i => (i.zero, i.size)) = some (some (.agg (Array.replicate 256 (.bool false))), 256)) : ∀ xs r, prim344 xs = some r → PCall P (ρ.f 153) xs (· = r) := by
 intro xs r h
 unfold prim344 at h
 split at h
 ·split at h
  ·rename_i s hs
   cases h
   refine ⟨enters_of L.f153 (by kernel_rfl) rfl, fun w S cargs hsz hC hS => ?_⟩
   obtain ⟨v0, v1, rfl⟩ := two_args hsz
   have c0 := s_inv (hC 0 _ _ rfl rfl)
   have c1 := s_inv (hC 1 _ _ rfl rfl)
   subst c0 c1
   have key : Calls P (ρ.f 153) #[.string ⟨s.toArray⟩, .string slashDot] w fun e w' => e = .returned (.int .i64 (Lib.indexAny s [47, 46])) ∧ Below w.heap.size w w' := by
    by_cases h8 : s.length ≤ 8
    ·have := indexAny_short_any L ⟨s.toArray⟩ w (by rw [bytes_size]; exact h8)
     rwa [bytes_list] at this
    ·have := Any.strings_IndexAny_long L (zero_of_info h116).1 (zero_of_info h116).2 ⟨s.toArray⟩ slashDot w (by decide) (by rw [bytes_size]; omega) (by rw [bytes_size]; omega) (by decide) (all_ascii (s := [47, 46]) (by decide))
     rw [bytes_list] at this
     refine this.mono fun e w' ⟨h1, h2⟩ => ⟨h1, ?_⟩
     rw [h2]
     exact ((Below.refl _ _).alloc (Nat.le_refl _) _).alloc (by simp) _
   exact key.mono fun e w' ⟨he, hb⟩ => ⟨_, _, he, rfl, hb, .i _ _⟩
  ·cases h
 ·cases h
end Go.Proofs
end

section
set_option linter.unusedVariables false
namespace Go.Proofs
open Go.Shelf Go.RowKit Go.Lib Go.Ab
variable {P : Program} {ρ : Ren}
structure RL (P : Program) (ρ : Ren) : Prop extends Lays.n99 P ρ, Lays.n212 P ρ where
 f105 : P.funcs[ρ.f 105]? = some (Body.n105 ρ)
 t0 : P.underlying (ρ.t 0) = some (TypeDesc.tuple #[])
 a0 : ∀ w, (isAgg (ρ.t 0)).run P w = .ok false w
 z0 : ∀ w, (Go.sizeOf (ρ.t 0)).run P w = .ok 1 w
 v0 : ∀ w, (zeroValue (ρ.t 0)).run P w = .ok (Value.tuple #[]) w
 t5 : P.underlying (ρ.t 5) = some (TypeDesc.int IntKind.u8)
 a5 : ∀ w, (isAgg (ρ.t 5)).run P w = .ok false w
 z5 : ∀ w, (Go.sizeOf (ρ.t 5)).run P w = .ok 1 w
 v5 : ∀ w, (zeroValue (ρ.t 5)).run P w = .ok (Value.int IntKind.u8 0) w
 t20 : P.underlying (ρ.t 20) = some (TypeDesc.interface #[])
 a20 : ∀ w, (isAgg (ρ.t 20)).run P w = .ok false w
 z20 : ∀ w, (Go.sizeOf (ρ.t 20)).run P w = .ok 1 w
 v20 : ∀ w, (zeroValue (ρ.t 20)).run P w = .ok (Value.nilIface) w
 t37 : P.underlying (ρ.t 37) = some (TypeDesc.slice (ρ.t 5))
 a37 : ∀ w, (isAgg (ρ.t 37)).run P w = .ok false w
 z37 : ∀ w, (Go.sizeOf (ρ.t 37)).run P w = .ok 1 w
 v37 : ∀ w, (zeroValue (ρ.t 37)).run P w = .ok (Value.slice none 0 0) w
 t70 : P.underlying (ρ.t 70) = some (TypeDesc.pointer (ρ.t 72))
 a70 : ∀ w, (isAgg (ρ.t 70)).run P w = .ok false w
 z70 : ∀ w, (Go.sizeOf (ρ.t 70)).run P w = .ok 1 w
 v70 : ∀ w, (zeroValue (ρ.t 70)).run P w = .ok (Value.pointer none) w
 t72 : P.underlying (ρ.t 72) = some (TypeDesc.struct #[{ name := "addr", type := ρ.t 70, offset := 0, embedded := false, tag := "", pkgPath := "strings", byteOffset := 0 }, { name := "buf", type := ρ.t 37, offset := 1, embedded := false, tag := "", pkgPath := "strings", byteOffset := 8 }])
 a72 : ∀ w, (isAgg (ρ.t 72)).run P w = .ok true w
 z72 : ∀ w, (Go.sizeOf (ρ.t 72)).run P w = .ok 2 w
 v72 : ∀ w, (zeroValue (ρ.t 72)).run P w = .ok (Value.agg #[Value.pointer none, Value.slice none 0 0]) w
 t75 : P.underlying (ρ.t 75) = some (TypeDesc.interface #[("Error", ρ.t 80)])
 a75 : ∀ w, (isAgg (ρ.t 75)).run P w = .ok false w
 z75 : ∀ w, (Go.sizeOf (ρ.t 75)).run P w = .ok 1 w
 v75 : ∀ w, (zeroValue (ρ.t 75)).run P w = .ok (Value.nilIface) w
 t76 : P.underlying (ρ.t 76) = some (TypeDesc.tuple #[ρ.t 3, ρ.t 75])
 a76 : ∀ w, (isAgg (ρ.t 76)).run P w = .ok false w
 z76 : ∀ w, (Go.sizeOf (ρ.t 76)).run P w = .ok 1 w
 v76 : ∀ w, (zeroValue (ρ.t 76)).run P w = .ok (Value.tuple #[Value.int IntKind.i64 0, Value.nilIface]) w
 t109 : P.underlying (ρ.t 109) = some (TypeDesc.tuple #[ρ.t 46, ρ.t 46])
 a109 : ∀ w, (isAgg (ρ.t 109)).run P w = .ok false w
 z109 : ∀ w, (Go.sizeOf (ρ.t 109)).run P w = .ok 1 w
 v109 : ∀ w, (zeroValue (ρ.t 109)).run P w = .ok (Value.tuple #[Value.int IntKind.u64 0, Value.int IntKind.u64 0]) w
 t127 : P.underlying (ρ.t 127) = some (TypeDesc.pointer (ρ.t 5))
 a127 : ∀ w, (isAgg (ρ.t 127)).run P w = .ok false w
 z127 : ∀ w, (Go.sizeOf (ρ.t 127)).run P w = .ok 1 w
 v127 : ∀ w, (zeroValue (ρ.t 127)).run P w = .ok (Value.pointer none) w
 t164 : P.underlying (ρ.t 164) = some (TypeDesc.unsafePointer)
 a164 : ∀ w, (isAgg (ρ.t 164)).run P w = .ok false w
 z164 : ∀ w, (Go.sizeOf (ρ.t 164)).run P w = .ok 1 w
 v164 : ∀ w, (zeroValue (ρ.t 164)).run P w = .ok (Value.pointer none) w
set_option maxHeartbeats 1600000 in
set_option maxRecDepth 1000000 in
theorem Rl.rep (L : RL P ρ) (c : Nat) (w : World) (hc2 : 2 ≤ c) (hc : c ≤ 64) :
  Calls P (ρ.f 105) #[.string ⟨#[48]⟩, .int .i64 c] w fun e w' => e = .returned (.string ⟨(List.replicate c 48).toArray⟩) ∧ Below w.heap.size w w' := by
 have hMul := Any.bits_Mul L.ton212 1 c (by omega) (by omega) w
 rw [Nat.one_mul, Nat.div_eq_of_lt (by omega : c < 18446744073709551616), Nat.mod_eq_of_lt (by omega : c < 18446744073709551616)] at hMul
 have hS : (⟨(repeatL [48] c).toArray⟩ : ByteArray) = ⟨(List.replicate c 48).toArray⟩ := by
  have : repeatL [48] c = List.replicate c 48 := by
   clear hc hc2 hMul
   induction c with
   | zero => rfl
   | succ c ih => rw [repeatL, ih, List.replicate_succ]; rfl
  rw [this]
 have t0 := L.t0; have a0 := L.a0; have z0 := L.z0; have v0 := L.v0
 have t3 := L.t3; have a3 := L.a3; have z3 := L.z3; have v3 := L.v3
 have t4 := L.t4; have a4 := L.a4; have z4 := L.z4; have v4 := L.v4
 have t5 := L.t5; have a5 := L.a5; have z5 := L.z5; have v5 := L.v5
 have t9 := L.t9; have a9 := L.a9; have z9 := L.z9; have v9 := L.v9
 have t20 := L.t20; have a20 := L.a20; have z20 := L.z20; have v20 := L.v20
 have t37 := L.t37; have a37 := L.a37; have z37 := L.z37; have v37 := L.v37
 have t46 := L.t46; have a46 := L.a46; have z46 := L.z46; have v46 := L.v46
 have t51 := L.t51; have a51 := L.a51; have z51 := L.z51; have v51 := L.v51
 have t53 := L.t53; have a53 := L.a53; have z53 := L.z53; have v53 := L.v53
 have t70 := L.t70; have a70 := L.a70; have z70 := L.z70; have v70 := L.v70
 have t72 := L.t72; have a72 := L.a72; have z72 := L.z72; have v72 := L.v72
 have t75 := L.t75; have a75 := L.a75; have z75 := L.z75; have v75 := L.v75
 have t76 := L.t76; have a76 := L.a76; have z76 := L.z76; have v76 := L.v76
 have e99 : ∀ args w, (callFunc (ρ.f 99) args).run P w = .ok (.enter (ρ.f 99) args) w := enters_of L.f99 (by kernel_rfl) rfl
 have e212 : ∀ args w, (callFunc (ρ.f 212) args).run P w = .ok (.enter (ρ.f 212) args) w := enters_of L.f212 (by kernel_rfl) rfl
 go_enter L.f105, Body.n105_ntmps ρ
 go_upto_block 1 with (go_at_fn (ρ.f 212); go_fit hMul; rintro e w' ⟨rfl, hw⟩; rw [hw])
 clear hMul
 go_cut [] (fun wx => w = wx ∧ False)
 case first =>
  go_upto_if 43 with fail
  go_cut [43] (fun s43 wx => w = wx ∧ s43 = .bool true)
  case first =>
   go_wp2
   all_goals (go_meet; exact ⟨rfl, rfl⟩)
  case rest =>
   obtain ⟨rfl, rfl⟩ := hcut
   go_wp2_with (go_at_fn (ρ.f 99); refine (Any.strings_HasPrefix L.ton99 _ _ _).mono ?_; rintro e w' ⟨rfl, hw⟩; rw [hw])
   all_goals (go_ret; first
      | exact ⟨by rw [Lib.fast_ok _ 32 128 (by rfl) _ c c (by rw [show (⟨#[48]⟩ : ByteArray).size = 1 from rfl, Nat.one_mul]) (by omega) (by first | assumption | rfl | decide)] <;> exact congrArg (fun b => Ending.returned (Value.string b)) hS, Below.refl _ _⟩
      | exact ⟨by rw [Lib.fast_ok _ 45 128 (by rfl) _ c c (by rw [show (⟨#[48]⟩ : ByteArray).size = 1 from rfl, Nat.one_mul]) (by omega) (by first | assumption | rfl | decide)] <;> exact congrArg (fun b => Ending.returned (Value.string b)) hS, Below.refl _ _⟩
      | exact ⟨by rw [Lib.fast_ok _ 48 64 (by rfl) _ c c (by rw [show (⟨#[48]⟩ : ByteArray).size = 1 from rfl, Nat.one_mul]) (by omega) (by first | assumption | rfl | decide)] <;> exact congrArg (fun b => Ending.returned (Value.string b)) hS, Below.refl _ _⟩
      | exact ⟨by rw [Lib.fast_ok _ 61 128 (by rfl) _ c c (by rw [show (⟨#[48]⟩ : ByteArray).size = 1 from rfl, Nat.one_mul]) (by omega) (by first | assumption | rfl | decide)] <;> exact congrArg (fun b => Ending.returned (Value.string b)) hS, Below.refl _ _⟩
      | exact ⟨by rw [Lib.fast_ok _ 9 64 (by rfl) _ c c (by rw [show (⟨#[48]⟩ : ByteArray).size = 1 from rfl, Nat.one_mul]) (by omega) (by first | assumption | rfl | decide)] <;> exact congrArg (fun b => Ending.returned (Value.string b)) hS, Below.refl _ _⟩)
 case rest => exact hcut.2.elim
set_option maxRecDepth 1000000 in
theorem Rl.zero (L : RL P ρ) (s : ByteArray) (w : World) :
  Calls P (ρ.f 105) #[.string s, .int .i64 0] w fun e w' => e = .returned (.string ⟨#[]⟩) ∧ w' = w := by
 have t0 := L.t0; have a0 := L.a0; have z0 := L.z0; have v0 := L.v0
 have t3 := L.t3; have a3 := L.a3; have z3 := L.z3; have v3 := L.v3
 have t4 := L.t4; have a4 := L.a4; have z4 := L.z4; have v4 := L.v4
 have t5 := L.t5; have a5 := L.a5; have z5 := L.z5; have v5 := L.v5
 have t9 := L.t9; have a9 := L.a9; have z9 := L.z9; have v9 := L.v9
 have t20 := L.t20; have a20 := L.a20; have z20 := L.z20; have v20 := L.v20
 have t37 := L.t37; have a37 := L.a37; have z37 := L.z37; have v37 := L.v37
 have t46 := L.t46; have a46 := L.a46; have z46 := L.z46; have v46 := L.v46
 have t51 := L.t51; have a51 := L.a51; have z51 := L.z51; have v51 := L.v51
 have t53 := L.t53; have a53 := L.a53; have z53 := L.z53; have v53 := L.v53
 have t70 := L.t70; have a70 := L.a70; have z70 := L.z70; have v70 := L.v70
 have t72 := L.t72; have a72 := L.a72; have z72 := L.z72; have v72 := L.v72
 have t75 := L.t75; have a75 := L.a75; have z75 := L.z75; have v75 := L.v75
 have t76 := L.t76; have a76 := L.a76; have z76 := L.z76; have v76 := L.v76
 go_enter L.f105, Body.n105_ntmps ρ
 go_wp2
 go_ret
 exact ⟨rfl, rfl⟩
set_option maxRecDepth 1000000 in
theorem Rl.one (L : RL P ρ) (s : ByteArray) (w : World) :
  Calls P (ρ.f 105) #[.string s, .int .i64 1] w fun e w' => e = .returned (.string s) ∧ w' = w := by
 have t0 := L.t0; have a0 := L.a0; have z0 := L.z0; have v0 := L.v0
 have t3 := L.t3; have a3 := L.a3; have z3 := L.z3; have v3 := L.v3
 have t4 := L.t4; have a4 := L.a4; have z4 := L.z4; have v4 := L.v4
 have t5 := L.t5; have a5 := L.a5; have z5 := L.z5; have v5 := L.v5
 have t9 := L.t9; have a9 := L.a9; have z9 := L.z9; have v9 := L.v9
 have t20 := L.t20; have a20 := L.a20; have z20 := L.z20; have v20 := L.v20
 have t37 := L.t37; have a37 := L.a37; have z37 := L.z37; have v37 := L.v37
 have t46 := L.t46; have a46 := L.a46; have z46 := L.z46; have v46 := L.v46
 have t51 := L.t51; have a51 := L.a51; have z51 := L.z51; have v51 := L.v51
 have t53 := L.t53; have a53 := L.a53; have z53 := L.z53; have v53 := L.v53
 have t70 := L.t70; have a70 := L.a70; have z70 := L.z70; have v70 := L.v70
 have t72 := L.t72; have a72 := L.a72; have z72 := L.z72; have v72 := L.v72
 have t75 := L.t75; have a75 := L.a75; have z75 := L.z75; have v75 := L.v75
 have t76 := L.t76; have a76 := L.a76; have z76 := L.z76; have v76 := L.v76
 go_enter L.f105, Body.n105_ntmps ρ
 go_wp2
 go_ret
 exact ⟨rfl, rfl⟩
theorem rep_pcall (L : RL P ρ) : ∀ xs r, prim343 xs = some r → PCall P (ρ.f 105) xs (· = r) := by
 intro xs r h
 unfold prim343 at h
 split at h
 ·rename_i n
  split at h
  ·rename_i hn
   cases h
   refine ⟨enters_of L.f105 (by kernel_rfl) rfl, fun w S cargs hsz hC hS => ?_⟩
   obtain ⟨v0, v1, rfl⟩ := two_args hsz
   have c0 := s_inv (hC 0 _ _ rfl rfl)
   have c1 : v1 = .int .i64 n := by
    have := hC 1 _ _ rfl rfl
    cases this
    rfl
   subst c0 c1
   obtain ⟨c, rfl⟩ : ∃ c : Nat, n = c := ⟨n.toNat, by omega⟩
   rw [Int.toNat_natCast]
   by_cases h0 : c = 0
   ·subst h0
    refine (Rl.zero L _ w).mono ?_
    rintro e w' ⟨rfl, rfl⟩
    exact ⟨_, _, rfl, rfl, Below.refl _ _, .s _⟩
   by_cases h1 : c = 1
   ·subst h1
    refine (Rl.one L _ w).mono ?_
    rintro e w' ⟨rfl, rfl⟩
    exact ⟨_, _, rfl, rfl, Below.refl _ _, .s _⟩
   refine (Rl.rep L c w (by omega) (by omega)).mono ?_
   rintro e w' ⟨rfl, hb⟩
   exact ⟨_, _, rfl, rfl, hb, .s _⟩
  ·cases h
 ·cases h
end Go.Proofs
end

section
namespace Go.Proofs
open Go.Shelf Go.RowKit
set_option maxRecDepth 100000
def Tryz.sren : Ren := ⟨fun | 99 => 45 | 105 => 33 | 119 => 115 | 137 => 114 | 152 => 77 | 153 => 40 | 165 => 73 | 166 => 57 | 169 => 59 | 170 => 74 | 206 => 85 | 212 => 72 | 217 => 136 | 224 => 116 | 225 => 117 | 226 => 78 | 227 => 79 | 228 => 80 | 263 => 108 | 264 => 109 | 266 => 142 | n => n, fun | 0 => 0 | 3 => 3 | 4 => 4 | 5 => 5 | 9 => 9 | 20 => 20 | 21 => 21 | 37 => 87 | 46 => 81 | 51 => 42 | 53 => 49 | 70 => 86 | 72 => 89 | 75 => 91 | 76 => 92 | 80 => 95 | 109 => 107 | 116 => 117 | 117 => 118 | 124 => 136 | 127 => 137 | 146 => 141 | 148 => 143 | 164 => 153 | n => n, fun | 1 => 0 | n => n⟩
theorem Tryz.lays105 : RL Tryz.prog Tryz.sren := {
 mixed := by kernel_rfl,
 f99 := Tryz.func45.trans (congrArg some (by kernel_rfl)),
 f105 := Tryz.func33.trans (congrArg some (by kernel_rfl)),
 f206 := Tryz.func85.trans (congrArg some (by kernel_rfl)),
 f212 := Tryz.func72.trans (congrArg some (by kernel_rfl)),
 f263 := Tryz.func108.trans (congrArg some (by kernel_rfl)),
 f264 := Tryz.func109.trans (congrArg some (by kernel_rfl)),
 t0 := Tryz.underlying0,
 a0 := Tryz.isAgg0,
 z0 := Tryz.sizeOf0,
 v0 := Tryz.zeroValue0,
 t3 := Tryz.underlying3,
 a3 := Tryz.isAgg3,
 z3 := Tryz.sizeOf3,
 v3 := Tryz.zeroValue3,
 t4 := Tryz.underlying4,
 a4 := Tryz.isAgg4,
 z4 := Tryz.sizeOf4,
 v4 := Tryz.zeroValue4,
 t5 := Tryz.underlying5,
 a5 := Tryz.isAgg5,
 z5 := Tryz.sizeOf5,
 v5 := Tryz.zeroValue5,
 t9 := Tryz.underlying9,
 a9 := Tryz.isAgg9,
 z9 := Tryz.sizeOf9,
 v9 := Tryz.zeroValue9,
 t20 := Tryz.underlying20,
 a20 := Tryz.isAgg20,
 z20 := Tryz.sizeOf20,
 v20 := Tryz.zeroValue20,
 t37 := Tryz.underlying87,
 a37 := Tryz.isAgg87,
 z37 := Tryz.sizeOf87,
 v37 := Tryz.zeroValue87,
 t46 := Tryz.underlying81,
 a46 := Tryz.isAgg81,
 z46 := Tryz.sizeOf81,
 v46 := Tryz.zeroValue81,
 t51 := Tryz.underlying42,
 a51 := Tryz.isAgg42,
 z51 := Tryz.sizeOf42,
 v51 := Tryz.zeroValue42,
 t53 := Tryz.underlying49,
 a53 := Tryz.isAgg49,
 z53 := Tryz.sizeOf49,
 v53 := Tryz.zeroValue49,
 t70 := Tryz.underlying86,
 a70 := Tryz.isAgg86,
 z70 := Tryz.sizeOf86,
 v70 := Tryz.zeroValue86,
 t72 := Tryz.underlying89,
 a72 := Tryz.isAgg89,
 z72 := Tryz.sizeOf89,
 v72 := Tryz.zeroValue89,
 t75 := Tryz.underlying91,
 a75 := Tryz.isAgg91,
 z75 := Tryz.sizeOf91,
 v75 := Tryz.zeroValue91,
 t76 := Tryz.underlying92,
 a76 := Tryz.isAgg92,
 z76 := Tryz.sizeOf92,
 v76 := Tryz.zeroValue92,
 t109 := Tryz.underlying107,
 a109 := Tryz.isAgg107,
 z109 := Tryz.sizeOf107,
 v109 := Tryz.zeroValue107,
 t127 := Tryz.underlying137,
 a127 := Tryz.isAgg137,
 z127 := Tryz.sizeOf137,
 v127 := Tryz.zeroValue137,
 t146 := Tryz.underlying141,
 a146 := Tryz.isAgg141,
 z146 := Tryz.sizeOf141,
 v146 := Tryz.zeroValue141,
 t148 := Tryz.underlying143,
 a148 := Tryz.isAgg143,
 z148 := Tryz.sizeOf143,
 v148 := Tryz.zeroValue143,
 t164 := Tryz.underlying153,
 a164 := Tryz.isAgg153,
 z164 := Tryz.sizeOf153,
 v164 := Tryz.zeroValue153 }
theorem Tryz.lays153 : Lays.n153 Tryz.prog Tryz.sren := {
 mixed := by kernel_rfl,
 f119 := Tryz.func115.trans (congrArg some (by kernel_rfl)),
 f137 := Tryz.func114.trans (congrArg some (by kernel_rfl)),
 f152 := Tryz.func77.trans (congrArg some (by kernel_rfl)),
 f153 := Tryz.func40.trans (congrArg some (by kernel_rfl)),
 f217 := Tryz.func136.trans (congrArg some (by kernel_rfl)),
 f224 := Tryz.func116.trans (congrArg some (by kernel_rfl)),
 f225 := Tryz.func117.trans (congrArg some (by kernel_rfl)),
 f226 := Tryz.func78.trans (congrArg some (by kernel_rfl)),
 f227 := Tryz.func79.trans (congrArg some (by kernel_rfl)),
 f228 := Tryz.func80.trans (congrArg some (by kernel_rfl)),
 f266 := Tryz.func142.trans (congrArg some (by kernel_rfl)),
 t0 := Tryz.underlying0,
 a0 := Tryz.isAgg0,
 z0 := Tryz.sizeOf0,
 v0 := Tryz.zeroValue0,
 t3 := Tryz.underlying3,
 a3 := Tryz.isAgg3,
 z3 := Tryz.sizeOf3,
 v3 := Tryz.zeroValue3,
 t4 := Tryz.underlying4,
 a4 := Tryz.isAgg4,
 z4 := Tryz.sizeOf4,
 v4 := Tryz.zeroValue4,
 t5 := Tryz.underlying5,
 a5 := Tryz.isAgg5,
 z5 := Tryz.sizeOf5,
 v5 := Tryz.zeroValue5,
 t9 := Tryz.underlying9,
 a9 := Tryz.isAgg9,
 z9 := Tryz.sizeOf9,
 v9 := Tryz.zeroValue9,
 t21 := Tryz.underlying21,
 a21 := Tryz.isAgg21,
 z21 := Tryz.sizeOf21,
 v21 := Tryz.zeroValue21,
 t46 := Tryz.underlying81,
 a46 := Tryz.isAgg81,
 z46 := Tryz.sizeOf81,
 v46 := Tryz.zeroValue81,
 t116 := Tryz.underlying117,
 a116 := Tryz.isAgg117,
 z116 := Tryz.sizeOf117,
 t117 := Tryz.underlying118,
 a117 := Tryz.isAgg118,
 z117 := Tryz.sizeOf118,
 v117 := Tryz.zeroValue118,
 t124 := Tryz.underlying136,
 a124 := Tryz.isAgg136,
 z124 := Tryz.sizeOf136,
 v124 := Tryz.zeroValue136 }
end Go.Proofs
namespace Go.Proofs.YtoogmjnkclcjjaaGreatDoor
open Go.Ab
theorem str343_ok : ∀ xs r, prim343 xs = some r → PCall Tryz.prog (nu 343) xs (· = r) := by
 have e : nu 343 = Tryz.sren.f 105 := by kernel_rfl
 rw [e]
 exact rep_pcall Tryz.lays105
theorem str344_ok : ∀ xs r, prim344 xs = some r → PCall Tryz.prog (nu 344) xs (· = r) := by
 have e : nu 344 = Tryz.sren.f 153 := by kernel_rfl
 rw [e]
 exact indexAny_pcall Tryz.lays153 (by kernel_rfl)
end Go.Proofs.YtoogmjnkclcjjaaGreatDoor
end

section
namespace Go.Ab
open Go.ChangeShapes Go.WideShapes Go.ChangeAt Go.RowKit
theorem post_of_below {H : Type} {enc : TypeId × Value → H} {P : Program} {f : Func} {s : ChangeSpec} {apart fresh handsOn again : Bool} {W W' : World} {args : Array Value} {v : Value} {ds gs : List (DataW H)} {before pa pv : List MemPlace}
  (hW : DataW.Whole enc P f.params.toList s.vars apart W args.toList ds gs before)
  (hres : ∀ (b : Nat) (sp : Nat → Bool) (hd : Bool), DataW.TrodAll enc P W' b sp hd f.resultTypes.toList (v.resultList f.resultTypes.size) (s.fn H (ds ++ gs)).results [])
  (hargs : ∀ sp : Nat → Bool, (∀ p ∈ before, sp p.block = true) → DataW.TrodAll enc P W' 0 sp true f.params.toList args.toList (s.fn H (ds ++ gs)).args pa)
  (hvars : ∀ sp : Nat → Bool, (∀ p ∈ before, sp p.block = true) → DataW.TrodVars enc P W' sp s.vars (s.fn H (ds ++ gs)).vars pv)
  (hps : before = pa ++ pv) (hw : Below W.heap.size W W')
  (hok : ∀ (j : Nat) (t : TypeId) (r : Value), f.resultTypes[j]? = some t → (v.resultList f.resultTypes.size)[j]? = some r → Value.okWide P W' .any 0 t r) :
  s.post enc P f apart fresh handsOn again W args v W' := by
 have hold : ∀ p ∈ before, (fun b => decide (b < W.heap.size)) p.block = true := fun p hp => by simpa using hW.lt p hp
 have hlt : ∀ p ∈ before, p.block < W.heap.size := fun p hp => hW.lt p hp
 refine ⟨ds, gs, before, [], pa, pv, hW, hres _ _ _, hargs _ hold, hvars _ hold, World.keptBut_mono (fun p hp => ⟨hp, ?_⟩) (hw.frame (· ∈ before)), fun _ => ?_⟩
 ·rw [hps, List.mem_append] at hp
  exact Or.inr hp
 ·obtain ⟨_, _, _, _, _, hz, hn⟩ := hW
  refine ⟨hok, _, _, ([] ++ pa) ++ pv, ⟨[] ++ pa, pv, trodAll_append (hargs _ (fun _ _ => rfl)) (hres _ _ _), hvars _ (fun _ _ => rfl), rfl, ?_, ?_⟩, ?_⟩
  ·intro b off hp
   have hp' : MemPlace.cell b off ∈ before := by rw [hps]; simpa using hp
   rw [hw.frozen (p := ⟨b, off, none⟩) (hlt _ hp')]
   exact hz b off hp'
  ·intro ha
   have := hn ha
   rw [hps] at this
   simpa using this
  ·intro p hp _
   rw [hps]
   simpa using hp
end Go.Ab
end

section
namespace Go.Ab
open Go.ChangeShapes Go.WideShapes Go.ChangeAt Go.RowKit
inductive Ty where
 | int (k : IntKind)
 | bool
 | str
 | sl (r : Ty)
 | nil
 | cons (a : Ty) (r : Ty)
def Ty.z : Ty → Nat
 | .nil => 0
 | .cons a r => a.z + r.z
 | _ => 1
def Ok : Ty → List AV → Prop
 | .int k, cs => ∃ n, cs = [.i k n] ∧ (Lit.int k n).wf = true
 | .bool, cs => ∃ b, cs = [.b b]
 | .str, cs => ∃ l, cs = [.s l] ∧ l.length ≤ maxLen
 | .sl r, cs => ∃ els f, cs = [.sl els f] ∧ els.length ≤ maxLen ∧ (f = .nl ∧ els = [] ∨ f = .so) ∧ ∀ row ∈ els, Ok r row
 | .nil, cs => cs = []
 | .cons a r, cs => ∃ c1 c2, cs = c1 ++ c2 ∧ Ok a c1 ∧ Ok r c2
theorem Ok.len : ∀ {ty : Ty} {cs : List AV}, Ok ty cs → cs.length = ty.z
 | .int _, _, ⟨_, h, _⟩ => by rw [h]; rfl
 | .bool, _, ⟨_, h⟩ => by rw [h]; rfl
 | .str, _, ⟨_, h, _⟩ => by rw [h]; rfl
 | .sl _, _, ⟨_, _, h, _⟩ => by rw [h]; rfl
 | .nil, _, h => by rw [show _ = [] from h]; rfl
 | .cons _ _, _, ⟨_, _, h, h1, h2⟩ => by rw [h, List.length_append, h1.len, h2.len]; rfl
def RowC (w : World) (S : Nat → Nat → Prop) (cs : List Value) (xs : List AV) : Prop :=
 xs.length = cs.length ∧ ∀ (j : Nat) (v : Value) (c : AV), cs[j]? = some v → xs[j]? = some c → CP w S v c ∧ v.oneCell' = true
section
variable {H : Type} {enc : TypeId × Value → H} {P : Program} {w : World} {base : Nat} {held : Bool} {S : Nat → Nat → Prop}
theorem RowC.nil : RowC w S [] [] := ⟨rfl, fun j v c h => by simp at h⟩
theorem RowC.one {v : Value} {c : AV} (h : CP w S v c) (h1 : v.oneCell' = true) : RowC w S [v] [c] := by
 refine ⟨rfl, fun j v' c' hv hc => ?_⟩
 cases j with
 | zero => simp at hv hc; subst hv; subst hc; exact ⟨h, h1⟩
 | succ j => simp at hv
theorem RowC.append {cs cs' : List Value} {xs xs' : List AV} (h : RowC w S cs xs) (h' : RowC w S cs' xs') : RowC w S (cs ++ cs') (xs ++ xs') := by
 refine ⟨by rw [List.length_append, List.length_append, h.1, h'.1], fun j v c hv hc => ?_⟩
 by_cases hj : j < cs.length
 ·rw [List.getElem?_append_left hj] at hv
  rw [List.getElem?_append_left (by rw [h.1]; exact hj)] at hc
  exact h.2 j v c hv hc
 ·rw [List.getElem?_append_right (by omega)] at hv
  rw [List.getElem?_append_right (by rw [h.1]; omega), h.1] at hc
  exact h'.2 _ v c hv hc
def fieldsTy (P : Program) (g : TypeId → Option Ty) (tot : Nat) : Nat → List Field → Option Ty
 | off, [] => if off = tot then some .nil else none
 | off, f :: fs => (g f.type).bind fun a => if f.offset = off ∧ a.z = P.cellsOf f.type then (fieldsTy P g tot (off + a.z) fs).map (.cons a) else none
def repTy : Nat → Ty → Ty
 | 0, _ => .nil
 | n + 1, a => .cons a (repTy n a)
def tyOf (P : Program) : Nat → TypeId → Option Ty
 | 0, _ => none
 | n + 1, t =>
  match P.underlying t with
  | some .bool => some .bool
  | some (.int k) => some (.int k)
  | some .string => some .str
  | some (.slice e) => (tyOf P n e).bind fun r => if r.z = P.cellsOf e ∧ 0 < r.z then some (.sl r) else none
  | some (.struct fs) => fieldsTy P (tyOf P n) (P.cellsOf t) 0 fs.toList
  | some (.array k e) => (tyOf P n e).bind fun a => if a.z = P.cellsOf e ∧ k * a.z = P.cellsOf t then some (repTy k a) else none
  | _ => none
theorem list_of {α : Type} {Q : Nat → α → Prop} : ∀ (n : Nat), (∀ i, i < n → ∃ x, Q i x) → ∃ l : List α, l.length = n ∧ ∀ i x, l[i]? = some x → Q i x
 | 0, _ => ⟨[], rfl, fun i x h => by simp at h⟩
 | n + 1, h => by
  obtain ⟨l, hl, hq⟩ := list_of n fun i hi => h i (by omega)
  obtain ⟨x, hx⟩ := h n (by omega)
  refine ⟨l ++ [x], by simp [hl], fun i y hy => ?_⟩
  by_cases hi : i < n
  ·rw [List.getElem?_append_left (by omega)] at hy
   exact hq i y hy
  ·rw [List.getElem?_append_right (by omega)] at hy
   have : i - l.length = 0 := by
    have := (List.getElem?_eq_some_iff.1 hy).1
    simp at this
    omega
   rw [this] at hy
   simp at hy
   subst hy
   have e : i = n := by omega
   rw [e]
   exact hx
def Places (S : Nat → Nat → Prop) (ps : List MemPlace) : Prop := ∀ k o, MemPlace.cell k o ∈ ps → S k o
theorem fields_open {n : Nat} {g : TypeId → Option Ty} {cs : List Value}
  (ih : ∀ t cs x ty, DataW.trod enc P w base (fun _ => true) held n t cs = some x → g t = some ty → Places S x.2 → ∃ xs, Ok ty xs ∧ RowC w S cs xs) :
  ∀ (fs : List Field) (off : Nat) (ty : Ty) (ys : List (DataW H × List MemPlace)),
   ys.length = fs.length → (∀ (i : Nat) (f : Field), fs[i]? = some f → DataW.trod enc P w base (fun _ => true) held n f.type ((cs.drop f.offset).take (P.cellsOf f.type)) = ys[i]?) →
   fieldsTy P g cs.length off fs = some ty → Places S (ys.flatMap (·.2)) → ∃ xs, Ok ty xs ∧ RowC w S (cs.drop off) xs
 | [], off, ty, ys, hl, hm, ht, hp => by
  simp only [fieldsTy] at ht
  split at ht <;> cases ht
  rename_i ho
  exact ⟨[], rfl, by rw [ho, List.drop_length]; exact RowC.nil⟩
 | f :: fs, off, ty, [], hl, hm, ht, hp => by simp at hl
 | f :: fs, off, ty, y :: ys1, hl, hm, ht, hp => by
  simp only [fieldsTy] at ht
  obtain ⟨a, ha, ht1⟩ := bind_some ht
  split at ht1
  ·rename_i hc
   obtain ⟨ho, hz⟩ := hc
   obtain ⟨r, hr, rfl⟩ := map_some ht1
   have hy := hm 0 f rfl
   rw [ho, ← hz] at hy
   simp only [List.getElem?_cons_zero] at hy
   obtain ⟨xs1, ho1, hr1⟩ := ih _ _ _ _ hy ha fun k o h => hp k o (by simp [h])
   obtain ⟨xs2, ho2, hr2⟩ := fields_open ih fs _ r ys1 (by simpa using hl) (fun i f' hf => by simpa using hm (i + 1) f' (by simpa using hf)) hr fun k o h => hp k o (by
    rw [List.flatMap_cons, List.mem_append]
    exact .inr h)
   refine ⟨xs1 ++ xs2, ⟨xs1, xs2, rfl, ho1, ho2⟩, ?_⟩
   have e : cs.drop off = (cs.drop off).take a.z ++ cs.drop (off + a.z) := by rw [← List.drop_drop, List.take_append_drop]
   rw [e]
   exact hr1.append hr2
  ·cases ht1
theorem array_open {n : Nat} {e : TypeId} {r : Ty} (ih : ∀ cs x, DataW.trod enc P w base (fun _ => true) held n e cs = some x → Places S x.2 → ∃ xs, Ok r xs ∧ RowC w S cs xs) :
  ∀ (k : Nat) (cs : List Value) (ys : List (DataW H × List MemPlace)), ys.length = k → cs.length = k * r.z →
   (∀ (i : Nat), i < k → DataW.trod enc P w base (fun _ => true) held n e ((cs.drop (i * r.z)).take r.z) = ys[i]?) → Places S (ys.flatMap (·.2)) → ∃ xs, Ok (repTy k r) xs ∧ RowC w S cs xs
 | 0, cs, ys, hl, hc, hm, hp => by
  rw [Nat.zero_mul, List.length_eq_zero_iff] at hc
  subst hc
  exact ⟨[], rfl, RowC.nil⟩
 | k + 1, cs, [], hl, hc, hm, hp => by simp at hl
 | k + 1, cs, y :: ys, hl, hc, hm, hp => by
  have hy := hm 0 (by omega)
  rw [Nat.zero_mul, List.drop_zero] at hy
  simp only [List.getElem?_cons_zero] at hy
  obtain ⟨xs1, ho1, hr1⟩ := ih _ _ hy fun k o h => hp k o (by simp [h])
  obtain ⟨xs2, ho2, hr2⟩ := array_open ih k (cs.drop r.z) ys (by simpa using hl) (by rw [List.length_drop, hc, Nat.succ_mul]; omega) (fun i hi => by
   have := hm (i + 1) (by omega)
   rw [Nat.succ_mul, Nat.add_comm (i * r.z), ← List.drop_drop] at this
   simpa using this) fun k o h => hp k o (by
    rw [List.flatMap_cons, List.mem_append]
    exact .inr h)
  refine ⟨xs1 ++ xs2, ⟨xs1, xs2, rfl, ho1, ho2⟩, ?_⟩
  have e : cs = cs.take r.z ++ cs.drop r.z := (List.take_append_drop ..).symm
  rw [e]
  exact hr1.append hr2
theorem row_cell {a : Addr} {m z : Nat} {cs : List Value} (h : w.cells? base (a.add m) z = some cs) (j : Nat) (hj : j < z) : w.cell? ((a.add m).add j) = cs[j]? := (World.cells?_some h).2.2 j hj
theorem cell_spot {a : Addr} {v : Value} (h : w.cell? a = some v) : a.spot = none := by
 unfold World.cell? at h
 split at h
 ·split at h
  ·cases h
  ·rename_i hs; simpa using hs
 ·cases h
theorem trod_open : ∀ (n m : Nat) (t : TypeId) (cs : List Value) (x : DataW H × List MemPlace) (ty : Ty),
  DataW.trod enc P w base (fun _ => true) held n t cs = some x → tyOf P m t = some ty → Places S x.2 → ∃ xs, Ok ty xs ∧ RowC w S cs xs
 | 0, _, _, _, _, _, h, _, _ => by simp [DataW.trod] at h
 | n + 1, 0, _, _, _, _, _, ht, _ => by simp [tyOf] at ht
 | n + 1, m + 1, t, cs, x, ty, h, ht, hp => by
  simp only [tyOf] at ht
  split at ht
  ·rename_i hu
   cases ht
   obtain ⟨b, rfl, rfl⟩ := DataW.trod_bool hu h
   exact ⟨[.b b], ⟨b, rfl⟩, RowC.one (.b b) rfl⟩
  ·rename_i k hu
   cases ht
   obtain ⟨z, rfl, rfl, hw⟩ := DataW.trod_int hu h
   exact ⟨[.i k z], ⟨z, rfl, hw⟩, RowC.one (.i k z) rfl⟩
  ·rename_i hu
   cases ht
   obtain ⟨s, rfl, rfl, hs⟩ := DataW.trod_string hu h
   exact ⟨[.s s.data.toList], ⟨_, rfl, by simpa using hs⟩, RowC.one (.s s.data.toList) rfl⟩
  ·rename_i e hu
   obtain ⟨r, hr, ht1⟩ := bind_some ht
   split at ht1
   ·rename_i hz
    cases ht1
    obtain ⟨hz, hzp⟩ := hz
    rcases DataW.trod_slice hu h with ⟨rfl, rfl⟩ | ⟨a, len, cap, elems, rest, n', hn', rfl, rfl, hb, hl, hmx, hlen, hel, hsp, hns⟩
    ·exact ⟨[.sl [] .nl], ⟨[], .nl, rfl, Nat.zero_le _, .inl ⟨rfl, rfl⟩, fun row h => by simp at h⟩, RowC.one (.slnil _ (.inl rfl)) rfl⟩
    ·cases hn'
     obtain ⟨hrl, hrest⟩ := hsp rfl
     have hall : ∀ i, i < cap → ∃ y cs', y ∈ elems ++ rest ∧ w.cells? base (a.add (i * P.cellsOf e)) (P.cellsOf e) = some cs' ∧ DataW.trod enc P w base (fun _ => true) held n e cs' = some y := by
      intro i hi
      by_cases hil : i < len
      ·have h1 := hel i hil
       rw [List.getElem?_eq_getElem (by omega)] at h1
       obtain ⟨cs', h2, h3⟩ := bind_some h1
       exact ⟨_, cs', List.mem_append_left _ (List.getElem_mem (by omega)), h2, h3⟩
      ·have h1 := hrest (i - len) (by omega)
       rw [List.getElem?_eq_getElem (by omega), show len + (i - len) = i by omega] at h1
       obtain ⟨cs', h2, h3⟩ := bind_some h1
       exact ⟨_, cs', List.mem_append_right _ (List.getElem_mem (by omega)), h2, h3⟩
     by_cases hcap : cap = 0
     ·have hl0 : len = 0 := by omega
      subst hcap
      subst hl0
      exact ⟨[.sl [] .so], ⟨[], .so, rfl, Nat.zero_le _, .inr rfl, fun row h => by simp at h⟩, RowC.one (.slz a _ (.inl rfl)) rfl⟩
     ·have hspot : a.spot = none := by
       obtain ⟨y, cs', _, h2, _⟩ := hall 0 (by omega)
       have h3 := row_cell h2 0 (by omega)
       have h4 := (World.cells?_some h2).2.1
       rw [List.getElem?_eq_getElem (by omega)] at h3
       have h5 := cell_spot h3
       simpa [Addr.add] using h5
      obtain ⟨blk, off, sp⟩ := a
      simp only at hspot
      subst hspot
      have hrows : ∀ i, i < len → ∃ xs, Ok r xs ∧ ∃ cs', w.cells? base ((⟨blk, off, none⟩ : Addr).add (i * P.cellsOf e)) (P.cellsOf e) = some cs' ∧ RowC w S cs' xs := by
       intro i hi
       obtain ⟨y, cs', hy, h2, h3⟩ := hall i (by omega)
       obtain ⟨xs, ho, hrc⟩ := trod_open n m e cs' y r h3 hr fun k o hk => hp k o (by
        rw [List.mem_append]
        exact .inr (List.mem_flatMap.2 ⟨y, hy, hk⟩))
       exact ⟨xs, ho, cs', h2, hrc⟩
      obtain ⟨els, hels, hq⟩ := list_of len hrows
      refine ⟨[.sl els .so], ⟨els, .so, rfl, by omega, .inr rfl, fun row hrow => ?_⟩, RowC.one ?_ rfl⟩
      ·obtain ⟨i, hi⟩ := List.getElem?_of_mem hrow
       exact (hq i row hi).1
      ·have hcell : ∀ i j, i < els.length → j < r.z → ∃ v, w.cell? ⟨blk, off + i * r.z + j, none⟩ = some v ∧ v.oneCell' = true ∧ ∀ row c, els[i]? = some row → row[j]? = some c → CP w S v c := by
        intro i j hi hj
        obtain ⟨ho, cs', h2, hrc⟩ := hq i _ (List.getElem?_eq_getElem hi)
        have h3 := row_cell h2 j (by omega)
        have h4 := (World.cells?_some h2).2.1
        rw [add_addr, add_addr, ← hz, List.getElem?_eq_getElem (by omega)] at h3
        have hlr := ho.len
        have h5 := hrc.2 j _ _ (List.getElem?_eq_getElem (by omega)) (List.getElem?_eq_getElem (by omega))
        refine ⟨_, h3, h5.2, fun row c hrow hc => ?_⟩
        rw [List.getElem?_eq_getElem hi] at hrow
        cases hrow
        rw [List.getElem?_eq_getElem (by omega)] at hc
        cases hc
        exact h5.1
       have hS : ∀ i j, i < els.length → j < r.z → S blk (off + i * r.z + j) := by
        intro i j hi hj
        refine hp _ _ ?_
        rw [List.mem_append]
        left
        unfold MemPlace.row
        rw [List.mem_map]
        refine ⟨i * r.z + j, ?_, by rw [Nat.add_assoc]⟩
        rw [List.mem_range, ← hz]
        have h1 : (i + 1) * r.z ≤ (elems.length + rest.length) * r.z := Nat.mul_le_mul_right _ (by omega)
        rw [Nat.add_mul, Nat.one_mul] at h1
        omega
       have := CP.sl (w := w) (S := S) blk off r.z cap els .so (fun i j => (w.cell? ⟨blk, off + i * r.z + j, none⟩).getD undef) (by simp) (by simp) (by omega) hmx
        (fun i row hrow => (hq i row hrow).1.len) (fun i j hi hj => ?_) (fun i row j c hrow hc => ?_)
       ·rw [hels] at this
        exact this
       ·obtain ⟨v, h1, h2, _⟩ := hcell i j hi hj
        exact ⟨hS i j hi hj, by rw [h1]; rfl, by rw [h1]; exact h2⟩
       ·have hi := (List.getElem?_eq_some_iff.1 hrow).1
        have hj := (List.getElem?_eq_some_iff.1 hc).1
        rw [(hq i row hrow).1.len] at hj
        obtain ⟨v, h1, _, h3⟩ := hcell i j hi hj
        show CP w S ((w.cell? ⟨blk, off + i * r.z + j, none⟩).getD undef) c
        rw [h1]
        exact h3 row c hrow hc
   ·cases ht1
  ·rename_i fs hu
   obtain ⟨xs, n', hn', rfl, hcl, hxl, hx⟩ := DataW.trod_struct hu h
   cases hn'
   rw [← hcl] at ht
   have := fields_open (S := S) (g := tyOf P m) (cs := cs) (n := n) (fun t cs x ty h1 h2 h3 => trod_open n m t cs x ty h1 h2 h3) fs.toList 0 ty xs (by rw [hxl]; simp) (fun i f hf => hx i f (by simpa using hf)) ht hp
   simpa using this
  ·rename_i k e hu
   obtain ⟨r, hr, ht1⟩ := bind_some ht
   split at ht1
   ·rename_i hz
    cases ht1
    obtain ⟨hz, hzt⟩ := hz
    obtain ⟨xs, n', hn', rfl, hcl, hxl, hx⟩ := DataW.trod_array hu h
    cases hn'
    rw [← hz] at hx
    exact array_open (S := S) (n := n) (e := e) (r := r) (fun cs x h1 h3 => trod_open n m e cs x r h1 hr h3) k cs xs hxl (by omega) hx hp
   ·cases ht1
  ·cases ht
end
end Go.Ab
end

section
namespace Go.Ab
open Go.ChangeShapes Go.WideShapes Go.ChangeAt Go.RowKit
def isAgg (P : Program) (t : TypeId) : Bool := match P.underlying t with | some (.struct _) => true | some (.array _ _) => true | _ => false
def tysOf (P : Program) (m : Nat) : List TypeId → Option (List (Bool × Ty))
 | [] => some []
 | t :: ts => (tyOf P m t).bind fun a => (tysOf P m ts).map fun r => (isAgg P t, a) :: r
def OkArg : Bool × Ty → AV → Prop
 | (true, ty), x => ∃ cs, x = .agg cs ∧ Ok ty cs
 | (false, ty), x => Ok ty [x]
def OkArgs : List (Bool × Ty) → List AV → Prop
 | [], xs => xs = []
 | a :: r, xs => ∃ x ys, xs = x :: ys ∧ OkArg a x ∧ OkArgs r ys
section
variable {H : Type} {enc : TypeId × Value → H} {P : Program} {w : World} {S : Nat → Nat → Prop}
theorem arg_open {m : Nat} {t : TypeId} {v : Value} {d : DataW H} {p : List MemPlace} {ty : Ty} {base : Nat} (hA : DataW.Trod enc P w 0 (fun _ => true) true t v d p) (hT : tyOf P m t = some ty)
  (hval : Value.okWide P w .any base t v) (hp : Places S p) : ∃ x, OkArg (isAgg P t, ty) x ∧ CP w S v x := by
 obtain ⟨fuel, hf⟩ := hA
 obtain ⟨xs, ho, hrc⟩ := trod_open (S := S) fuel m t _ _ ty hf hT hp
 have hlen := ho.len
 cases hu : P.underlying t with
 | none => cases m <;> simp [tyOf, hu] at hT
 | some desc =>
  have one : ∀ (hag : isAgg P t = false) (hz : ty.z = 1) (hv : v.cells = #[v]), ∃ x, OkArg (isAgg P t, ty) x ∧ CP w S v x := by
   intro hag hz hv
   rw [hag]
   match xs, hlen with
   | [x], _ =>
    refine ⟨x, ho, ?_⟩
    have := hrc.2 0 v x (by rw [hv]; rfl) rfl
    exact this.1
   | [], h => simp [hz] at h
   | _ :: _ :: _, h => simp [hz] at h
  cases m with
  | zero => simp [tyOf] at hT
  | succ m =>
  cases desc <;> simp only [tyOf, hu] at hT <;> try (cases hT; done)
  case struct fs =>
   have hag : isAgg P t = true := by simp [isAgg, hu]
   rw [hag]
   unfold Value.okWide at hval
   rw [hu] at hval
   obtain ⟨cs, rfl, hcs, _⟩ := hval
   refine ⟨.agg xs, ⟨xs, rfl, ho⟩, .agg cs xs ?_ ?_ ?_⟩
   ·have := hrc.1
    simpa [Value.cells] using this.symm
   ·intro j u hu
    have hl := hrc.1
    have hj : j < cs.size := (Array.getElem?_eq_some_iff.1 hu).1
    have hj' : j < xs.length := by rw [hl]; simpa [Value.cells] using hj
    exact (hrc.2 j u _ (by simpa [Value.cells] using hu) (List.getElem?_eq_getElem hj')).2
   ·intro j u c hu hc
    exact (hrc.2 j u c (by simpa [Value.cells] using hu) hc).1
  case array k e =>
   have hag : isAgg P t = true := by simp [isAgg, hu]
   rw [hag]
   unfold Value.okWide at hval
   rw [hu] at hval
   obtain ⟨cs, rfl, hcs, _⟩ := hval
   refine ⟨.agg xs, ⟨xs, rfl, ho⟩, .agg cs xs ?_ ?_ ?_⟩
   ·have := hrc.1
    simpa [Value.cells] using this.symm
   ·intro j u hu
    have hl := hrc.1
    have hj : j < cs.size := (Array.getElem?_eq_some_iff.1 hu).1
    have hj' : j < xs.length := by rw [hl]; simpa [Value.cells] using hj
    exact (hrc.2 j u _ (by simpa [Value.cells] using hu) (List.getElem?_eq_getElem hj')).2
   ·intro j u c hu hc
    exact (hrc.2 j u c (by simpa [Value.cells] using hu) hc).1
  case bool =>
   cases hT
   unfold Value.okWide Cell.okWide Cell.ok at hval
   rw [hu] at hval
   refine one (by simp [isAgg, hu]) rfl ?_
   cases v <;> first | rfl | (exact hval.elim)
  case int k =>
   cases hT
   unfold Value.okWide Cell.okWide Cell.ok at hval
   rw [hu] at hval
   refine one (by simp [isAgg, hu]) rfl ?_
   cases v <;> first | rfl | (exact hval.elim)
  case string =>
   cases hT
   unfold Value.okWide Cell.okWide Cell.ok at hval
   rw [hu] at hval
   refine one (by simp [isAgg, hu]) rfl ?_
   cases v <;> first | rfl | (exact hval.elim)
  case slice e =>
   obtain ⟨r, hr, ht1⟩ := bind_some hT
   split at ht1 <;> cases ht1
   unfold Value.okWide Cell.okWide Cell.ok at hval
   rw [hu] at hval
   refine one (by simp [isAgg, hu]) rfl ?_
   cases v <;> first | rfl | (exact hval.elim)
theorem args_open {m base : Nat} : ∀ (ts : List TypeId) (vs : List Value) (ds : List (DataW H)) (p : List MemPlace) (tys : List (Bool × Ty)), DataW.TrodAll enc P w 0 (fun _ => true) true ts vs ds p → tysOf P m ts = some tys →
  (∀ (j : Nat) t v, ts[j]? = some t → vs[j]? = some v → Value.okWide P w .any base t v) → Places S p →
  ∃ xs, OkArgs tys xs ∧ vs.length = xs.length ∧ ∀ (j : Nat) (v : Value) (c : AV), vs[j]? = some v → xs[j]? = some c → CP w S v c
 | [], vs, ds, p, tys, hA, hT, hval, hp => by
  obtain ⟨rfl, _, _⟩ := trodAll_nil hA
  cases hT
  exact ⟨[], rfl, rfl, fun j v c h => by simp at h⟩
 | t :: ts, vs, ds, p, tys, hA, hT, hval, hp => by
  obtain ⟨v, vs1, d, ds1, a, b, rfl, rfl, rfl, h1, h2⟩ := trodAll_cons hA
  obtain ⟨ty, hty, hT1⟩ := bind_some hT
  obtain ⟨r, hr, rfl⟩ := map_some hT1
  obtain ⟨x, hx, hC⟩ := arg_open (S := S) h1 hty (hval 0 t v rfl rfl) fun k o h => hp k o (List.mem_append_left _ h)
  obtain ⟨xs, ho, hl, hc⟩ := args_open (m := m) (base := base) ts vs1 ds1 b r h2 hr (fun j t v ht hv => hval (j + 1) t v (by simpa using ht) (by simpa using hv)) fun k o h => hp k o (List.mem_append_right _ h)
  refine ⟨x :: xs, ⟨x, xs, rfl, hx, ho⟩, by simp [hl], fun j u c hu hcc => ?_⟩
  cases j with
  | zero => simp at hu hcc; subst hu; subst hcc; exact hC
  | succ j => exact hc j u c (by simpa using hu) (by simpa using hcc)
theorem all_stay (hl : laidOutB P = true) {W W' : World} (hb : Below W.heap.size W W') {sp : Nat → Bool} : ∀ (ts : List TypeId) (vs : List Value) (ds : List (DataW H)) (p : List MemPlace),
  (ts.all fun t => P.readableRec t && decide (t < P.types.size)) = true → DataW.TrodAll enc P W 0 (fun _ => true) true ts vs ds p → (∀ x ∈ p, x.block < W.heap.size) → (∀ x ∈ p, sp x.block = true) → DataW.TrodAll enc P W' 0 sp true ts vs ds p
 | [], _, _, _, _, hA, _, _ => by
  obtain ⟨rfl, rfl, rfl⟩ := trodAll_nil hA
  exact rfl
 | t :: ts, vs, ds, p, hr, hA, hlt, hsp => by
  obtain ⟨v, vs1, d, ds1, a, b, rfl, rfl, rfl, h1, h2⟩ := trodAll_cons hA
  rw [List.all_cons, Bool.and_eq_true, Bool.and_eq_true, decide_eq_true_eq] at hr
  exact ⟨a, b, WideElems.Trod_stays hl hr.1.1 hr.1.2 h1 (fun x hx => hb.same (hlt x (List.mem_append_left _ hx))) (fun x hx => hsp x (List.mem_append_left _ hx)),
   all_stay hl hb ts vs1 ds1 b hr.2 h2 (fun x hx => hlt x (List.mem_append_right _ hx)) (fun x hx => hsp x (List.mem_append_right _ hx)), rfl⟩
theorem all_len : ∀ (ts : List TypeId) (vs : List Value) (ds : List (DataW H)) (p : List MemPlace), DataW.TrodAll enc P w 0 (fun _ => true) true ts vs ds p → ds.length = ts.length
 | [], _, _, _, hA => by
  obtain ⟨rfl, rfl, rfl⟩ := trodAll_nil hA
  rfl
 | t :: ts, vs, ds, p, hA => by
  obtain ⟨v, vs1, d, ds1, a, b, rfl, rfl, rfl, h1, h2⟩ := trodAll_cons hA
  simp [all_len ts vs1 ds1 b h2]
theorem law_step {f : FuncId} {fn : Func} {s : ChangeSpec} {m tb : Nat} {tys : List (Bool × Ty)} {fresh handsOn again : Bool} (hvars : s.vars = []) (hT : tysOf P m fn.params.toList = some tys) (hl : laidOutB P = true)
  (hread : (fn.params.toList.all fun t => P.readableRec t && decide (t < P.types.size)) = true) (hr : fn.resultTypes = #[tb]) (hb : P.underlying tb = some .bool)
  (hfn : ∀ ds : List (DataW H), ds.length = fn.params.toList.length → s.fn H ds = { results := [.lit (.bool true)], args := ds })
  (hcall : ∀ xs, OkArgs tys xs → PCall P f xs (· = .b true)) {W : World} {args : Array Value} {ds gs : List (DataW H)} {before : List MemPlace} {base : Nat}
  (hval : ∀ (j : Nat) t v, fn.params[j]? = some t → args[j]? = some v → Value.okWide P W .any base t v) (hW : DataW.Whole enc P fn.params.toList s.vars false W args.toList ds gs before) :
  Calls P f args W fun e W' => ∃ v, e = .returned v ∧ s.post enc P fn false fresh handsOn again W args v W' := by
 have hW' := hW
 obtain ⟨p, q, hA, hV, rfl, hfz, hnd⟩ := hW
 rw [hvars] at hV
 obtain ⟨rfl, rfl⟩ := trodVars_none hV
 have hlt : ∀ x ∈ p, x.block < W.heap.size := fun x hx => hW'.lt x (List.mem_append_left _ hx)
 obtain ⟨xs, ho, hlen, hC⟩ := args_open (S := fun k o => MemPlace.cell k o ∈ p) _ _ _ _ _ hA hT (fun j t v ht hv => hval j t v (by simpa using ht) (by simpa using hv)) (fun k o h => h)
 have hc := (hcall xs ho).2 W (fun k o => MemPlace.cell k o ∈ p) args (by simpa using hlen) (fun j v c hv hc => hC j v c (by simpa using hv) hc) (fun k o h => hlt _ h)
 refine hc.mono fun e W' ⟨v, r, he, hrr, hbel, hCr⟩ => ?_
 subst he hrr
 have hv : v = .bool true := by cases hCr; rfl
 subst hv
 have hlf := hfn ds (all_len _ _ _ _ hA)
 refine ⟨_, rfl, post_of_below (pa := p) (pv := []) hW' (fun b sp hd => ?_) (fun sp hsp => ?_) (fun sp _ => ?_) rfl hbel (ok_one hr rfl (okWide_bool_mk hb _))⟩
 ·rw [List.append_nil, hlf, hr]
  exact trodAll_mk1 (shut_bool hb _)
 ·rw [List.append_nil, hlf]
  exact all_stay hl hbel _ _ _ _ hread hA hlt fun x hx => hsp x (List.mem_append_left _ hx)
 ·rw [List.append_nil, hlf, hvars]
  exact rfl
end
end Go.Ab
end

section
namespace Go.Ab
theorem words_of : ∀ (els : List (List AV)), (∀ row ∈ els, Ok (.int .u32) row) → ∃ l : List UInt32, els = u32s l
 | [], _ => ⟨[], rfl⟩
 | r :: els, h => by
  obtain ⟨l, rfl⟩ := words_of els fun row hr => h row (List.mem_cons_of_mem _ hr)
  obtain ⟨n, rfl, hw⟩ := h r List.mem_cons_self
  have h1 : 0 ≤ n ∧ n < 4294967296 := by
   simp [Lit.wf, IntKind.min, IntKind.max, IntKind.signed, IntKind.bits] at hw
   omega
  refine ⟨w32 n.toNat :: l, ?_⟩
  have : (w32 n.toNat).toNat = n.toNat := w32_of_lt (by omega)
  simp only [u32s, List.map_cons, this, u32]
  rw [Int.toNat_of_nonneg h1.1]
theorem pcall_wk {P : Program} {ν : Nat → FuncId} {T : Tbl} (hT : TOk P ν T) (hm : P.follows .mixedOrders = true) {u : Nat} {af : AFx} {xs ys : List AV} {r : AV} (hu : T u = some af) (hl : af.lent = none) (h : callF T u ys = some r) (hx : xs.map wkA = ys) : PCall P (ν u) xs (· = r) := by
 subst hx
 have h1 := callF_sound hT hm hu hl h
 exact PCall.wk (ex := false) h1
end Go.Ab
end

section
namespace Go.Ab
abbrev Fz := Bool × List UInt32 × List UInt32
abbrev celF (x : Fz) : List AV := [.b x.1, .sl (u32s x.2.1) .an, .sl (u32s x.2.2) .an]
abbrev efz (x : Fz) : AV := .agg (celF x)
def fv (x : Fz) : Rat := mkRat (wv x.1 x.2.1) (val x.2.2)
def fz (q : Rat) : Fz := (decide (q.num < 0), ofN q.num.natAbs, ofN q.den)
@[simp] theorem fv_fz (q : Rat) : fv (fz q) = q := by
 unfold fv fz
 rw [wv_ez, val_ofN, Rat.mkRat_self]
def fsz (x : Fz) : Nat := max x.2.1.length x.2.2.length
theorem fsz_a (x : Fz) : x.2.1.length ≤ fsz x := Nat.le_max_left ..
theorem fsz_d (x : Fz) : x.2.2.length ≤ fsz x := Nat.le_max_right ..
def sz (q : Rat) : Nat := max (ofN q.num.natAbs).length (ofN q.den).length
theorem sz_num (q : Rat) : (ofN q.num.natAbs).length ≤ sz q := Nat.le_max_left ..
theorem sz_den (q : Rat) : (ofN q.den).length ≤ sz q := Nat.le_max_right ..
theorem ofN_pos_len {n : Nat} (h : n ≠ 0) : 1 ≤ (ofN n).length := by
 have : ofN n ≠ [] := fun e => h (ofN_eq_nil.1 e)
 exact List.length_pos_iff.2 this
theorem sz_pos (q : Rat) : 1 ≤ sz q := Nat.le_trans (ofN_pos_len q.den_nz) (sz_den q)
theorem mk_num {z : Int} {d : Nat} (h : d ≠ 0) : (mkRat z d).num.natAbs = z.natAbs / Nat.gcd z.natAbs d := by
 rw [Rat.num_mkRat, if_neg h, Int.natAbs_ediv_of_dvd (Int.ofNat_dvd_left.2 (Nat.gcd_dvd_right ..)), Int.natAbs_natCast, Nat.gcd_comm]
theorem mk_den {z : Int} {d : Nat} (h : d ≠ 0) : (mkRat z d).den = d / Nat.gcd z.natAbs d := by
 rw [Rat.den_mkRat, if_neg h, Nat.gcd_comm]
theorem mk_sgI {z : Int} {d : Nat} (h : d ≠ 0) : sgI (mkRat z d).num = sgI z := by
 rw [Rat.num_mkRat, if_neg h]
 have hg : 0 < Nat.gcd d z.natAbs := Nat.gcd_pos_of_pos_left _ (Nat.pos_of_ne_zero h)
 obtain ⟨k, hk⟩ : ((Nat.gcd d z.natAbs : Nat) : Int) ∣ z := Int.ofNat_dvd_left.2 (Nat.gcd_dvd_right ..)
 generalize Nat.gcd d z.natAbs = g at *
 have hg' : (0 : Int) < g := by omega
 subst hk
 rw [Int.mul_ediv_cancel_left _ (by omega)]
 unfold sgI
 rcases Int.lt_trichotomy k 0 with h1 | h1 | h1
 ·have := Int.mul_neg_of_pos_of_neg hg' h1
  rw [if_pos h1, if_pos this]
 ·subst h1; simp
 ·have := Int.mul_pos hg' h1
  rw [if_neg (by omega), if_neg (by omega), if_neg (by omega), if_neg (by omega)]
theorem neg_sgI (z : Int) : decide (z < 0) = decide (sgI z < 0) := by
 unfold sgI
 split
 ·simp [*]
 ·split <;> simp [*]
theorem mk_neg {z : Int} {d : Nat} (h : d ≠ 0) : decide ((mkRat z d).num < 0) = decide (z < 0) := by
 rw [neg_sgI, neg_sgI z, mk_sgI h]
theorem fz_mk (n : Bool) (x : Nat) {d : Nat} (h : d ≠ 0) : fz (mkRat (sg n x) d) = (n && decide (x ≠ 0), ofN (x / Nat.gcd x d), ofN (d / Nat.gcd x d)) := by
 unfold fz
 rw [mk_neg h, mk_num h, mk_den h, sg_neg, sg_abs]
theorem ofN_one : ofN 1 = [1] := by
 rw [ofN_pos (by decide), show 1 / 4294967296 = 0 from rfl, ofN_zero]
 rfl
theorem fz_zero : fz 0 = (false, [], [1]) := by
 unfold fz
 rw [Rat.zero_num, Rat.zero_den, ofN_one]
 simp
theorem sz_one : sz 1 = 1 := by
 unfold sz
 rw [Rat.one_num, Rat.one_den, show (1 : Int).natAbs = 1 from rfl, ofN_one]
 rfl
theorem fsz_fz (q : Rat) : fsz (fz q) = sz q := rfl
theorem sz_mk {z : Int} {d L : Nat} (hz : (ofN z.natAbs).length ≤ L) (hd : (ofN d).length ≤ L) (h1 : 1 ≤ L) : sz (mkRat z d) ≤ L := by
 unfold sz
 by_cases h : d = 0
 ·subst h
  rw [Rat.mkRat_zero, Rat.zero_num, Rat.zero_den, ofN_one]
  simp
  omega
 ·rw [mk_num h, mk_den h]
  exact Nat.max_le.2 ⟨Nat.le_trans (ofN_len_le (Nat.div_le_self _ _)) hz, Nat.le_trans (ofN_len_le (Nat.div_le_self _ _)) hd⟩
theorem sz_fv {x : Fz} {L : Nat} (h : fsz x ≤ L) (h1 : 1 ≤ L) : sz (fv x) ≤ L :=
 sz_mk (Nat.le_trans (wv_len _ _) (Nat.le_trans (fsz_a x) h)) (Nat.le_trans (ofN_length_le _) (Nat.le_trans (fsz_d x) h)) h1
theorem nat_mul_len {x y L M : Nat} (hx : (ofN x).length ≤ L) (hy : (ofN y).length ≤ M) : (ofN (x * y)).length ≤ L + M := by
 have := abs_mul_len (x := (x : Int)) (y := (y : Int)) (L := L) (M := M) (by simpa using hx) (by simpa using hy)
 simpa [Int.natAbs_mul] using this
theorem sz_add (p q : Rat) : sz (p + q) ≤ sz p + sz q + 1 := by
 rw [Rat.add_def']
 have h1 := sz_num p; have h2 := sz_den p; have h3 := sz_num q; have h4 := sz_den q; have h5 := sz_pos p
 refine sz_mk ?_ (Nat.le_trans (nat_mul_len h2 h4) (by omega)) (by omega)
 refine abs_add_len ?_ ?_
 ·exact abs_mul_len h1 (by simpa using h4)
 ·rw [Nat.add_comm]
  exact abs_mul_len h3 (by simpa using h2)
theorem sz_mul (p q : Rat) : sz (p * q) ≤ sz p + sz q := by
 rw [Rat.mul_def']
 have h1 := sz_num p; have h2 := sz_den p; have h3 := sz_num q; have h4 := sz_den q; have h5 := sz_pos p
 exact sz_mk (abs_mul_len h1 h3) (nat_mul_len h2 h4) (by omega)
theorem sz_neg (p : Rat) : sz (-p) = sz p := by
 unfold sz
 rw [Rat.neg_num, Rat.neg_den, Int.natAbs_neg]
def sgQ (q : Rat) : Int := sgI q.num
theorem sgQ_mk {z : Int} {d : Nat} (h : d ≠ 0) : sgQ (mkRat z d) = sgI z := mk_sgI h
theorem sgI_neg {z : Int} : sgI z < 0 ↔ z < 0 := by
 unfold sgI
 split
 ·constructor <;> intro h <;> omega
 ·split <;> constructor <;> intro h <;> omega
theorem sgQ_neg {q : Rat} : sgQ q < 0 ↔ q < 0 := by
 unfold sgQ
 rw [sgI_neg, Rat.lt_iff]
 simp
def rowF (l : List Fz) : List (List AV) := l.map celF
@[simp] theorem rowF_length (l : List Fz) : (rowF l).length = l.length := by simp [rowF]
@[simp] theorem rowF_wk (l : List Fz) : wkL (rowF l) = rowF l := by rw [wkL_map]; simp [rowF, wkR, wkA]
@[simp] theorem rowF_get? (l : List Fz) (i : Nat) : (rowF l)[i]? = (l[i]?).map celF := by simp [rowF]
@[simp] theorem rowF_get (l : List Fz) (i : Nat) (h : i < (rowF l).length) : (rowF l)[i] = celF (l[i]'(by simpa using h)) := by simp [rowF]
@[simp] theorem rowF_take (l : List Fz) (n : Nat) : (rowF l).take n = rowF (l.take n) := by simp [rowF]
@[simp] theorem rowF_drop (l : List Fz) (n : Nat) : (rowF l).drop n = rowF (l.drop n) := by simp [rowF]
@[simp] theorem rowF_nil : rowF [] = [] := rfl
def matF (m : List (List Fz)) : List (List AV) := m.map fun r => [.sl (rowF r) .an]
@[simp] theorem matF_length (l : List (List Fz)) : (matF l).length = l.length := by simp [matF]
@[simp] theorem matF_wk (l : List (List Fz)) : wkL (matF l) = matF l := by rw [wkL_map]; simp [matF, wkR, wkA]
@[simp] theorem matF_get? (l : List (List Fz)) (i : Nat) : (matF l)[i]? = (l[i]?).map fun r => [.sl (rowF r) .an] := by simp [matF]
@[simp] theorem matF_get (l : List (List Fz)) (i : Nat) (h : i < (matF l).length) : (matF l)[i] = [.sl (rowF (l[i]'(by simpa using h))) .an] := by simp [matF]
@[simp] theorem matF_take (l : List (List Fz)) (n : Nat) : (matF l).take n = matF (l.take n) := by simp [matF]
@[simp] theorem matF_drop (l : List (List Fz)) (n : Nat) : (matF l).drop n = matF (l.drop n) := by simp [matF]
@[simp] theorem matF_nil : matF [] = [] := rfl
end Go.Ab
end

section
namespace Go.Ab
abbrev tyF : Ty := .cons .bool (.cons (.sl (.int .u32)) (.cons (.sl (.int .u32)) .nil))
theorem fcells {cs : List AV} (h : Ok tyF cs) : ∃ x : Fz, wkR cs = celF x := by
 obtain ⟨c1, c2, rfl, ⟨b, rfl⟩, c3, c4, rfl, ⟨els, f, rfl, _, _, he⟩, c5, c6, rfl, ⟨els2, f2, rfl, _, _, he2⟩, rfl⟩ := h
 obtain ⟨l, rfl⟩ := words_of els he
 obtain ⟨l2, rfl⟩ := words_of els2 he2
 refine ⟨(b, l, l2), ?_⟩
 simp [wkA, wkR]
theorem frac_arg {x : AV} (h : OkArg (true, tyF) x) : ∃ c : Fz, wkA x = efz c := by
 obtain ⟨cs, rfl, h⟩ := h
 obtain ⟨c, hc⟩ := fcells h
 refine ⟨c, ?_⟩
 rw [wkA, hc]
theorem int_arg {x : AV} (h : OkArg (false, .int .i64) x) : ∃ n : Int, x = .i .i64 n ∧ -9223372036854775808 ≤ n ∧ n < 9223372036854775808 := by
 obtain ⟨n, hx, wf⟩ := h
 cases hx
 refine ⟨n, rfl, ?_⟩
 simp [Lit.wf, IntKind.min, IntKind.max, IntKind.signed, IntKind.bits] at wf
 omega
theorem pcall_part {P : Program} {ν : Nat → FuncId} {l l' : List (Nat × AFx)} (hT : TOk P ν fun u => l'.lookup u) (hp : Part l l') (hm : P.follows .mixedOrders = true) {u : Nat} {af : AFx} {xs ys : List AV} {r : AV}
  (hu : l'.lookup u = some af) (hl : af.lent = none) (h : callF (fun u => l.lookup u) u ys = some r) (hx : xs.map wkA = ys) : PCall P (ν u) xs (· = r) :=
 pcall_wk hT hm hu hl (hp.call (by rw [hu]; rfl) h) hx
end Go.Ab
end

section
namespace Go.Ab
class CSpan (T : Tbl) : Prop where
end Go.Ab
end

section
namespace Go.Ab
theorem cop2 {X : Nat} (h : X % 2 = 1) (k : Nat) : Nat.Coprime (2 ^ k) X := by
 refine Nat.Coprime.pow_left k ?_
 unfold Nat.Coprime
 rw [Nat.gcd_rec, h]
 rfl
theorem gcd_strip {k m Y : Nat} (hY : Y % 2 = 1) : Nat.gcd (2 ^ k * m) Y = Nat.gcd m Y := Nat.Coprime.gcd_mul_left_cancel m (cop2 hY k)
theorem gcd_two {m n X Y : Nat} (hX : X % 2 = 1) (hY : Y % 2 = 1) : Nat.gcd (2 ^ m * X) (2 ^ n * Y) = 2 ^ (min m n) * Nat.gcd X Y := by
 rcases Nat.le_total m n with h | h
 ·rw [Nat.min_eq_left h, show n = m + (n - m) by omega, Nat.pow_add, Nat.mul_assoc, Nat.gcd_mul_left, Nat.gcd_comm X, gcd_strip hX, Nat.gcd_comm Y]
 ·rw [Nat.min_eq_right h, show m = n + (m - n) by omega, Nat.pow_add, Nat.mul_assoc, Nat.gcd_mul_left, gcd_strip hY]
theorem gcd_less {X Y k m : Nat} (hY : Y % 2 = 1) (h : Y ≤ X) (e : X - Y = 2 ^ k * m) : Nat.gcd m Y = Nat.gcd X Y := by
 rw [← gcd_strip hY (k := k), ← e, Nat.gcd_sub_self_left h]
theorem odd_part {n : Nat} (h : n ≠ 0) : ∃ k m, n = 2 ^ k * m ∧ m % 2 = 1 := by
 induction n using Nat.strongRecOn with
 | _ n ih =>
  by_cases h2 : n % 2 = 1
  ·exact ⟨0, n, by simp, h2⟩
  ·obtain ⟨k, m, e, hm⟩ := ih (n / 2) (by omega) (by omega)
   refine ⟨k + 1, m, ?_, hm⟩
   rw [Nat.pow_succ, Nat.mul_comm (2 ^ k), Nat.mul_assoc, ← e]
   omega
end Go.Ab
end

section
namespace Go.Ab
section
variable {T : Tbl}
theorem small_gcd_loop (G : Nat) : ∀ y : Nat × Nat, (y.1 < 18446744073709551616 ∧ y.2 < 18446744073709551616 ∧ Nat.gcd y.1 y.2 = G) →
  loopN T 0 0 (.norm false [0]) l198_0 ⟨[(0, u64 y.1), (1, u64 y.2)], [], 2⟩ = some (.n, ⟨[(0, u64 G)], [], 2⟩) := by
 refine loopN_eq (fun y : Nat × Nat => ⟨[(0, u64 y.1), (1, u64 y.2)], [], 2⟩) _ (fun y => y.2) _ ?_
 rintro ⟨x, y⟩ ⟨hx, hy, hG⟩
 simp only at hx hy hG ⊢
 by_cases h : y = 0
 ·right
  subst h
  rw [Nat.gcd_zero_right] at hG
  subst hG
  constructor <;> simp -implicitDefEqProofs [l198_0]
 ·left
  have hm := Nat.mod_lt x (Nat.pos_of_ne_zero h)
  refine ⟨(y, x % y), ⟨hy, by simp only; omega, by simp only; rw [← hG, Nat.gcd_comm y, ← Nat.gcd_rec, Nat.gcd_comm]⟩, hm, ?_, trivial⟩
  simp -implicitDefEqProofs [l198_0, h]
end
section
variable {T : Tbl} [CCommon T]
theorem common_small (x y : Nat) (hx : x < 18446744073709551616) (hy : y < 18446744073709551616) : callF T 198 [u64 x, u64 y] = some (u64 (Nat.gcd x y)) := by
 have h := small_gcd_loop (T := T) (Nat.gcd x y) (x, y) ⟨hx, hy, rfl⟩
 simp only at h
 rw [f198 _ rfl, b198]
 simp -implicitDefEqProofs [h]
theorem common_one (a : List UInt32) : callF T 200 [.sl (u32s (ofN (val a))) .an] = some (.b (decide (val a = 1))) := by
 rw [f200 _ rfl, b200]
 generalize val a = n
 by_cases h0 : n = 0
 ·subst h0
  simp -implicitDefEqProofs
 ·rw [ofN_pos h0]
  by_cases h1 : n / 4294967296 = 0
  ·have e : ofN (n / 4294967296) = [] := ofN_eq_nil.2 h1
   have e2 : n % 4294967296 = n := Nat.mod_eq_of_lt (by omega)
   simp -implicitDefEqProofs [e, u32s, w32_mod, e2]
  ·have h2 : ¬ ofN (n / 4294967296) = [] := fun e => h1 (ofN_eq_nil.1 e)
   have h3 : ¬ n = 1 := by rintro rfl; simp at h1
   have h4 : ¬ ((ofN (n / 4294967296)).length : Int) + 1 = 1 := by
    have := List.length_pos_iff.2 h2
    omega
   simp -implicitDefEqProofs [u32s, h3, h4]
end
section
variable {T : Tbl} [CNat T] [CProd T] [CTwos T] [CQuot T] [CQuotD T] [CCommon T]
theorem gcd_loop (G : Nat) : ∀ y : List UInt32 × List UInt32, (y.1.length ≤ 10000 ∧ y.2.length ≤ 10000 ∧ (∃ n, y.1 = ofN n) ∧ (∃ n, y.2 = ofN n) ∧ Nat.gcd (val y.1) (val y.2) = G) →
  ∃ r, (∃ a b : List UInt32, r = (Ex.n, (⟨[(0, .sl (u32s a) .an), (1, .sl (u32s b) .an)], [], 2⟩ : St)) ∧ a.length ≤ 10000 ∧ b.length ≤ 2 ∧ (∃ n, a = ofN n) ∧ (∃ n, b = ofN n) ∧ Nat.gcd (val a) (val b) = G) ∧
   loopN T 0 0 (.norm false [0, 1]) l199_0 ⟨[(0, .sl (u32s y.1) .an), (1, .sl (u32s y.2) .an)], [], 2⟩ = some r := by
 refine loopN_ex (fun y : List UInt32 × List UInt32 => ⟨[(0, .sl (u32s y.1) .an), (1, .sl (u32s y.2) .an)], [], 2⟩) _ (fun y => val y.2) _ ?_
 rintro ⟨a, b⟩ ⟨ha, hb, hk, hn, hG⟩
 simp only at ha hb hk hn hG ⊢
 by_cases h : 2 < b.length
 ·left
  have h' : (2 : Int) < b.length := by omega
  have hv : val b ≠ 0 := by
   obtain ⟨n, rfl⟩ := hn
   rw [val_ofN]
   rintro rfl
   simp at h
  have hd := quot_div (T := T) a b ha hb
  rw [if_neg hv] at hd
  have hm := Nat.mod_lt (val a) (Nat.pos_of_ne_zero hv)
  refine ⟨(b, ofN (val a % val b)), ⟨hb, ?_, hn, ⟨_, rfl⟩, ?_⟩, ?_, ?_⟩
  ·have := ofN_len_le (Nat.le_of_lt hm)
   have := ofN_length_le b
   simp only; omega
  ·simp only
   rw [val_ofN, ← hG, Nat.gcd_comm (val b), ← Nat.gcd_rec, Nat.gcd_comm]
  ·simp only [val_ofN]
   exact hm
  ·clear hG hm hn hv hk
   simp -implicitDefEqProofs [l199_0, h', hd]
 ·right
  have h' : ¬ (2 : Int) < b.length := by omega
  refine ⟨_, ⟨a, b, rfl, ha, by omega, hk, hn, hG⟩, ?_, ?_⟩ <;> clear hG <;> simp -implicitDefEqProofs [l199_0, h']
theorem common_gcd (a b : List UInt32) (ha : a.length ≤ 10000) (hb : b.length ≤ 10000) : callF T 199 [.sl (u32s a) .an, .sl (u32s b) .an] = some (.sl (u32s (ofN (Nat.gcd (val a) (val b)))) .an) := by
 have h1 := nat_norm (T := T) a (by omega)
 have h2 := nat_norm (T := T) b (by omega)
 have la := ofN_length_le a
 have lb := ofN_length_le b
 obtain ⟨G, hG⟩ : ∃ G, G = Nat.gcd (val a) (val b) := ⟨_, rfl⟩
 obtain ⟨_, ⟨x, y, rfl, hx, hy, ⟨m, rfl⟩, ⟨n, rfl⟩, hg⟩, hr⟩ := gcd_loop (T := T) G (ofN (val a), ofN (val b)) ⟨by simp only; omega, by simp only; omega, ⟨_, rfl⟩, ⟨_, rfl⟩, by simp only [val_ofN]; exact hG.symm⟩
 simp only at hr
 rw [val_ofN, val_ofN] at hg
 rw [f199 _ rfl, b199, ← hG]
 clear hG
 by_cases h0 : n = 0
 ·subst h0
  rw [Nat.gcd_zero_right] at hg
  subst hg
  simp -implicitDefEqProofs [h1, h2, hr]
 ·have hv : val (ofN n) ≠ 0 := by rw [val_ofN]; exact h0
  have hd := quot_div (T := T) (ofN m) (ofN n) hx (by omega)
  rw [if_neg hv, val_ofN, val_ofN] at hd
  have hn64 : n < 18446744073709551616 := by
   have := val_lt (ofN n)
   rw [val_ofN] at this
   exact Nat.lt_of_lt_of_le this (Nat.pow_le_pow_right (by decide) hy)
  have hm := Nat.mod_lt m (Nat.pos_of_ne_zero h0)
  have s1 := nat_small (T := T) (ofN n) (by omega)
  rw [val_ofN, if_pos hn64] at s1
  have s2 := nat_small (T := T) (ofN (m % n)) (by have := ofN_len_le (Nat.le_of_lt hm); omega)
  rw [val_ofN, if_pos (by omega)] at s2
  have s3 := common_small (T := T) n (m % n) hn64 (by omega)
  have e : Nat.gcd n (m % n) = G := by rw [← hg, Nat.gcd_comm n, ← Nat.gcd_rec, Nat.gcd_comm]
  rw [e] at s3
  have s4 := nat_of (T := T) G (by
   rw [← hg]
   exact Nat.lt_of_le_of_lt (Nat.gcd_le_right _ (Nat.pos_of_ne_zero h0)) hn64)
  have hl : ¬ ofN n = [] := fun e => h0 (ofN_eq_nil.1 e)
  simp -implicitDefEqProofs [h1, h2, hr, hd, s1, s2, s3, s4, hl, h0]
theorem common_cancel (a b : List UInt32) (ha : a.length ≤ 10000) (hb : b.length ≤ 10000) : callF T 201 [.sl (u32s a) .an, .sl (u32s b) .an] =
  some (.tup [.sl (u32s (ofN (val a / Nat.gcd (val a) (val b)))) .an, .sl (u32s (ofN (val b / Nat.gcd (val a) (val b)))) .an]) := by
 have hg := common_gcd (T := T) a b ha hb
 have ho := common_one (T := T) (ofN (Nat.gcd (val a) (val b)))
 rw [val_ofN] at ho
 have ll : (ofN (Nat.gcd (val a) (val b))).length ≤ 10000 := by
  by_cases h : val a = 0
  ·rw [h, Nat.gcd_zero_left]
   have := ofN_length_le b
   omega
  ·have := ofN_len_le (Nat.gcd_le_left (val b) (Nat.pos_of_ne_zero h))
   have := ofN_length_le a
   omega
 have d1 := quot_div (T := T) a (ofN (Nat.gcd (val a) (val b))) ha ll
 have d2 := quot_div (T := T) b (ofN (Nat.gcd (val a) (val b))) hb ll
 have n1 := nat_norm (T := T) a (by omega)
 have n2 := nat_norm (T := T) b (by omega)
 rw [val_ofN] at d1 d2
 rw [f201 _ rfl, b201]
 by_cases h0 : Nat.gcd (val a) (val b) = 0
 ·rw [h0] at hg ⊢
  simp only [ofN_zero] at hg
  simp -implicitDefEqProofs [hg]
 ·rw [if_neg h0] at d1 d2
  have hl : ¬ ofN (Nat.gcd (val a) (val b)) = [] := fun e => h0 (ofN_eq_nil.1 e)
  by_cases h1 : Nat.gcd (val a) (val b) = 1
  ·rw [h1] at hg ho hl ⊢
   simp -implicitDefEqProofs [hg, ho, n1, n2, hl]
  ·generalize Nat.gcd (val a) (val b) = g at *
   simp -implicitDefEqProofs [hg, ho, d1, d2, hl, h0, h1]
end
end Go.Ab
end

section
namespace Go.Ab
section
variable {T : Tbl} [CWhole T]
theorem whole_signed (n : Bool) (k : Nat) : callF T 55 [.b n, .sl (u32s (ofN k)) .an] = some (ez (sg n k)) := by
  rw [f55 _ rfl, b55, ez_sg]
  have h : (0 < (ofN k).length) = (k ≠ 0) := by
    rw [eq_iff_iff, List.length_pos_iff]
    exact not_congr ofN_eq_nil
  cases n <;> simp -implicitDefEqProofs [h]
end
section
variable {T : Tbl} [CNat T] [CWhole T]
theorem whole_norm (n : Bool) (a : List UInt32) (ha : a.length ≤ 1000000) : callF T 38 [wh n a] = some (ez (wv n a)) := by
  have h := nat_norm (T := T) a (by omega)
  have hs := whole_signed (T := T) n (val a)
  rw [f38 _ rfl, b38]
  simp -implicitDefEqProofs [h, hs, wv]
end
section
variable {T : Tbl} [CNat T] [CWhole T]
theorem whole_neg (n : Bool) (a : List UInt32) (ha : a.length ≤ 1000000) : callF T 40 [wh n a] = some (ez (-wv n a)) := by
  have h := nat_norm (T := T) a (by omega)
  have hs := whole_signed (T := T) (!n) (val a)
  rw [sg_not] at hs
  rw [f40 _ rfl, b40]
  simp -implicitDefEqProofs [h, hs, wv]
end
section
variable {T : Tbl} [CNat T] [CWhole T]
theorem whole_add (n m : Bool) (a b : List UInt32) (ha : a.length ≤ 10000) (hb : b.length ≤ 10000) : callF T 23 [wh n a, wh m b] = some (ez (wv n a + wv m b)) := by
  rw [f23 _ rfl, b23]
  by_cases h : n = m
  · subst h
    have hn := nat_add (T := T) [a, b] (by simp) (by simp; omega)
    have hs := whole_signed (T := T) n (val a + val b)
    rw [sg_add_same] at hs
    have e : lls [a, b] = [[.sl (u32s a) .an], [.sl (u32s b) .an]] := rfl
    have e2 : sumL [a, b] = val a + val b := by simp [sumL]
    rw [e, e2] at hn
    simp -implicitDefEqProofs [hn, hs, wv]
  · have hg := nat_gap (T := T) a b (by omega) (by omega)
    by_cases hlt : val a < val b
    · have hs := whole_signed (T := T) m (val b - val a)
      rw [sg_add_lt h hlt] at hs
      simp -implicitDefEqProofs [h, hg, hlt, cmpN_lt, hs, wv]
    · have hs := whole_signed (T := T) n (val a - val b)
      rw [sg_add_ge h hlt] at hs
      simp -implicitDefEqProofs [h, hg, hlt, cmpN_lt, hs, wv]
end
section
variable {T : Tbl} [CNat T] [CWhole T]
theorem whole_sub (n m : Bool) (a b : List UInt32) (ha : a.length ≤ 10000) (hb : b.length ≤ 10000) : callF T 25 [wh n a, wh m b] = some (ez (wv n a - wv m b)) := by
  obtain ⟨z, hz⟩ : ∃ z, z = -wv m b := ⟨_, rfl⟩
  have h1 := whole_neg (T := T) m b (by omega)
  have hl := wv_len m b
  rw [← abs_neg_len, ← hz] at hl
  have h2 := whole_add (T := T) n (decide (z < 0)) a (ofN z.natAbs) (by omega) (by omega)
  have e : wv n a - wv m b = wv n a + z := by omega
  rw [wv_ez, ← e] at h2
  rw [← hz] at h1
  rw [f25 _ rfl, b25]
  simp -implicitDefEqProofs [h1, h2]
end
section
variable {T : Tbl} [CProd T] [CWhole T]
theorem whole_mul (n m : Bool) (a b : List UInt32) (ha : a.length ≤ 100000) (hb : b.length ≤ 100000) : callF T 27 [wh n a, wh m b] = some (ez (wv n a * wv m b)) := by
  have h1 := prod_mul (T := T) a b ha hb
  have hs := whole_signed (T := T) (n != m) (val a * val b)
  rw [sg_mul] at hs
  rw [f27 _ rfl, b27]
  simp -implicitDefEqProofs [h1, hs, wv]
end
section
variable {T : Tbl} [CNat T] [CWhole T]
theorem whole_sign (n : Bool) (a : List UInt32) (ha : a.length ≤ 1000000) : callF T 37 [wh n a] = some (.i .i64 (sgI (wv n a))) := by
  have h1 := nat_zero (T := T) a (by omega)
  rw [f37 _ rfl, b37]
  unfold wv
  rw [sg_sgI]
  by_cases h : val a = 0
  · simp -implicitDefEqProofs [h1, h]
  · cases n <;> simp -implicitDefEqProofs [h1, h]
end
section
variable {T : Tbl} [CNat T] [CWhole T]
theorem whole_of (k : Int) (h1 : -9223372036854775808 ≤ k) (h2 : k < 9223372036854775808) : callF T 41 [.i .i64 k] = some (ez k) := by
  rw [f41 _ rfl, b41]
  by_cases h : k < 0
  · have hn := nat_of (T := T) k.natAbs (by omega)
    have hs := whole_signed (T := T) true k.natAbs
    have e : sg true k.natAbs = k := by simp [sg]; omega
    have e2 : sub64 0 (k % 18446744073709551616).toNat = k.natAbs := by unfold sub64; omega
    rw [e] at hs
    simp -implicitDefEqProofs [h, e2, hn, hs]
  · have hn := nat_of (T := T) k.natAbs (by omega)
    have hs := whole_signed (T := T) false k.natAbs
    have e : sg false k.natAbs = k := by simp [sg]; omega
    have e2 : (k % 18446744073709551616).toNat = k.natAbs := by omega
    rw [e] at hs
    simp -implicitDefEqProofs [h, e2, hn, hs]
end
section
variable {T : Tbl} [CNat T] [CProd T] [CTwos T] [CQuot T] [CQuotD T] [CWhole T]
theorem whole_floor (n m : Bool) (a b : List UInt32) (ha : a.length ≤ 1000) (hb : b.length ≤ 1000) : callF T 29 [wh n a, wh m b] =
    some (if val b = 0 then .tup [wh false [], wh false [], .b false] else .tup [ez ((wv n a).fdiv (wv m b)), ez ((wv n a).fmod (wv m b)), .b true]) := by
  have hd := quot_div (T := T) a b (by omega) (by omega)
  rw [f29 _ rfl, b29]
  by_cases h0 : val b = 0
  · simp -implicitDefEqProofs [hd, h0]
  · have hs := whole_signed (T := T) (n != m) (val a / val b)
    obtain ⟨q, hq⟩ : ∃ q, q = sg (n != m) (val a / val b) := ⟨_, rfl⟩
    obtain ⟨hf1, hf2⟩ := floor_of (n := n) (m := m) (x := val a) h0
    rw [← hq] at hs hf1 hf2
    have hql : (ofN q.natAbs).length ≤ 1000 := by
      rw [hq, sg_abs]
      have h1 := ofN_length_le a
      have h2 := ofN_len_le (Nat.div_le_self (val a) (val b))
      omega
    have hml := whole_mul (T := T) (decide (q < 0)) m (ofN q.natAbs) b (by omega) (by omega)
    rw [wv_ez] at hml
    obtain ⟨p, hp⟩ : ∃ p, p = q * wv m b := ⟨_, rfl⟩
    have hpl : (ofN p.natAbs).length ≤ 2000 := by
      rw [hp]
      have := abs_mul_len (x := q) (y := wv m b) (L := 1000) (M := 1000) hql (by have := wv_len m b; omega)
      omega
    rw [← hp] at hml
    have hsb := whole_sub (T := T) n (decide (p < 0)) a (ofN p.natAbs) (by omega) (by omega)
    rw [wv_ez] at hsb
    obtain ⟨r, hr⟩ : ∃ r, r = wv n a - p := ⟨_, rfl⟩
    have hrl : (ofN r.natAbs).length ≤ 2001 := by
      rw [hr, Int.sub_eq_add_neg]
      exact abs_add_len (by have := wv_len n a; omega) (by rw [abs_neg_len]; exact hpl)
    rw [← hr] at hsb
    have h1 := whole_sign (T := T) (decide (r < 0)) (ofN r.natAbs) (by omega)
    have h2 := whole_sign (T := T) m b (by omega)
    rw [wv_ez] at h1
    have ew : sg n (val a) - q * sg m (val b) = r := by rw [hr, hp]; rfl
    rw [ew] at hf1 hf2
    change sgI r * sgI (wv m b) < 0 → q - 1 = (wv n a).fdiv (wv m b) ∧ r + wv m b = (wv n a).fmod (wv m b) at hf1
    change ¬ sgI r * sgI (wv m b) < 0 → q = (wv n a).fdiv (wv m b) ∧ r = (wv n a).fmod (wv m b) at hf2
    have hsg : ∀ z, -1 ≤ sgI z ∧ sgI z ≤ 1 := by
      intro z
      unfold sgI
      split
      · omega
      · split <;> omega
    have hm1 : -1 ≤ sgI r * sgI (wv m b) ∧ sgI r * sgI (wv m b) ≤ 1 := by
      have b1 := hsg r
      have b2 := hsg (wv m b)
      rcases (show sgI r = -1 ∨ sgI r = 0 ∨ sgI r = 1 by omega) with e | e | e <;> rw [e] <;> omega
    have hw : IntKind.wrap .i64 (sgI r * sgI (wv m b)) = sgI r * sgI (wv m b) := wrap_i64 _ (by omega)
    by_cases hc : sgI r * sgI (wv m b) < 0
    · obtain ⟨e1, e2⟩ := hf1 hc
      have h3 := whole_of (T := T) 1 (by decide) (by decide)
      have h4 := whole_sub (T := T) (decide (q < 0)) (decide ((1 : Int) < 0)) (ofN q.natAbs) (ofN (1 : Int).natAbs) (by omega) (by rw [show (1 : Int).natAbs = 1 from rfl, ofN_pos (by decide)]; simp)
      have h5 := whole_add (T := T) (decide (r < 0)) m (ofN r.natAbs) b (by omega) (by omega)
      rw [wv_ez, wv_ez, e1] at h4
      rw [wv_ez, e2] at h5
      simp at h3 h4
      simp -implicitDefEqProofs [hd, h0, hs, hml, hsb, h1, h2, hw, hc, h3, h4, h5, pendOk_cons]
    · obtain ⟨e1, e2⟩ := hf2 hc
      rw [← e1, ← e2]
      simp -implicitDefEqProofs [hd, h0, hs, hml, hsb, h1, h2, hw, hc, pendOk_cons]
end
section
variable {T : Tbl} [CNat T] [CText T] [CWhole T]
theorem whole_text (n : Bool) (a : List UInt32) (ha : a.length ≤ 1000) : callF T 34 [wh n a] = some (.s (textZ (wv n a))) := by
  have h1 : callF T 68 [.sl (u32s a) .an] = some (.s (textN (val a))) := by rw [p68, prim68_eq a ha]
  have h2 := whole_sign (T := T) n a (by omega)
  have h3 := textN_words ha
  have h4 : 1 + (textN (val a)).length ≤ 9223372036854775807 := by omega
  rw [f34 _ rfl, b34]
  unfold textZ
  rw [wv_val]
  by_cases h : wv n a < 0
  · have h5 : sgI (wv n a) = -1 := by unfold sgI; rw [if_pos h]
    simp -implicitDefEqProofs [h1, h2, h, h5, h4]
  · have h5 : ¬ sgI (wv n a) < 0 := by unfold sgI; rw [if_neg h]; split <;> omega
    simp -implicitDefEqProofs [h1, h2, h, h5]
end
section
variable {T : Tbl} [CProd T] [CDigits T] [CWhole T]
theorem whole_read (l : List UInt8) (hl : l.length ≤ 1000000) : callF T 32 [.s l] = some (.tup (if 0 ≤ wrongZ l then [wh false [], .agg [.i .i64 1, .i .i64 0, .i .i64 0, .i .i64 (wrongZ l + minus l)]]
    else [ez (readZ l), .agg [.i .i64 0, .i .i64 0, .i .i64 0, .i .i64 0]])) := by
  have h1 := cut_minus (T := T) l hl
  obtain ⟨l', hl'⟩ : ∃ l', l' = if l.head? = some 45 then l.tail else l := ⟨_, rfl⟩
  have hl2 : l'.length ≤ 1000000 := by rw [hl']; split; · simp; omega
                                       · exact hl
  have h2 := digits_read (T := T) l' hl2
  have hs := whole_signed (T := T) (l.head? = some 45) (rd l')
  have hm : (l.length : Int) - l'.length = minus l := by
    rw [hl']
    unfold minus
    split
    · rename_i h
      cases l with
      | nil => cases h
      | cons c r => simp; omega
    · omega
  unfold wrongZ readZ
  rw [← hl'] at h1 ⊢
  have hw1 : IntKind.wrap .i64 ((l.length : Int) - l'.length) = minus l := by rw [hm]; exact wrap_i64 _ (by unfold minus; split <;> omega)
  rw [f32 _ rfl, b32]
  have hwb : wrongI l' ≤ 60 := by
    unfold wrongI
    split
    · omega
    · exact wrAt_le 0 l' (by omega)
  by_cases h0 : 0 ≤ wrongI l'
  · have hw2 : IntKind.wrap .i64 (wrongI l' + minus l) = wrongI l' + minus l := wrap_i64 _ (by unfold minus; split <;> omega)
    simp -implicitDefEqProofs [h1, h2, h0, hw1, hw2, pendOk_cons]
  · simp -implicitDefEqProofs [h1, h2, h0, hs]
end
end Go.Ab
end

section
namespace Go.Ab
section
variable {T : Tbl} [CNat T] [CProd T] [CTwos T] [CQuot T] [CQuotD T] [CWhole T] [CCommon T] [CFrac T]
theorem whole_addZ (p q : Int) (hp : (ofN p.natAbs).length ≤ 10000) (hq : (ofN q.natAbs).length ≤ 10000) : callF T 23 [ez p, ez q] = some (ez (p + q)) := by
 have := whole_add (T := T) (decide (p < 0)) (decide (q < 0)) _ _ hp hq
 rwa [wv_ez, wv_ez] at this
theorem div_gcd_ne {x d : Nat} (h : d ≠ 0) : decide (x / Nat.gcd x d ≠ 0) = decide (x ≠ 0) := by
 have hg : 0 < Nat.gcd x d := Nat.gcd_pos_of_pos_right _ (Nat.pos_of_ne_zero h)
 obtain ⟨k, hk⟩ := Nat.gcd_dvd_left x d
 generalize Nat.gcd x d = g at *
 subst hk
 rw [Nat.mul_div_cancel_left _ hg, decide_eq_decide]
 have : g ≠ 0 := by omega
 exact ⟨fun h1 h2 => h1 ((Nat.mul_eq_zero.1 h2).resolve_left this), fun h1 h2 => h1 (by rw [h2, Nat.mul_zero])⟩
theorem frac_cancel (n : Bool) (a d : List UInt32) (ha : a.length ≤ 10000) (hd : d.length ≤ 10000) (h : val d ≠ 0) :
  callF T 202 [wh n a, .sl (u32s d) .an] = some (efz (fz (mkRat (wv n a) (val d)))) := by
 have e := fz_mk n (val a) h
 change fz (mkRat (wv n a) (val d)) = _ at e
 have hc := common_cancel (T := T) a d ha hd
 have hl : (ofN (val a / Nat.gcd (val a) (val d))).length ≤ 1000000 := by
  have := ofN_len_le (Nat.div_le_self (val a) (Nat.gcd (val a) (val d)))
  have := ofN_length_le a
  omega
 have hn := whole_norm (T := T) n _ hl
 have e2 : wv n (ofN (val a / Nat.gcd (val a) (val d))) = sg n (val a / Nat.gcd (val a) (val d)) := by unfold wv; rw [val_ofN]
 rw [e2, ez_sg, div_gcd_ne h] at hn
 rw [e, f202 _ rfl, b202]
 generalize ofN (val a / Nat.gcd (val a) (val d)) = A at *
 generalize ofN (val d / Nat.gcd (val a) (val d)) = D at *
 clear e e2
 simp -implicitDefEqProofs [hc, hn]
theorem frac_parts (x : Fz) (hx : fsz x ≤ 100000) : ∃ y : Fz, val y.2.2 ≠ 0 ∧ fv y = fv x ∧ fsz y ≤ max 1 (fsz x) ∧ callF T 203 [efz x] = some (.tup [wh y.1 y.2.1, .sl (u32s y.2.2) .an]) := by
 obtain ⟨n, a, d⟩ := x
 have h1 := fsz_a (n, a, d)
 have h2 := fsz_d (n, a, d)
 simp only at h1 h2
 have hz := nat_zero (T := T) d (by omega)
 by_cases h : val d = 0
 ·refine ⟨(false, [], [1]), by simp, ?_, ?_, ?_⟩
  ·unfold fv
   simp only [h, Rat.mkRat_zero]
   rfl
  ·show 1 ≤ _
   omega
  ·have ho := nat_of (T := T) 1 (by decide)
   rw [ofN_one] at ho
   rw [f203 _ rfl, b203]
   simp -implicitDefEqProofs [hz, h, ho]
 ·refine ⟨(n, a, d), h, rfl, by omega, ?_⟩
  rw [f203 _ rfl, b203]
  simp -implicitDefEqProofs [hz, h]
theorem frac_of (k : Int) (h1 : -9223372036854775808 ≤ k) (h2 : k < 9223372036854775808) : callF T 205 [.i .i64 k] = some (efz (fz (k : Rat))) := by
 have hw := whole_of (T := T) k h1 h2
 have ho := nat_of (T := T) 1 (by decide)
 have e : fz (k : Rat) = (decide (k < 0), ofN k.natAbs, ofN 1) := rfl
 rw [e, f205 _ rfl, b205]
 simp -implicitDefEqProofs [hw, ho]
theorem frac_of0 : callF T 205 [.i .i64 0] = some (efz (fz 0)) := frac_of 0 (by decide) (by decide)
theorem frac_norm (x : Fz) (hx : fsz x ≤ 10000) : callF T 207 [efz x] = some (efz (fz (fv x))) := by
 obtain ⟨⟨n, a, d⟩, h1, h2, h3, hp⟩ := frac_parts (T := T) x (by omega)
 simp only at h1 hp
 have la := fsz_a (n, a, d)
 have ld := fsz_d (n, a, d)
 simp only at la ld
 have hc := frac_cancel (T := T) n a d (by omega) (by omega) h1
 rw [← h2]
 change _ = some (efz (fz (mkRat (wv n a) (val d))))
 rw [f207 _ rfl, b207]
 generalize fz (mkRat (wv n a) (val d)) = R at *
 clear h1 h2 h3
 simp -implicitDefEqProofs [hp, hc]
theorem frac_sign (x : Fz) (hx : fsz x ≤ 10000) : callF T 209 [efz x] = some (.i .i64 (sgQ (fv x))) := by
 obtain ⟨⟨n, a, d⟩, h1, h2, h3, hp⟩ := frac_parts (T := T) x (by omega)
 simp only at h1 hp
 have la := fsz_a (n, a, d)
 simp only at la
 have hc := whole_sign (T := T) n a (by omega)
 rw [← h2]
 unfold fv
 rw [sgQ_mk h1, f209 _ rfl, b209]
 clear h1 h2 h3
 simp -implicitDefEqProofs [hp, hc]
theorem frac_cross (n : Bool) (a d : List UInt32) (ha : a.length ≤ 10000) (hd : d.length ≤ 10000) : callF T 210 [wh n a, .sl (u32s d) .an] = some (ez (wv n a * (val d : Int))) := by
 have hm := whole_mul (T := T) n false a d (by omega) (by omega)
 rw [show wv false d = (val d : Int) from rfl] at hm
 generalize wv n a * (val d : Int) = z at *
 rw [f210 _ rfl, b210]
 simp -implicitDefEqProofs [hm]
theorem frac_add (x x' : Fz) (hx : fsz x ≤ 1000) (hx' : fsz x' ≤ 1000) : callF T 215 [efz x, efz x'] = some (efz (fz (fv x + fv x'))) := by
 obtain ⟨⟨n, a, d⟩, h1, h2, h3, hp⟩ := frac_parts (T := T) x (by omega)
 obtain ⟨⟨m, b, e⟩, h1', h2', h3', hp'⟩ := frac_parts (T := T) x' (by omega)
 simp only at h1 hp h1' hp'
 have la := fsz_a (n, a, d)
 have ld := fsz_d (n, a, d)
 have lb := fsz_a (m, b, e)
 have le := fsz_d (m, b, e)
 simp only at la ld lb le
 have c1 := frac_cross (T := T) n a e (by omega) (by omega)
 have c2 := frac_cross (T := T) m b d (by omega) (by omega)
 have c4 := prod_mul (T := T) d e (by omega) (by omega)
 have l1 : (ofN (wv n a * (val e : Int)).natAbs).length ≤ 4000 := by
  have := abs_mul_len (x := wv n a) (y := (val e : Int)) (L := 2000) (M := 2000) (Nat.le_trans (wv_len n a) (by omega)) (Nat.le_trans (wv_len false e) (by omega))
  omega
 have l2 : (ofN (wv m b * (val d : Int)).natAbs).length ≤ 4000 := by
  have := abs_mul_len (x := wv m b) (y := (val d : Int)) (L := 2000) (M := 2000) (Nat.le_trans (wv_len m b) (by omega)) (Nat.le_trans (wv_len false d) (by omega))
  omega
 have l3 : (ofN (val d * val e)).length ≤ 4000 := by
  have := nat_mul_len (x := val d) (y := val e) (L := 2000) (M := 2000) (Nat.le_trans (ofN_length_le d) (by omega)) (Nat.le_trans (ofN_length_le e) (by omega))
  omega
 have e1 : fv x + fv x' = mkRat (wv n a * (val e : Int) + wv m b * (val d : Int)) (val d * val e) := by
  rw [← h2, ← h2']
  exact Rat.mkRat_add_mkRat _ _ h1 h1'
 have hne := Nat.mul_ne_zero h1 h1'
 generalize wv n a * (val e : Int) = z1 at *
 generalize wv m b * (val d : Int) = z2 at *
 generalize val d * val e = D at *
 have c3 := whole_addZ (T := T) z1 z2 (by omega) (by omega)
 have c5 := frac_cancel (T := T) (decide (z1 + z2 < 0)) (ofN (z1 + z2).natAbs) (ofN D) (by have := abs_add_len l1 l2; omega) (by omega) (by rw [val_ofN]; exact hne)
 rw [wv_ez, val_ofN, ← e1] at c5
 generalize fv x + fv x' = q at *
 generalize z1 + z2 = z at *
 rw [f215 _ rfl, b215]
 clear h1 h2 h3 h1' h2' h3' e1 l1 l2 l3 hne
 simp -implicitDefEqProofs [hp, hp', c1, c2, c3, c4, c5]
theorem frac_mul (x x' : Fz) (hx : fsz x ≤ 1000) (hx' : fsz x' ≤ 1000) : callF T 217 [efz x, efz x'] = some (efz (fz (fv x * fv x'))) := by
 obtain ⟨⟨n, a, d⟩, h1, h2, h3, hp⟩ := frac_parts (T := T) x (by omega)
 obtain ⟨⟨m, b, e⟩, h1', h2', h3', hp'⟩ := frac_parts (T := T) x' (by omega)
 simp only at h1 hp h1' hp'
 have la := fsz_a (n, a, d)
 have ld := fsz_d (n, a, d)
 have lb := fsz_a (m, b, e)
 have le := fsz_d (m, b, e)
 simp only at la ld lb le
 have c3 := whole_mul (T := T) n m a b (by omega) (by omega)
 have c4 := prod_mul (T := T) d e (by omega) (by omega)
 have l1 : (ofN (wv n a * wv m b).natAbs).length ≤ 4000 := by
  have := abs_mul_len (x := wv n a) (y := wv m b) (L := 2000) (M := 2000) (Nat.le_trans (wv_len n a) (by omega)) (Nat.le_trans (wv_len m b) (by omega))
  omega
 have l3 : (ofN (val d * val e)).length ≤ 4000 := by
  have := nat_mul_len (x := val d) (y := val e) (L := 2000) (M := 2000) (Nat.le_trans (ofN_length_le d) (by omega)) (Nat.le_trans (ofN_length_le e) (by omega))
  omega
 have e1 : fv x * fv x' = mkRat (wv n a * wv m b) (val d * val e) := by
  rw [← h2, ← h2']
  exact Rat.mkRat_mul_mkRat _ _ _ _
 have hne := Nat.mul_ne_zero h1 h1'
 generalize wv n a * wv m b = z at *
 generalize val d * val e = D at *
 have c5 := frac_cancel (T := T) (decide (z < 0)) (ofN z.natAbs) (ofN D) (by omega) (by omega) (by rw [val_ofN]; exact hne)
 rw [wv_ez, val_ofN, ← e1] at c5
 generalize fv x * fv x' = q at *
 rw [f217 _ rfl, b217]
 clear h1 h2 h3 h1' h2' h3' e1 l1 l3 hne
 simp -implicitDefEqProofs [hp, hp', c3, c4, c5]
theorem quo_law {n m : Bool} {x y : Nat} {d e : Nat} (hy : y ≠ 0) :
  mkRat (sg n x) d / mkRat (sg m y) e = mkRat (sg (decide (sg n x * (e : Int) < 0) != m) (sg n x * (e : Int)).natAbs) (d * y) := by
 have h1 : sg (decide (sg n x * (e : Int) < 0) != m) (sg n x * (e : Int)).natAbs = sg n x * (e : Int) * sg m 1 := by
  have := sg_mul (decide (sg n x * (e : Int) < 0)) m (sg n x * (e : Int)).natAbs 1
  rw [Nat.mul_one] at this
  rw [this]
  congr 1
  generalize sg n x * (e : Int) = z
  by_cases h : z < 0
  ·simp only [h, decide_true, sg, if_true]; omega
  ·simp only [h, decide_false, sg, Bool.false_eq_true, if_false]; omega
 rw [h1, Rat.div_def, ← Rat.divInt_ofNat, ← Rat.divInt_ofNat, ← Rat.divInt_ofNat, Rat.inv_divInt, Rat.divInt_mul_divInt]
 cases m
 ·simp only [sg, Bool.false_eq_true, if_false, Int.mul_one, Int.natCast_mul, Int.natCast_one]
 ·simp only [sg, if_true, Int.natCast_one, Int.mul_neg, Int.mul_one, Int.natCast_mul]
  rw [← Rat.neg_divInt_neg, Int.neg_neg]
theorem frac_quo (x x' : Fz) (hx : fsz x ≤ 1000) (hx' : fsz x' ≤ 1000) : callF T 218 [efz x, efz x'] = some (.tup [efz (fz (fv x / fv x')), .b (decide (fv x' ≠ 0))]) := by
 obtain ⟨⟨n, a, d⟩, h1, h2, h3, hp⟩ := frac_parts (T := T) x (by omega)
 obtain ⟨⟨m, b, e⟩, h1', h2', h3', hp'⟩ := frac_parts (T := T) x' (by omega)
 simp only at h1 hp h1' hp'
 have la := fsz_a (n, a, d)
 have ld := fsz_d (n, a, d)
 have lb := fsz_a (m, b, e)
 have le := fsz_d (m, b, e)
 simp only at la ld lb le
 have cs := whole_sign (T := T) m b (by omega)
 rw [show wv m b = sg m (val b) from rfl, sg_sgI] at cs
 by_cases hb : val b = 0
 ·have e0 : fv x' = 0 := by
   rw [← h2']
   unfold fv
   rw [Rat.mkRat_eq_zero h1']
   show sg m (val b) = 0
   rw [hb]; cases m <;> rfl
  have ho := frac_of0 (T := T)
  rw [if_pos hb] at cs
  rw [e0, Rat.div_def, Rat.inv_zero, Rat.mul_zero, f218 _ rfl, b218]
  clear h1 h2 h3 h1' h2' h3' e0
  generalize fz 0 = R at *
  simp -implicitDefEqProofs [hp, hp', cs, ho]
 ·rw [if_neg hb] at cs
  have c1 := frac_cross (T := T) n a e (by omega) (by omega)
  have c4 := prod_mul (T := T) d b (by omega) (by omega)
  have l1 : (ofN (wv n a * (val e : Int)).natAbs).length ≤ 4000 := by
   have := abs_mul_len (x := wv n a) (y := (val e : Int)) (L := 2000) (M := 2000) (Nat.le_trans (wv_len n a) (by omega)) (Nat.le_trans (wv_len false e) (by omega))
   omega
  have l3 : (ofN (val d * val b)).length ≤ 4000 := by
   have := nat_mul_len (x := val d) (y := val b) (L := 2000) (M := 2000) (Nat.le_trans (ofN_length_le d) (by omega)) (Nat.le_trans (ofN_length_le b) (by omega))
   omega
  have hne0 : fv x' ≠ 0 := by
   rw [← h2']
   unfold fv
   rw [Ne, Rat.mkRat_eq_zero h1']
   show ¬ sg m (val b) = 0
   cases m <;> simp [sg, hb]
  have e1 : fv x / fv x' = mkRat (sg (decide (wv n a * (val e : Int) < 0) != m) (wv n a * (val e : Int)).natAbs) (val d * val b) := by
   rw [← h2, ← h2']
   exact quo_law hb
  have hne := Nat.mul_ne_zero h1 hb
  generalize wv n a * (val e : Int) = z at *
  generalize val d * val b = D at *
  have c5 := frac_cancel (T := T) (decide (z < 0) != m) (ofN z.natAbs) (ofN D) (by omega) (by omega) (by rw [val_ofN]; exact hne)
  rw [show wv (decide (z < 0) != m) (ofN z.natAbs) = sg (decide (z < 0) != m) z.natAbs by unfold wv; rw [val_ofN], val_ofN, ← e1] at c5
  have hdec : decide (fv x' ≠ 0) = true := by simpa using hne0
  have hs : ((if m = true then (-1 : Int) else 1) == 0) = false := by cases m <;> rfl
  rw [hdec]
  generalize fv x / fv x' = q at *
  rw [f218 _ rfl, b218]
  clear h1 h2 h3 h1' h2' h3' e1 l1 l3 hne hne0 hdec
  have hs2 : ¬ (if m = true then (-1 : Int) else 1) = 0 := by cases m <;> decide
  generalize (if m = true then (-1 : Int) else 1) = sgn at *
  simp -implicitDefEqProofs [hp, hp', cs, c1, c4, c5, hs, hs2]
end
end Go.Ab
end

section
namespace Go.Ab
def nrm (l : List Fz) : List Fz := l.map fun x => fz (fv x)
def fzs (l : List Rat) : List Fz := l.map fz
@[simp] theorem rowsT_nil : rowsT [] = [] := rfl
def textQ (q : Rat) : List UInt8 := if q.den = 1 then textZ q.num else textZ q.num ++ 47 :: textN q.den
section
variable {T : Tbl} [CNat T] [CProd T] [CTwos T] [CQuot T] [CQuotD T] [CText T] [CWhole T] [CCommon T] [CFrac T] [CJoin T] [CRow T]
theorem figure_text (x : Fz) (hx : fsz x ≤ 900) : callF T 251 [efz x] = some (.s (textQ (fv x))) := by
 have h1 := frac_norm (T := T) x (by omega)
 have hs := sz_fv (x := x) (L := 900) hx (by decide)
 generalize fv x = q at *
 have l1 := sz_num q
 have l2 := sz_den q
 have e' : fz q = (decide (q.num < 0), ofN q.num.natAbs, ofN q.den) := rfl
 have h2 := whole_text (T := T) (decide (q.num < 0)) (ofN q.num.natAbs) (by omega)
 rw [wv_ez] at h2
 have h3 := nat_of (T := T) 1 (by decide)
 have h4 := nat_cmp (T := T) (ofN q.den) (ofN 1) (by omega) (by rw [ofN_one]; decide)
 rw [val_ofN, val_ofN] at h4
 have h5 : callF T 68 [.sl (u32s (ofN q.den)) .an] = some (.s (textN q.den)) := by
  rw [p68, prim68_eq _ (by omega), val_ofN]
 have t1 : (textN q.den).length ≤ 10000 := by
  have := textN_words (a := ofN q.den) (by omega)
  rwa [val_ofN] at this
 have t2 : (textZ q.num).length ≤ 20000 := by
  have := textN_words (a := ofN q.num.natAbs) (by omega)
  rw [val_ofN] at this
  unfold textZ
  split
  ·simp; omega
  ·omega
 rw [f251 _ rfl, b251]
 rw [e'] at h1
 unfold textQ
 obtain ⟨D, hD⟩ : ∃ D, D = ofN q.den := ⟨_, rfl⟩
 rw [← hD] at h1 h4 h5
 obtain ⟨A, hA⟩ : ∃ A, A = ofN q.num.natAbs := ⟨_, rfl⟩
 rw [← hA] at h1 h2
 obtain ⟨O, hO⟩ : ∃ O, O = ofN 1 := ⟨_, rfl⟩
 rw [← hO] at h3 h4
 have c1 : ¬ 9223372036854775807 < (textN q.den).length := by omega
 by_cases hd : q.den = 1
 ·have hc : cmpN q.den 1 = 0 := by rw [hd]; rfl
  rw [hc] at h4
  rw [if_pos hd]
  clear hD hA hO hc e'
  simp -implicitDefEqProofs [h1, h2, h3, h4]
 ·have hc : cmpN q.den 1 = 1 := by
   unfold cmpN
   have := q.den_pos
   rw [if_neg (by omega), if_pos (by omega)]
  rw [hc] at h4
  rw [if_neg hd]
  have b1 : 1 + (textN q.den).length ≤ 9223372036854775807 := by omega
  have b2 : (textZ q.num).length + ((textN q.den).length + 1) ≤ 9223372036854775807 := by omega
  have b3 : (textN q.den).length + 1 ≤ 9223372036854775807 := by omega
  clear hD hA hO hc e'
  generalize textN q.den = t at *
  generalize textZ q.num = s at *
  simp -implicitDefEqProofs [h1, h2, h3, h4, h5, b1, b2, b3, binS]
def stZe (n i : Nat) : St := ⟨[(3, .bs (.loc 9) 1 3 0 n), (10, .i .i64 n), (11, .i .i64 i)], [(.loc 9, ⟨1, .own, 3, rowF (List.replicate i (fz 0)) ++ List.replicate (n - i) [.b false, .sl [] .an, .sl [] .an]⟩)], 3⟩
def stNm (l : List Fz) (i : Nat) : St := ⟨[(3, .bs (.loc 3) 1 3 0 i), (6, .sl (rowF l) .an), (7, .i .i64 l.length), (8, .i .i64 i)], [(.loc 3, ⟨1, .own, 3, rowF (nrm (l.take i))⟩)], 3⟩
def scl (c : Rat) (l : List Fz) : List Fz := l.map fun x => fz (c * fv x)
def stSl (c : Fz) (l : List Fz) (i : Nat) : St := ⟨[(2, .ptr (.loc 2) 1 3 0 0), (5, .bs (.loc 5) 2 3 0 i), (8, .sl (rowF l) .an), (9, .i .i64 l.length), (10, .i .i64 i)], [(.loc 2, ⟨1, .str, 3, [celF c]⟩), (.loc 5, ⟨2, .own, 3, rowF (scl (fv c) (l.take i))⟩)], 4⟩
def dotQ : List Fz → List Fz → Rat
 | x :: a, y :: b => fv x * fv y + dotQ a b
 | _, _ => 0
def dotK (a b : List Fz) (i : Nat) : Rat := dotQ (a.take i) (b.take i)
abbrev nocell : List AV := [.b false, .sl [] .an, .sl [] .an]
def stDt (a b : List Fz) (i : Nat) : St := ⟨[(1, .sl (rowF b) .an), (4, .ptr (.loc 4) 1 3 0 0), (6, .ptr (.loc 6) 2 3 0 0), (16, .sl (rowF a) .an), (17, .i .i64 a.length), (18, .i .i64 i)],
 [(.loc 4, ⟨1, .str, 3, [nocell]⟩), (.loc 6, ⟨2, .str, 3, [celF (fz (dotK a b i))]⟩)], 4⟩
def stSm (a b : List Fz) (i : Nat) : St := ⟨[(0, .sl (rowF a) .an), (1, .sl (rowF b) .an), (12, .i .i64 a.length), (13, .i .i64 i)], [], 2⟩
def txts (l : List Fz) : List (List UInt8) := l.map fun x => textQ (fv x)
def stTt (l : List Fz) (i : Nat) : St := ⟨[(3, .bs (.loc 3) 1 1 0 i), (6, .sl (rowF l) .an), (7, .i .i64 l.length), (8, .i .i64 i)], [(.loc 3, ⟨1, .own, 1, rowsT (txts (l.take i))⟩)], 3⟩
end
end Go.Ab
end

section
namespace Go.Ab
@[simp] theorem fzs_length (l : List Rat) : (fzs l).length = l.length := by simp [fzs]
@[simp] theorem fv_fzs (l : List Rat) : (fzs l).map fv = l := by unfold fzs; rw [List.map_map]; simp [Function.comp_def]
def mixP (c : Rat) (acc : List Rat) (r : List Fz) : List Rat := List.zipWith (fun q x => q + c * fv x) acc r
def addP (acc : List Rat) (r : List Fz) : List Rat := List.zipWith (fun q x => q + fv x) acc r
section
variable {T : Tbl} [CNat T] [CProd T] [CTwos T] [CQuot T] [CQuotD T] [CText T] [CWhole T] [CCommon T] [CFrac T] [CJoin T] [CRow T]
def stAi (k j n : Nat) (rest : List (List Fz)) (r : List Fz) (L acc : List Rat) (i : Nat) : St :=
 ⟨[(4, .bs (.fld (.loc 15) 3) 1 3 0 n), (17, .sl (matF rest) .an), (18, .i .i64 k), (19, .i .i64 j), (28, .sl (rowF r) .an), (29, .i .i64 n), (30, .i .i64 i)],
  [(.fld (.loc 15) 3, ⟨1, .own, 3, rowF (fzs (L.take i ++ acc.drop i))⟩)], 3⟩
def stAo (n : Nat) (rest : List (List Fz)) (acc : List Rat) (j : Nat) : St :=
 ⟨[(4, .bs (.fld (.loc 15) 3) 1 3 0 n), (17, .sl (matF rest) .an), (18, .i .i64 rest.length), (19, .i .i64 j)], [(.fld (.loc 15) 3, ⟨1, .own, 3, rowF (fzs ((rest.take j).foldl addP acc))⟩)], 3⟩
end
end Go.Ab
end

section
namespace Go.Ab
def mixF (p : List (Fz × List Fz)) (acc : List Rat) : List Rat := p.foldl (fun a q => mixP (fv q.1) a q.2) acc
section
variable {T : Tbl} [CNat T] [CProd T] [CTwos T] [CQuot T] [CQuotD T] [CText T] [CWhole T] [CCommon T] [CFrac T] [CJoin T] [CRow T]
def stMi (C : List Fz) (k j n : Nat) (l : List (List Fz)) (r : List Fz) (L acc : List Rat) (i : Nat) : St :=
 ⟨[(0, .sl (rowF C) .an), (10, .bs (.fld (.loc 40) 9) 1 3 0 n), (11, .i .i64 k), (41, .sl (matF l) .an), (42, .i .i64 j), (43, .i .i64 k), (54, .sl (rowF r) .an), (55, .i .i64 n), (56, .i .i64 i)],
  [(.fld (.loc 40) 9, ⟨1, .own, 3, rowF (fzs (L.take i ++ acc.drop i))⟩)], 3⟩
def stMo (C : List Fz) (n : Nat) (l : List (List Fz)) (acc : List Rat) (k : Nat) : St :=
 ⟨[(0, .sl (rowF C) .an), (10, .bs (.fld (.loc 40) 9) 1 3 0 n), (41, .sl (matF l) .an), (42, .i .i64 l.length), (43, .i .i64 k)], [(.fld (.loc 40) 9, ⟨1, .own, 3, rowF (fzs (mixF ((C.zip l).take k) acc))⟩)], 3⟩
def stMc (C : List Fz) (l : List (List Fz)) (n i : Nat) : St := ⟨[(0, .sl (rowF C) .an), (1, .sl (matF l) .an), (2, .i .i64 n), (28, .sl (matF l) .an), (29, .i .i64 l.length), (30, .i .i64 i)], [], 2⟩
end
end Go.Ab
end

section
namespace Go.Ab
abbrev agS (t h : Fz) (y0 y1 f0 f1 : List Fz) : AV :=
 .agg [.b t.1, .sl (u32s t.2.1) .an, .sl (u32s t.2.2) .an, .b h.1, .sl (u32s h.2.1) .an, .sl (u32s h.2.2) .an, .sl (rowF y0) .an, .sl (rowF y1) .an, .sl (rowF f0) .an, .sl (rowF f1) .an]
def prodQ (l : List Fz) : Rat := l.foldl (fun p x => p * fv x) 1
section
variable {T : Tbl} [CNat T] [CProd T] [CTwos T] [CQuot T] [CQuotD T] [CText T] [CWhole T] [CCommon T] [CFrac T] [CJoin T] [CRow T] [CSpan T]
def stTm (l : List Fz) (i : Nat) : St := ⟨[(2, .ptr (.loc 2) 1 3 0 0), (3, .ptr (.loc 3) 2 3 0 0), (7, .sl (rowF l) .an), (8, .i .i64 l.length), (9, .i .i64 i)], [(.loc 2, ⟨1, .str, 3, [nocell]⟩), (.loc 3, ⟨2, .str, 3, [celF (fz (prodQ (l.take i)))]⟩)], 4⟩
def rightS (h : Fz) (y0 y1 f0 f1 : List Fz) : Bool := decide (0 < fv h) && decide (y0.length ≤ 300) && decide (y1.length = y0.length) && decide (f0.length = y0.length) && decide (f1.length = y0.length)
end
end Go.Ab
end

section
namespace Go.Ab
abbrev tyS : Ty := .cons tyF (.cons tyF (.cons (.sl tyF) (.cons (.sl tyF) (.cons (.sl tyF) (.cons (.sl tyF) .nil)))))
end Go.Ab
end

section
namespace Go.Proofs.YtoogmjnkclcjjaaGreatDoor
open Go Go.Ab Go.ChangeShapes Go.WideShapes Go.ChangeAt Go.RowKit
theorem Tryz.own : ownKnob Tryz.prog.godebug = none := by kernel_rfl
theorem Tryz.laidOut : laidOutB Tryz.prog = true := by kernel_rfl
theorem Tryz.mixed : Tryz.prog.follows .mixedOrders = true := by kernel_rfl
theorem Tryz.rowed : mapsRowed Tryz.prog = true := by kernel_rfl
theorem Tryz.heard : Tryz.prog.stopsHeard = true := by kernel_rfl
theorem Tryz.enters : Tryz.prog.mayEnter = true := by kernel_rfl
theorem Tryz.keys : Tryz.prog.plainKeys = Rows.figureWritesRow.plainKeys := by kernel_rfl
theorem Tryz.lifts : Tryz.prog.liftsFinal = Rows.figureWritesRow.lifted := by kernel_rfl
theorem Tryz.makes : Tryz.prog.make = some Rows.figureWritesRow.make := by kernel_rfl
def laid2 : List (String × DataW Unit) := [("unicode/utf8.acceptRanges", Rows.laid_unicode_utf8_acceptRanges), ("unicode/utf8.first", Rows.laid_unicode_utf8_first)]
noncomputable def laidWorld (os : Os) : World :=
 let put (h : Array Obj) (g : Nat) (cs : Array Value) : Array Obj := h.modify g fun
  | .cells _ t frozen => .cells cs t frozen
  | o => o
 let w0 := World.holding Tryz.prog os ⟨#[], #[], []⟩
 let h1 := put w0.heap 1 (Lib.firstTab.map fun z => Value.int .u8 z).toArray
 let h2 := put h1 2 ((List.range 16).flatMap fun i => [Value.int .u8 (Lib.accLo i), Value.int .u8 (Lib.accHi i)]).toArray
 { w0 with heap := h2 }
theorem laid_met (os : Os) (args : Array Value) : laidMetH Tryz.prog laid2 ((laidWorld os).forCall (fun _ _ => 0) ⟨#[], args, []⟩).memory :=
 laidMetH_of_parts3 (fuel := 8) (laidMet_of_run' 8 (by kernel_rfl) (by kernel_rfl)) (by kernel_rfl) (by kernel_rfl)
theorem laid_shaped (os : Os) : (laidWorld os).Shaped Tryz.prog := World.shaped_of_RefB (by kernel_rfl) (by kernel_rfl)
theorem tab_all : TOk Tryz.prog nu (fun u => lTab.lookup u) := lTab_ok (text_ok Tryz.mixed) (str343_ok) (str344_ok)
end Go.Proofs.YtoogmjnkclcjjaaGreatDoor
end

section
namespace Go.Ab
section
variable {T : Tbl}
theorem zeros_loop (m : Nat) (hm : m % 2 = 1) (K : Nat) (hK : 2 ^ K * m < 4294967296) (hK2 : K ≤ 32) : ∀ v : Nat, v ≤ K →
  loopN T 0 0 (.norm false [3]) l224_0 ⟨[(0, u32 (2 ^ v * m)), (3, .i .i64 (K - v : Nat))], [], 2⟩ = some (.n, ⟨[(3, .i .i64 K)], [], 2⟩) := by
 refine loopN_eq (fun v : Nat => ⟨[(0, u32 (2 ^ v * m)), (3, .i .i64 (K - v : Nat))], [], 2⟩) _ (fun v => v) _ ?_
 intro v hv
 cases v with
 | zero =>
  right
  rw [Nat.pow_zero, Nat.one_mul, Nat.sub_zero]
  constructor <;> simp -implicitDefEqProofs [l224_0, hm]
 | succ v =>
  left
  have hle : 2 ^ (v + 1) * m ≤ 2 ^ K * m := Nat.mul_le_mul_right _ (Nat.pow_le_pow_right (by decide) hv)
  have e : 2 ^ (v + 1) * m = 2 ^ v * m * 2 := by rw [Nat.pow_succ, Nat.mul_assoc, Nat.mul_comm 2 m, Nat.mul_assoc]
  have hw : IntKind.wrap .i64 (((K - (v + 1) : Nat) : Int) + 1) = ((K - v : Nat) : Int) := by rw [wrap_i64 _ (by omega)]; omega
  refine ⟨v, by omega, Nat.lt_succ_self v, ?_, rfl⟩
  rw [e] at hle ⊢
  generalize 2 ^ v * m = x at *
  have e1 : x * 2 % 2 = 0 := by omega
  have e2 : x * 2 / 2 % 4294967296 = x := by omega
  have e3 : x < 4294967296 := by omega
  simp -implicitDefEqProofs [l224_0, e1, e2, e3, hw]
end
section
variable {T : Tbl} [CRef06 T]
theorem ref01_zeros (m K : Nat) (hm : m % 2 = 1) (hK : 2 ^ K * m < 4294967296) : callF T 224 [u32 (2 ^ K * m)] = some (.i .i64 K) := by
 have hK2 : K ≤ 32 := by
  rcases Nat.lt_or_ge 32 K with h | h
  ·have h1 : 2 ^ 32 ≤ 2 ^ K := Nat.pow_le_pow_right (by decide) (by omega)
   have h2 : 2 ^ K ≤ 2 ^ K * m := Nat.le_mul_of_pos_right _ (by omega)
   have h3 : (2 : Nat) ^ 32 = 4294967296 := rfl
   omega
  ·exact h
 have h := zeros_loop (T := T) m hm K hK hK2 K (Nat.le_refl _)
 rw [Nat.sub_self] at h
 simp only [Int.natCast_zero] at h
 have h0 : 2 ^ K * m ≠ 0 := Nat.mul_ne_zero (by have := Nat.pow_pos (n := K) (show 0 < 2 by decide); omega) (by omega)
 rw [f224 _ rfl, b224]
 generalize 2 ^ K * m = x at *
 simp -implicitDefEqProofs [h, h0]
end
theorem get_win {P m a S : List UInt32} {i : Nat} (hm : m.length = i) (hi : i < a.length) : (P ++ (m ++ (a.drop i ++ S)))[P.length + i]? = some (a[i]'hi) := by
 rw [List.getElem?_append_right (by omega), Nat.add_sub_cancel_left, List.getElem?_append_right (by omega), hm, Nat.sub_self, List.drop_eq_getElem_cons hi]
 rfl
theorem get_win1 {P m a S : List UInt32} {i : Nat} (hm : m.length = i) (hi : i + 1 < a.length) : (P ++ (m ++ (a.drop i ++ S)))[P.length + (i + 1)]? = some (a[i + 1]'hi) := by
 rw [List.getElem?_append_right (by omega), Nat.add_sub_cancel_left, List.getElem?_append_right (by omega), hm, Nat.add_sub_cancel_left, List.drop_eq_getElem_cons (show i < a.length by omega), List.drop_eq_getElem_cons hi]
 rfl
theorem set_win {P m a S : List UInt32} {i : Nat} (hm : m.length = i) (hi : i < a.length) (w : UInt32) : (P ++ (m ++ (a.drop i ++ S))).set (P.length + i) w = P ++ ((m ++ [w]) ++ (a.drop (i + 1) ++ S)) := by
 rw [List.set_append_right _ _ (by omega), Nat.add_sub_cancel_left, List.set_append_right _ _ (by omega), hm, Nat.sub_self, List.drop_eq_getElem_cons hi, List.cons_append, List.set_cons_zero]
 simp
section
variable {T : Tbl}
def stDw (Q : List UInt32) (o n s i : Nat) : St := ⟨[(0, .bs (.bor 0) 0 1 o n), (1, .i .i64 s), (5, .i .i64 i)], [(.bor 0, ⟨0, .own, 1, u32s Q⟩)], 4⟩
theorem dw_step1 (Q : List UInt32) (o n s i : Nat) (x y : UInt32) (hi : i + 1 < n) (hn : n ≤ 1000000) (hs : s < 32) (hx : Q[o + i]? = some x) (hy : Q[o + (i + 1)]? = some y) :
  evX (orc T) T 1 l225_0 (stDw Q o n s i) = some (.n, stDw (Q.set (o + i) (w32 ((x.toNat + y.toNat * 4294967296) / 2 ^ s % 4294967296))) o n s (i + 1)) := by
 have h1 : (i : Int) < n := by omega
 have h2 : (i : Int) + 1 < n := by omega
 have hw : IntKind.wrap .i64 ((i : Int) + 1) = ((i + 1 : Nat) : Int) := wrap_i64 _ (by omega)
 have lx := u32_lt x
 have ly := u32_lt y
 have m2 : y.toNat * 4294967296 % 18446744073709551616 = y.toNat * 4294967296 := Nat.mod_eq_of_lt (by omega)
 have m3 : (y.toNat * 4294967296 + x.toNat) % 18446744073709551616 = x.toNat + y.toNat * 4294967296 := by rw [Nat.add_comm]; exact Nat.mod_eq_of_lt (by omega)
 have hmin : min s 64 = s := by omega
 obtain ⟨b1, hgx⟩ := List.getElem?_eq_some_iff.1 hx
 have i1 : i < n := by omega
 unfold stDw
 simp -implicitDefEqProofs [l225_0, h1, h2, i1, hi, hw, hx, hy, m2, m3, hmin, b1, hgx, w32_modw]
theorem dw_step2 (Q : List UInt32) (o n s i : Nat) (x : UInt32) (hi : i + 1 = n) (hn : n ≤ 1000000) (hs : s < 32) (hx : Q[o + i]? = some x) :
  evX (orc T) T 1 l225_0 (stDw Q o n s i) = some (.n, stDw (Q.set (o + i) (w32 (x.toNat / 2 ^ s % 4294967296))) o n s (i + 1)) := by
 have h1 : (i : Int) < n := by omega
 have h2 : ¬ (i : Int) + 1 < n := by omega
 have hw : IntKind.wrap .i64 ((i : Int) + 1) = ((i + 1 : Nat) : Int) := wrap_i64 _ (by omega)
 have hmin : min s 64 = s := by omega
 obtain ⟨b1, hgx⟩ := List.getElem?_eq_some_iff.1 hx
 have i1 : i < n := by omega
 have i2 : ¬ i + 1 < n := by omega
 unfold stDw
 simp -implicitDefEqProofs [l225_0, h1, h2, i1, i2, hw, hx, hmin, b1, hgx, w32_modw]
theorem dw_loop (P a S : List UInt32) (s : Nat) (hs : s < 32) (hl : a.length ≤ 1000000) : ∀ y : Nat × List UInt32,
  (y.1 ≤ a.length ∧ y.2.length = y.1 ∧ val y.2 + 4294967296 ^ y.1 * (val (a.drop y.1) / 2 ^ s) = val a / 2 ^ s) →
  ∃ r, (∃ m : List UInt32, r = (Ex.n, (⟨[(0, .bs (.bor 0) 0 1 P.length a.length)], [(.bor 0, ⟨0, .own, 1, u32s (P ++ (m ++ S))⟩)], 4⟩ : St)) ∧ m.length = a.length ∧ val m = val a / 2 ^ s) ∧
   loopN T 1 0 (.norm false [0]) l225_0 (stDw (P ++ (y.2 ++ (a.drop y.1 ++ S))) P.length a.length s y.1) = some r := by
 refine loopN_ex (fun y : Nat × List UInt32 => stDw (P ++ (y.2 ++ (a.drop y.1 ++ S))) P.length a.length s y.1) _ (fun y => a.length - y.1) _ ?_
 rintro ⟨i, m⟩ ⟨hi, hm, hv⟩
 simp only at hi hm hv
 by_cases h0 : i < a.length
 ·left
  have hx := u32_lt (a[i]'h0)
  have hd := List.drop_eq_getElem_cons h0
  have fin : ∀ y R : Nat, val (a.drop (i + 1)) = y + 4294967296 * R → val (m ++ [w32 (((a[i]'h0).toNat + y * 4294967296) / 2 ^ s % 4294967296)]) + 4294967296 ^ (i + 1) * (val (a.drop (i + 1)) / 2 ^ s) = val a / 2 ^ s := by
   intro y R hR
   have hmod : ((a[i]'h0).toNat + y * 4294967296) / 2 ^ s % 4294967296 < 4294967296 := Nat.mod_lt _ (by decide)
   have hdw := down_word (x := (a[i]'h0).toNat) (y := y) (R := R) hs hx
   rw [hd, val_cons, hR, hdw, ← hR] at hv
   rw [val_append, hm, Nat.pow_succ]
   rw [val_cons, val_nil, Nat.mul_zero, Nat.add_zero, w32_of_lt hmod]
   rw [Nat.mul_add] at hv
   rw [← hv, Nat.mul_assoc, Nat.add_assoc]
  by_cases h1 : i + 1 < a.length
  ·have hd1 := List.drop_eq_getElem_cons h1
   refine ⟨(i + 1, m ++ [w32 (((a[i]'h0).toNat + (a[i + 1]'h1).toNat * 4294967296) / 2 ^ s % 4294967296)]), ⟨h0, by simp [hm], fin _ (val (a.drop (i + 1 + 1))) (by rw [hd1, val_cons])⟩, by simp only; omega, ?_⟩
   simp only
   rw [dw_step1 _ _ _ _ _ _ _ h1 hl hs (get_win hm h0) (get_win1 hm h1), set_win hm h0]
  ·have f0 := fin 0 0 (by rw [List.drop_of_length_le (by omega), val_nil, Nat.mul_zero])
   rw [Nat.zero_mul, Nat.add_zero] at f0
   refine ⟨(i + 1, m ++ [w32 ((a[i]'h0).toNat / 2 ^ s % 4294967296)]), ⟨h0, by simp [hm], f0⟩, by simp only; omega, ?_⟩
   simp only
   rw [dw_step2 _ _ _ _ _ _ (by omega) hl hs (get_win hm h0), set_win hm h0]
 ·right
  have : i = a.length := by omega
  subst this
  rw [List.drop_length, val_nil, Nat.zero_div, Nat.mul_zero, Nat.add_zero] at hv
  refine ⟨_, ⟨m, rfl, hm, hv⟩, ?_, ?_⟩ <;> simp -implicitDefEqProofs [l225_0, stDw]
theorem trimw_loop (P a S : List UInt32) (hl : a.length ≤ 1000000) {n : Nat} (hn : n ≤ a.length) (h0 : ∀ (i : Nat) (x : UInt32), n ≤ i → a[i]? = some x → x.toNat = 0) (h1 : ∀ x : UInt32, 0 < n → a[n - 1]? = some x → x.toNat ≠ 0) :
  ∀ k : Nat, (n ≤ k ∧ k ≤ a.length) → loopN T 1 2 (.norm false [0]) l225_1 ⟨[(0, .bs (.bor 0) 0 1 P.length k)], [(.bor 0, ⟨0, .own, 1, u32s (P ++ (a ++ S))⟩)], 4⟩ =
   some (.n, ⟨[(0, .bs (.bor 0) 0 1 P.length n)], [(.bor 0, ⟨0, .own, 1, u32s (P ++ (a ++ S))⟩)], 4⟩) := by
 refine loopN_eq (fun k : Nat => ⟨[(0, .bs (.bor 0) 0 1 P.length k)], [(.bor 0, ⟨0, .own, 1, u32s (P ++ (a ++ S))⟩)], 4⟩) _ (fun k => k) _ ?_
 rintro k ⟨hk, hka⟩
 have hget : ∀ j, j < a.length → (P ++ (a ++ S))[P.length + j]? = a[j]? := by
  intro j hj
  rw [List.getElem?_append_right (by omega), Nat.add_sub_cancel_left, List.getElem?_append_left hj]
 by_cases h2 : k = 0
 ·right
  have : n = 0 := by omega
  subst this; subst h2
  generalize P ++ (a ++ S) = Q at *
  constructor <;> simp -implicitDefEqProofs [l225_1]
 ·have hw : IntKind.wrap .i64 ((k : Int) - 1) = ((k - 1 : Nat) : Int) := by rw [wrap_i64 _ (by omega)]; omega
  have hg : a[k - 1]? = some (a[k - 1]'(by omega)) := List.getElem?_eq_getElem _
  have hq := hget (k - 1) (by omega)
  rw [hg] at hq
  have hpos : 0 < k := by omega
  have hlt : k - 1 < k := by omega
  generalize P ++ (a ++ S) = Q at *
  by_cases h3 : k = n
  ·right
   subst h3
   have hx := h1 _ hpos hg
   constructor <;> simp -implicitDefEqProofs [l225_1, hpos, hw, hq, hx, hlt]
  ·left
   have hx := h0 (k - 1) _ (by omega) hg
   refine ⟨k - 1, ⟨by omega, by omega⟩, hlt, ?_, rfl⟩
   simp -implicitDefEqProofs [l225_1, hpos, hw, hq, hx, hlt]
end
section
variable {T : Tbl} [CRef06 T]
theorem ref06_down (P a S : List UInt32) (s : Nat) (hs : s < 32) (hl : a.length ≤ 1000000) :
  ∃ S', S'.length + (ofN (val a / 2 ^ s)).length = a.length + S.length ∧
   callH T 225 [.bs (.bor 0) 0 1 P.length a.length, .i .i64 s] [(.bor 0, ⟨0, .own, 1, u32s (P ++ (a ++ S))⟩)] =
    some (.bs (.bor 0) 0 1 P.length (ofN (val a / 2 ^ s)).length, [(.bor 0, ⟨0, .own, 1, u32s (P ++ (ofN (val a / 2 ^ s) ++ S'))⟩)]) := by
 obtain ⟨_, ⟨m, rfl, hm, hv⟩, hr⟩ := dw_loop (T := T) P a S s hs hl (0, []) ⟨Nat.zero_le _, rfl, by simp⟩
 obtain ⟨n, h1, h2, h3, h4⟩ := ofN_take m
 have ht := trimw_loop (T := T) P m S (by omega) h1 h3 h4 m.length ⟨h1, Nat.le_refl _⟩
 rw [hv] at h2
 have hlen : (ofN (val a / 2 ^ s)).length = n := by rw [← h2]; simp; omega
 have e : P ++ (m ++ S) = P ++ (ofN (val a / 2 ^ s) ++ (m.drop n ++ S)) := by rw [← h2, ← List.append_assoc (m.take n), List.take_append_drop]
 refine ⟨m.drop n ++ S, by simp; omega, ?_⟩
 rw [hlen, ← e]
 rw [hm] at ht
 unfold stDw at hr
 simp only [List.nil_append, List.drop_zero, Int.natCast_zero] at hr
 rw [f225 _ _ rfl, b225]
 clear e h3 h4 h2
 generalize P ++ (m ++ S) = Q at *
 generalize P ++ (a ++ S) = R at *
 simp -implicitDefEqProofs [hr, ht]
theorem win_bound {P a S : List UInt32} {j : Nat} (hj : j < a.length) : (P ++ (a ++ S))[P.length + j]? = a[j]? := by
 rw [List.getElem?_append_right (by omega), Nat.add_sub_cancel_left, List.getElem?_append_left hj]
theorem strip_loop (Q : List UInt32) (o n j0 : Nat) (hn : n ≤ 1000000) (hj : j0 < n) (hz : ∀ j, j < j0 → ∃ x : UInt32, Q[o + j]? = some x ∧ x.toNat = 0) (h1 : ∃ x : UInt32, Q[o + j0]? = some x ∧ x.toNat ≠ 0) :
  ∀ j : Nat, j ≤ j0 → loopN T 1 0 (.norm false [0, 4]) l226_0 ⟨[(0, .bs (.bor 0) 0 1 (o + j) (n - j)), (4, .i .i64 (32 * j : Nat))], [(.bor 0, ⟨0, .own, 1, u32s Q⟩)], 4⟩ =
   some (.n, ⟨[(0, .bs (.bor 0) 0 1 (o + j0) (n - j0)), (4, .i .i64 (32 * j0 : Nat))], [(.bor 0, ⟨0, .own, 1, u32s Q⟩)], 4⟩) := by
 refine loopN_eq (fun j : Nat => ⟨[(0, .bs (.bor 0) 0 1 (o + j) (n - j)), (4, .i .i64 (32 * j : Nat))], [(.bor 0, ⟨0, .own, 1, u32s Q⟩)], 4⟩) _ (fun j => j0 - j) _ ?_
 intro j hj2
 have hpos : 0 < n - j := by omega
 by_cases h : j = j0
 ·right
  subst h
  obtain ⟨x, hx, hx0⟩ := h1
  constructor <;> simp -implicitDefEqProofs [l226_0, hpos, hx, hx0]
 ·left
  obtain ⟨x, hx, hx0⟩ := hz j (by omega)
  have hw : IntKind.wrap .i64 (((32 * j : Nat) : Int) + 32) = ((32 * (j + 1) : Nat) : Int) := by rw [wrap_i64 _ (by omega)]; omega
  have e1 : 1 < n - j := by omega
  have e2 : n - j - 1 = n - (j + 1) := by omega
  have e3 : (1 : Int) ≤ ((n - j : Nat) : Int) := by omega
  refine ⟨j + 1, by omega, by show j0 - (j + 1) < j0 - j; omega, ?_, rfl⟩
  generalize 32 * j = c at *
  generalize 32 * (j + 1) = c' at *
  rw [← Nat.add_assoc, ← e2]
  generalize n - j = k at *
  have e4 : 1 ≤ k := by omega
  simp -implicitDefEqProofs [l226_0, hpos, hx, hx0, hw, e1, e3, e4]
theorem low_words : ∀ (a : List UInt32), val a ≠ 0 → ∃ j, ∃ h : j < a.length, (∀ i (hi : i < j), (a[i]'(by omega)).toNat = 0) ∧ (a[j]'h).toNat ≠ 0 ∧ val a = 4294967296 ^ j * val (a.drop j)
 | [], h => by simp at h
 | x :: a, h => by
  by_cases hx : x.toNat = 0
  ·have h2 : val a ≠ 0 := by
    intro e
    apply h
    rw [val_cons, hx, e]
   obtain ⟨j, hj, h3, h4, h5⟩ := low_words a h2
   refine ⟨j + 1, by simpa using hj, ?_, by simpa using h4, ?_⟩
   ·intro i hi
    cases i with
    | zero => simpa using hx
    | succ i => simpa using h3 i (by omega)
   ·rw [val_cons, hx, h5, List.drop_succ_cons, Nat.pow_succ, Nat.zero_add, Nat.mul_comm (4294967296 ^ j) 4294967296, Nat.mul_assoc]
  ·exact ⟨0, by simp, fun i hi => by omega, by simpa using hx, by simp⟩
theorem ref06_odd (P a S : List UInt32) (hl : a.length ≤ 100000) (h : val a ≠ 0) : ∃ (P' S' : List UInt32) (m k : Nat), val a = 2 ^ k * m ∧ m % 2 = 1 ∧ k ≤ 32 * a.length ∧ (ofN m).length ≤ a.length ∧ P'.length + (ofN m).length + S'.length = P.length + a.length + S.length ∧
  callH T 226 [.bs (.bor 0) 0 1 P.length a.length] [(.bor 0, ⟨0, .own, 1, u32s (P ++ (a ++ S))⟩)] =
   some (.tup [.bs (.bor 0) 0 1 P'.length (ofN m).length, .i .i64 k], [(.bor 0, ⟨0, .own, 1, u32s (P' ++ (ofN m ++ S'))⟩)]) := by
 obtain ⟨j, hj, hz, hne, hv⟩ := low_words a h
 obtain ⟨s, c, hsc, hc⟩ := odd_part hne
 have hx := u32_lt (a[j]'hj)
 have hs : s < 32 := by
  rcases Nat.lt_or_ge s 32 with h1 | h1
  ·exact h1
  ·have h2 : 2 ^ 32 ≤ 2 ^ s := Nat.pow_le_pow_right (by decide) h1
   have h3 : 2 ^ s ≤ 2 ^ s * c := Nat.le_mul_of_pos_right _ (by omega)
   have h4 : (2 : Nat) ^ 32 = 4294967296 := rfl
   omega
 have hd := List.drop_eq_getElem_cons hj
 -- the rest is odd
 have hm : ∃ m, val (a.drop j) = 2 ^ s * m ∧ m % 2 = 1 := by
  refine ⟨c + 2 ^ (32 - s) * val (a.drop (j + 1)), ?_, ?_⟩
  ·rw [hd, val_cons, hsc, Nat.mul_add, ← Nat.mul_assoc, ← Nat.pow_add, show s + (32 - s) = 32 by omega]
  ·have : 2 ^ (32 - s) = 2 * 2 ^ (31 - s) := by rw [← Nat.pow_succ']; congr 1; omega
   rw [this, Nat.mul_assoc]
   omega
 obtain ⟨m, hm1, hm2⟩ := hm
 have hdiv : val (a.drop j) / 2 ^ s = m := by rw [hm1, Nat.mul_div_cancel_left _ (Nat.pow_pos (by decide))]
 have hlen : (a.drop j).length = a.length - j := by simp
 obtain ⟨S', hS', hdown⟩ := ref06_down (T := T) (P ++ a.take j) (a.drop j) S s hs (by omega)
 rw [hdiv] at hS' hdown
 have hPl : (P ++ a.take j).length = P.length + j := by simp; omega
 have hbox : (P ++ a.take j) ++ (a.drop j ++ S) = P ++ (a ++ S) := by
  rw [List.append_assoc, ← List.append_assoc (a.take j), List.take_append_drop]
 rw [hPl, hlen, hbox] at hdown
 have hml : (ofN m).length ≤ a.length := by
  have h1 : m ≤ val (a.drop j) := by rw [hm1]; exact Nat.le_mul_of_pos_left _ (Nat.pow_pos (by decide))
  have h2 := ofN_len_le h1
  have h3 := ofN_length_le (a.drop j)
  omega
 refine ⟨P ++ a.take j, S', m, 32 * j + s, ?_, hm2, by omega, hml, by simp at hS' ⊢; omega, ?_⟩
 ·rw [hv, hm1, pow32, Nat.pow_add, Nat.mul_assoc]
 ·have hst := strip_loop (T := T) (P ++ (a ++ S)) P.length a.length j (by omega) hj (fun i hi => ⟨_, by rw [win_bound (by omega)]; exact List.getElem?_eq_getElem (by omega), hz i hi⟩) ⟨_, by rw [win_bound hj]; exact List.getElem?_eq_getElem hj, hne⟩ 0 (Nat.zero_le _)
  have hzr := ref01_zeros (T := T) c s hc (by rw [← hsc]; exact hx)
  rw [← hsc] at hzr
  have hg : (P ++ (a ++ S))[P.length + j]? = some (a[j]'hj) := by rw [win_bound hj]; exact List.getElem?_eq_getElem hj
  have hpos : 0 < a.length - j := by omega
  have hw : IntKind.wrap .i64 (((32 * j : Nat) : Int) + s) = ((32 * j + s : Nat) : Int) := by rw [wrap_i64 _ (by omega)]; omega
  simp only [Nat.mul_zero, Nat.add_zero, Nat.sub_zero, Int.natCast_zero] at hst
  rw [hPl, f226 _ _ rfl, b226]
  generalize a[j]'hj = x at *
  clear hsc hv hm1 hd hz hne hbox hS' h hdiv hx
  generalize 32 * j = c1 at *
  generalize c1 + s = c2 at *
  generalize P ++ (a ++ S) = Q at *
  generalize P ++ a.take j ++ (ofN m ++ S') = Q' at *
  simp -implicitDefEqProofs [hst, hzr, hg, hpos, hw, hdown]
end
theorem ls_law {P m a S b : List UInt32} {i c s d : Nat} (hm : m.length = i) (h0 : i < a.length) (hv : val m + val (b.take i) = val (a.take i) + 4294967296 ^ i * c) (hs : s < 4294967296) (h : s + (atW b i + c) = (a[i]'h0).toNat + 4294967296 * d) :
  val (m ++ [w32 s]) + val (b.take (i + 1)) = val (a.take (i + 1)) + 4294967296 ^ (i + 1) * d := by
 have e1 := val_take_succ (List.getElem?_eq_getElem h0)
 have e2 := val_take_atW b i
 rw [val_append, hm, e1, e2, Nat.pow_succ]
 simp only [val_cons, val_nil, Nat.mul_zero, Nat.add_zero, w32_of_lt hs]
 generalize 4294967296 ^ i = p at *
 have e3 : p * s + p * (atW b i + c) = p * (a[i]'h0).toNat + p * 4294967296 * d := by rw [← Nat.mul_add, h, Nat.mul_add, Nat.mul_assoc]
 rw [Nat.mul_add] at e3
 omega
section
variable {T : Tbl} [CRef02 T] [CRef04 T] [CRef05 T] [CRef07 T] [CRef06 T]
def stLw (Q R : List UInt32) (o n o2 n2 c i : Nat) : St := ⟨[(0, .bs (.bor 0) 0 1 o n), (1, .bs (.bor 1) 1 1 o2 n2), (4, u64 c), (5, .i .i64 i)], [(.bor 0, ⟨0, .own, 1, u32s Q⟩), (.bor 1, ⟨1, .own, 1, u32s R⟩)], 6⟩
theorem lw_step (Q R b : List UInt32) (o n o2 n2 c i : Nat) (x : UInt32) (hi : i < n) (hn : n ≤ 1000000) (hb : b.length ≤ 1000000) (hc : c ≤ 1) (hx : Q[o + i]? = some x) (hR : List.take n2 (List.drop o2 R) = b) (hR2 : o2 + n2 ≤ R.length) :
  evX (orc T) T 2 l2097_0 (stLw Q R o n o2 n2 c i) = some (.n, stLw (Q.set (o + i) (w32 (if x.toNat < atW b i + c then x.toNat + 4294967296 - (atW b i + c) else x.toNat - (atW b i + c)))) R o n o2 n2 (if x.toNat < atW b i + c then 1 else 0) (i + 1)) := by
 have h1 : (i : Int) < n := by omega
 have hw : IntKind.wrap .i64 ((i : Int) + 1) = ((i + 1 : Nat) : Int) := wrap_i64 _ (by omega)
 have cb := ref02_at (T := T) b i hb
 have lx := u32_lt x
 have lb := atW_lt b i
 generalize atW b i = y at *
 have m2 : y % 18446744073709551616 = y := Nat.mod_eq_of_lt (by omega)
 have m3 : (y + c) % 18446744073709551616 = y + c := Nat.mod_eq_of_lt (by omega)
 have m4 : (x.toNat + 4294967296) % 18446744073709551616 = x.toNat + 4294967296 := Nat.mod_eq_of_lt (by omega)
 obtain ⟨b1, hgx⟩ := List.getElem?_eq_some_iff.1 hx
 unfold stLw
 by_cases hlt : x.toNat < y + c
 ·have hs : sub64 (x.toNat + 4294967296) (y + c) = x.toNat + 4294967296 - (y + c) := sub64_le (by omega) (by omega)
  simp -implicitDefEqProofs [l2097_0, h1, hi, hw, cb, m2, m3, m4, hx, b1, hgx, hR, hR2, hlt, hs]
 ·have hs : sub64 x.toNat (y + c) = x.toNat - (y + c) := sub64_le (by omega) (by omega)
  simp -implicitDefEqProofs [l2097_0, h1, hi, hw, cb, m2, m3, m4, hx, b1, hgx, hR, hR2, hlt, hs]
theorem lw_loop (P a S R b : List UInt32) (o2 n2 : Nat) (hl : a.length ≤ 1000000) (hb : b.length ≤ 1000000) (hR : List.take n2 (List.drop o2 R) = b) (hR2 : o2 + n2 ≤ R.length) : ∀ y : Nat × Nat × List UInt32,
  (y.1 ≤ a.length ∧ y.2.1 ≤ 1 ∧ y.2.2.length = y.1 ∧ val y.2.2 + val (b.take y.1) = val (a.take y.1) + 4294967296 ^ y.1 * y.2.1) →
  ∃ r, (∃ (c : Nat) (m : List UInt32), r = (Ex.n, (⟨[], [(.bor 0, ⟨0, .own, 1, u32s (P ++ (m ++ S))⟩), (.bor 1, ⟨1, .own, 1, u32s R⟩)], 6⟩ : St)) ∧
   m.length = a.length ∧ c ≤ 1 ∧ val m + val (b.take a.length) = val a + 4294967296 ^ a.length * c) ∧
   loopN T 2 0 (.norm false []) l2097_0 (stLw (P ++ (y.2.2 ++ (a.drop y.1 ++ S))) R P.length a.length o2 n2 y.2.1 y.1) = some r := by
 refine loopN_ex (fun y : Nat × Nat × List UInt32 => stLw (P ++ (y.2.2 ++ (a.drop y.1 ++ S))) R P.length a.length o2 n2 y.2.1 y.1) _ (fun y => a.length - y.1) _ ?_
 rintro ⟨i, c, m⟩ ⟨hi, hc, hm, hv⟩
 simp only at hi hc hm hv
 by_cases h0 : i < a.length
 ·left
  have lx := u32_lt (a[i]'h0)
  have lb := atW_lt b i
  have hstep := lw_step (T := T) (P ++ (m ++ (a.drop i ++ S))) R b P.length a.length o2 n2 c i (a[i]'h0) h0 hl hb hc (get_win hm h0) hR hR2
  rw [set_win hm h0] at hstep
  by_cases hlt : (a[i]'h0).toNat < atW b i + c
  ·rw [if_pos hlt, if_pos hlt] at hstep
   exact ⟨(i + 1, 1, m ++ [w32 ((a[i]'h0).toNat + 4294967296 - (atW b i + c))]), ⟨h0, Nat.le_refl _, by simp [hm], by simp only; exact ls_law (P := P) (S := S) hm h0 hv (by omega) (by omega)⟩, by simp only; omega, hstep⟩
  ·rw [if_neg hlt, if_neg hlt] at hstep
   exact ⟨(i + 1, 0, m ++ [w32 ((a[i]'h0).toNat - (atW b i + c))]), ⟨h0, Nat.zero_le _, by simp [hm], by simp only; exact ls_law (P := P) (S := S) hm h0 hv (by omega) (by omega)⟩, by simp only; omega, hstep⟩
 ·right
  have : i = a.length := by omega
  subst this
  rw [List.take_of_length_le (Nat.le_refl a.length)] at hv
  refine ⟨_, ⟨c, m, rfl, hm, hc, hv⟩, ?_, ?_⟩ <;> simp -implicitDefEqProofs [l2097_0, stLw]
theorem ref05_less2 (P a S P2 b S2 : List UInt32) (hl : a.length ≤ 1000000) (hb : b.length ≤ a.length) (hab : val b ≤ val a) :
  ∃ m : List UInt32, m.length = a.length ∧ val m = val a - val b ∧
   callH T 2097 [.bs (.bor 0) 0 1 P.length a.length, .bs (.bor 1) 1 1 P2.length b.length] [(.bor 0, ⟨0, .own, 1, u32s (P ++ (a ++ S))⟩), (.bor 1, ⟨1, .own, 1, u32s (P2 ++ (b ++ S2))⟩)] =
    some (.tup [], [(.bor 0, ⟨0, .own, 1, u32s (P ++ (m ++ S))⟩), (.bor 1, ⟨1, .own, 1, u32s (P2 ++ (b ++ S2))⟩)]) := by
 obtain ⟨_, ⟨c, m, rfl, hm, hc, hv⟩, hr⟩ := lw_loop (T := T) P a S (P2 ++ (b ++ S2)) b P2.length b.length hl (by omega) (by simp) (by simp) (0, 0, []) ⟨Nat.zero_le _, Nat.zero_le _, rfl, by simp⟩
 rw [List.take_of_length_le hb] at hv
 have hlo := val_lt m
 rw [hm] at hlo
 have hval : val m = val a - val b := by
  rcases Nat.eq_zero_or_pos c with h1 | h1
  ·subst h1; omega
  ·have : c = 1 := by omega
   subst this
   omega
 refine ⟨m, hm, hval, ?_⟩
 unfold stLw at hr
 simp only [List.nil_append, List.drop_zero, Int.natCast_zero] at hr
 rw [f2097 _ _ rfl, b2097]
 generalize P ++ (a ++ S) = Q at *
 generalize P ++ (m ++ S) = Q2 at *
 generalize P2 ++ (b ++ S2) = R at *
 clear hv hlo hval
 simp -implicitDefEqProofs [hr]
theorem ref06_one (a : List UInt32) : callF T 229 [.sl (u32s (ofN (val a))) .an] = some (.b (decide (val a = 1))) := by
 rw [f229 _ rfl, b229]
 generalize val a = n
 by_cases h0 : n = 0
 ·subst h0
  simp -implicitDefEqProofs
 ·rw [ofN_pos h0]
  by_cases h1 : n / 4294967296 = 0
  ·have e : ofN (n / 4294967296) = [] := ofN_eq_nil.2 h1
   have e2 : n % 4294967296 = n := Nat.mod_eq_of_lt (by omega)
   simp -implicitDefEqProofs [e, u32s, w32_mod, e2]
  ·have h2 : ¬ ofN (n / 4294967296) = [] := fun e => h1 (ofN_eq_nil.1 e)
   have h3 : ¬ n = 1 := by rintro rfl; simp at h1
   have h4 : ¬ ((ofN (n / 4294967296)).length : Int) + 1 = 1 := by
    have := List.length_pos_iff.2 h2
    omega
   simp -implicitDefEqProofs [u32s, h3, h4]
theorem ref06_over (a g : List UInt32) (ha : a.length ≤ 10000) (hg : g.length ≤ 10000) (h0 : val g ≠ 0) : callF T 230 [.sl (u32s a) .an, .sl (u32s (ofN (val g))) .an] = some (.sl (u32s (ofN (val a / val g))) .an) := by
 have ho := ref06_one (T := T) g
 have hn := ref02_norm (T := T) a (by omega)
 have hd := ref05_div (T := T) a (ofN (val g)) (by omega) (by have := ofN_length_le g; omega) (by rw [val_ofN]; omega)
 rw [val_ofN] at hd
 rw [f230 _ rfl, b230]
 by_cases h1 : val g = 1
 ·rw [h1] at ho hd ⊢
  simp -implicitDefEqProofs [ho, hn]
 ·simp -implicitDefEqProofs [ho, h1, hd]
theorem ref06_double (a : List UInt32) (k : Nat) (ha : a.length ≤ 10000) (hk : k ≤ 1000000) : callF T 227 [.sl (u32s a) .an, .i .i64 k] = some (.sl (u32s (ofN (2 ^ k * val a))) .an) := by
 have hq : (k : Int).tdiv 32 = (k : Int) / 32 := Int.tdiv_eq_ediv_of_nonneg (by omega)
 have hm2 : (k : Int).tmod 32 = (k : Int) % 32 := Int.tmod_eq_emod_of_nonneg (by omega)
 have s0 : ¬ (k : Int) % 32 < 0 := by omega
 have s1 : ((k : Int) % 32).toNat = k % 32 := by omega
 have s2 : min (k % 32) 32 = k % 32 := by omega
 have w1 : IntKind.wrap .i64 ((k : Int) / 32) = ((k / 32 : Nat) : Int) := by rw [wrap_i64 (k / 32) (by omega)]; omega
 have h2 : 2 ^ (k % 32) < 4294967296 := by
  have := Nat.pow_lt_pow_right (show 1 < 2 by decide) (Nat.mod_lt k (show 0 < 32 by decide))
  have h4 : (2 : Nat) ^ 32 = 4294967296 := rfl
  omega
 have s3 : 2 ^ (k % 32) % 4294967296 = 2 ^ (k % 32) := Nat.mod_eq_of_lt h2
 have hmul := ref04_mul (T := T) (List.replicate (k / 32) 0 ++ a) [w32 (2 ^ (k % 32))] (by simp; omega) (by simp)
 have hv : val (List.replicate (k / 32) 0 ++ a) * val [w32 (2 ^ (k % 32))] = 2 ^ k * val a := by
  rw [val_append, val_replicate, List.length_replicate, val_cons, val_nil, w32_of_lt h2, Nat.mul_zero, Nat.add_zero, Nat.zero_add, pow32, Nat.mul_comm, ← Nat.mul_assoc, ← Nat.pow_add, show k % 32 + 32 * (k / 32) = k by omega]
 rw [hv] at hmul
 have b2 : k / 32 + a.length ≤ 4294967296 := by omega
 have b3 : ((k / 32 : Nat) : Int) ≤ 4294967296 := by omega
 have hu : u32s [w32 (2 ^ (k % 32))] = [[u32 (2 ^ (k % 32))]] := by simp [u32s, w32_of_lt h2]
 rw [hu] at hmul
 have ht : List.take (k / 32 + a.length) (List.replicate (k / 32) 0 ++ a) = List.replicate (k / 32) 0 ++ a := List.take_of_length_le (by simp)
 rw [f227 _ rfl, b227]
 generalize 2 ^ k * val a = V at *
 clear hv hu
 generalize k / 32 = q at *
 simp -implicitDefEqProofs [hq, hm2, w1, s0, s1, s2, s3, hmul, b2, b3, ht]
def nmX : BId := .fld (.loc 12) 22
def nmY : BId := .fld (.loc 14) 22
def nm2 (f : Bool) : BId × BId := if f then (nmX, nmY) else (nmY, nmX)
def stGc (f : Bool) (P a S P2 b S2 : List UInt32) (m n : Nat) : St :=
 ⟨[(5, .bs (nm2 f).1 1 1 P.length a.length), (6, .bs (nm2 f).2 2 1 P2.length b.length), (7, .i .i64 m), (8, .i .i64 n)], [((nm2 f).1, ⟨1, .own, 1, u32s (P ++ (a ++ S))⟩), ((nm2 f).2, ⟨2, .own, 1, u32s (P2 ++ (b ++ S2))⟩)], 4⟩
theorem gc_gt (f : Bool) (P S P2 S2 : List UInt32) (X Y m n : Nat) (hX : (ofN X).length ≤ 10000) (hY : (ofN Y).length ≤ 10000) (h : Y < X) :
  ∃ (P' S' : List UInt32) (k x : Nat), X - Y = 2 ^ k * x ∧ x % 2 = 1 ∧
   evX (orc T) T 0 l228_0 (stGc f P (ofN X) S P2 (ofN Y) S2 m n) = some (.n, stGc f P' (ofN x) S' P2 (ofN Y) S2 m n) := by
 have hc := ref02_cmp (T := T) (ofN X) (ofN Y) (by omega) (by omega)
 rw [val_ofN, val_ofN, show cmpN X Y = 1 by unfold cmpN; rw [if_neg (by omega), if_pos h]] at hc
 obtain ⟨d, hd, hv, hless⟩ := ref05_less2 (T := T) P (ofN X) S P2 (ofN Y) S2 (by omega) (ofN_len_le (Nat.le_of_lt h)) (by rw [val_ofN, val_ofN]; omega)
 rw [val_ofN, val_ofN] at hv
 obtain ⟨P', S', x, k, e1, e2, e3, e4, e5, hodd⟩ := ref06_odd (T := T) P d S (by omega) (by omega)
 refine ⟨P', S', k, x, by omega, e2, ?_⟩
 have t1 : List.take (ofN X).length (List.drop P.length (P ++ (ofN X ++ S))) = ofN X := by simp
 have t2 : List.take (ofN Y).length (List.drop P2.length (P2 ++ (ofN Y ++ S2))) = ofN Y := by simp
 have b1 : P.length + (ofN X).length ≤ (P ++ (ofN X ++ S)).length := by simp
 have b2 : P2.length + (ofN Y).length ≤ (P2 ++ (ofN Y ++ S2)).length := by simp
 rw [hd] at hodd
 unfold stGc
 clear hv e1 e3 e4 e5 hd hX hY
 generalize P ++ (ofN X ++ S) = Q at *
 generalize P2 ++ (ofN Y ++ S2) = R at *
 generalize P' ++ (ofN x ++ S') = Q' at *
 generalize P ++ (d ++ S) = Q2 at *
 generalize ofN X = A at *
 generalize ofN Y = B at *
 cases f <;> simp -implicitDefEqProofs [l228_0, nm2, nmX, nmY, hc, t1, t2, b1, b2, hless, hodd]
theorem gc_lt (f : Bool) (P S P2 S2 : List UInt32) (X Y m n : Nat) (hX : (ofN X).length ≤ 10000) (hY : (ofN Y).length ≤ 10000) (h : X < Y) :
  ∃ (P' S' : List UInt32) (k x : Nat), Y - X = 2 ^ k * x ∧ x % 2 = 1 ∧
   evX (orc T) T 0 l228_0 (stGc f P (ofN X) S P2 (ofN Y) S2 m n) = some (.n, stGc (!f) P' (ofN x) S' P (ofN X) S m n) := by
 have hc := ref02_cmp (T := T) (ofN X) (ofN Y) (by omega) (by omega)
 rw [val_ofN, val_ofN, show cmpN X Y = -1 by unfold cmpN; rw [if_pos h]] at hc
 obtain ⟨d, hd, hv, hless⟩ := ref05_less2 (T := T) P2 (ofN Y) S2 P (ofN X) S (by omega) (ofN_len_le (Nat.le_of_lt h)) (by rw [val_ofN, val_ofN]; omega)
 rw [val_ofN, val_ofN] at hv
 obtain ⟨P', S', x, k, e1, e2, e3, e4, e5, hodd⟩ := ref06_odd (T := T) P2 d S2 (by omega) (by omega)
 refine ⟨P', S', k, x, by omega, e2, ?_⟩
 have t1 : List.take (ofN X).length (List.drop P.length (P ++ (ofN X ++ S))) = ofN X := by simp
 have t2 : List.take (ofN Y).length (List.drop P2.length (P2 ++ (ofN Y ++ S2))) = ofN Y := by simp
 have b1 : P.length + (ofN X).length ≤ (P ++ (ofN X ++ S)).length := by simp
 have b2 : P2.length + (ofN Y).length ≤ (P2 ++ (ofN Y ++ S2)).length := by simp
 rw [hd] at hodd
 unfold stGc
 clear hv e1 e3 e4 e5 hd hX hY
 generalize P ++ (ofN X ++ S) = Q at *
 generalize P2 ++ (ofN Y ++ S2) = R at *
 generalize P' ++ (ofN x ++ S') = Q' at *
 generalize P2 ++ (d ++ S2) = Q2 at *
 generalize ofN X = A at *
 generalize ofN Y = B at *
 cases f <;> simp -implicitDefEqProofs [l228_0, nm2, nmX, nmY, hc, t1, t2, b1, b2, hless, hodd]
theorem gc_eq (f : Bool) (P S P2 S2 : List UInt32) (X m n : Nat) (hX : (ofN X).length ≤ 10000) {G : Option (Ex × St)}
  (hG : G = some (.n, ⟨[(5, .bs (nm2 f).1 1 1 P.length (ofN X).length), (7, .i .i64 m), (8, .i .i64 n)], [((nm2 f).1, ⟨1, .own, 1, u32s (P ++ (ofN X ++ S))⟩)], 3⟩)) :
  isEx (evX (orc T) T 0 l228_0 (stGc f P (ofN X) S P2 (ofN X) S2 m n)) = true ∧ finX 0 0 (Gh.norm false [5, 7, 8]) (evX (orc T) T 0 l228_0 (stGc f P (ofN X) S P2 (ofN X) S2 m n)) = G := by
 subst hG
 have hc := ref02_cmp (T := T) (ofN X) (ofN X) (by omega) (by omega)
 rw [val_ofN, show cmpN X X = 0 by unfold cmpN; rw [if_neg (by omega), if_neg (by omega)]] at hc
 have t1 : List.take (ofN X).length (List.drop P.length (P ++ (ofN X ++ S))) = ofN X := by simp
 have t2 : List.take (ofN X).length (List.drop P2.length (P2 ++ (ofN X ++ S2))) = ofN X := by simp
 have b1 : P.length + (ofN X).length ≤ (P ++ (ofN X ++ S)).length := by simp
 have b2 : P2.length + (ofN X).length ≤ (P2 ++ (ofN X ++ S2)).length := by simp
 unfold stGc
 generalize P ++ (ofN X ++ S) = Q at *
 generalize P2 ++ (ofN X ++ S2) = R at *
 generalize ofN X = A at *
 cases f <;> constructor <;> simp -implicitDefEqProofs [l228_0, nm2, nmX, nmY, hc, t1, t2, b1, b2]
structure Gc where
 f : Bool
 P : List UInt32
 S : List UInt32
 P2 : List UInt32
 S2 : List UInt32
 X : Nat
 Y : Nat
theorem gc_loop (G m n : Nat) : ∀ y : Gc, ((ofN y.X).length ≤ 10000 ∧ (ofN y.Y).length ≤ 10000 ∧ y.X % 2 = 1 ∧ y.Y % 2 = 1 ∧ Nat.gcd y.X y.Y = G) →
  ∃ r, (∃ (f : Bool) (P S : List UInt32), r = (Ex.n, (⟨[(5, .bs (nm2 f).1 1 1 P.length (ofN G).length), (7, .i .i64 m), (8, .i .i64 n)], [((nm2 f).1, ⟨1, .own, 1, u32s (P ++ (ofN G ++ S))⟩)], 3⟩ : St))) ∧
   loopN T 0 0 (.norm false [5, 7, 8]) l228_0 (stGc y.f y.P (ofN y.X) y.S y.P2 (ofN y.Y) y.S2 m n) = some r := by
 refine loopN_ex (fun y : Gc => stGc y.f y.P (ofN y.X) y.S y.P2 (ofN y.Y) y.S2 m n) _ (fun y => y.X + y.Y) _ ?_
 rintro ⟨f, P, S, P2, S2, X, Y⟩ ⟨hX, hY, oX, oY, hG⟩
 simp only at hX hY oX oY hG ⊢
 rcases Nat.lt_trichotomy X Y with h | h | h
 ·left
  obtain ⟨P', S', k, x, e1, e2, he⟩ := gc_lt (T := T) f P S P2 S2 X Y m n hX hY h
  have hle : x ≤ Y - X := by rw [e1]; exact Nat.le_mul_of_pos_left _ (Nat.pow_pos (by decide))
  refine ⟨⟨!f, P', S', P, S, x, X⟩, ⟨?_, hX, e2, oX, ?_⟩, by simp only; omega, he⟩
  ·have := ofN_len_le (show x ≤ Y by omega)
   simp only; omega
  ·simp only
   rw [gcd_less oX (Nat.le_of_lt h) e1, ← hG, Nat.gcd_comm]
 ·right
  subst h
  rw [Nat.gcd_self] at hG
  subst hG
  obtain ⟨h1, h2⟩ := gc_eq (T := T) f P S P2 S2 X m n hX rfl
  exact ⟨_, ⟨f, P, S, rfl⟩, h1, h2⟩
 ·left
  obtain ⟨P', S', k, x, e1, e2, he⟩ := gc_gt (T := T) f P S P2 S2 X Y m n hX hY h
  have hle : x ≤ X - Y := by rw [e1]; exact Nat.le_mul_of_pos_left _ (Nat.pow_pos (by decide))
  refine ⟨⟨f, P', S', P2, S2, x, Y⟩, ⟨?_, hY, e2, oY, ?_⟩, by simp only; omega, he⟩
  ·have := ofN_len_le (show x ≤ X by omega)
   simp only; omega
  ·simp only
   rw [gcd_less oY (Nat.le_of_lt h) e1, ← hG]
theorem ref06_gcd (a b : List UInt32) (ha : a.length ≤ 10000) (hb : b.length ≤ 10000) : callF T 228 [.sl (u32s a) .an, .sl (u32s b) .an] = some (.sl (u32s (ofN (Nat.gcd (val a) (val b)))) .an) := by
 have n1 := ref02_norm_own (T := T) a (by omega)
 have n2 := ref02_norm_own (T := T) b (by omega)
 have la := ofN_length_le a
 have lb := ofN_length_le b
 rw [f228 _ rfl, b228]
 generalize val a = X at *
 generalize val b = Y at *
 have tX : List.take (ofN X).length (ofN X) = ofN X := List.take_of_length_le (Nat.le_refl _)
 have tY : List.take (ofN Y).length (ofN Y) = ofN Y := List.take_of_length_le (Nat.le_refl _)
 by_cases hX : X = 0
 ·subst hX
  rw [Nat.gcd_zero_left]
  simp only [ofN_zero] at n1
  generalize ofN Y = B at *
  simp -implicitDefEqProofs [n1, n2, tY]
 ·have eX : ¬ ofN X = [] := fun e => hX (ofN_eq_nil.1 e)
  by_cases hY : Y = 0
  ·subst hY
   rw [Nat.gcd_zero_right]
   simp only [ofN_zero] at n2
   generalize ofN X = A at *
   simp -implicitDefEqProofs [n1, n2, eX, tX]
  ·have eY : ¬ ofN Y = [] := fun e => hY (ofN_eq_nil.1 e)
   obtain ⟨P1, S1, x, m, e1, e2, e3, e4, e5, o1⟩ := ref06_odd (T := T) [] (ofN X) [] (by omega) (by rw [val_ofN]; exact hX)
   obtain ⟨P2, S2, y, n, g1, g2, g3, g4, g5, o2⟩ := ref06_odd (T := T) [] (ofN Y) [] (by omega) (by rw [val_ofN]; exact hY)
   rw [val_ofN] at e1 g1
   obtain ⟨_, ⟨f, P, S, rfl⟩, hl⟩ := gc_loop (T := T) (Nat.gcd x y) m n ⟨true, P1, S1, P2, S2, x, y⟩ ⟨by simp only; omega, by simp only; omega, e2, g2, rfl⟩
   have hG : Nat.gcd X Y = 2 ^ (min m n) * Nat.gcd x y := by rw [e1, g1]; exact gcd_two e2 g2
   have hgl : (ofN (Nat.gcd x y)).length ≤ 10000 := by
    have := ofN_len_le (Nat.gcd_le_left y (show 0 < x by omega))
    omega
   have hdb := ref06_double (T := T) (ofN (Nat.gcd x y)) (min m n) hgl (by omega)
   rw [val_ofN, ← hG] at hdb
   simp only [List.nil_append, List.append_nil, List.length_nil] at o1 o2
   unfold stGc at hl
   have t1 : List.take (ofN (Nat.gcd x y)).length (List.drop P.length (P ++ (ofN (Nat.gcd x y) ++ S))) = ofN (Nat.gcd x y) := by simp
   have b1 : P.length + (ofN (Nat.gcd x y)).length ≤ (P ++ (ofN (Nat.gcd x y) ++ S)).length := by simp
   have hmin : (if n < m then (n : Int) else (m : Int)) = ((min m n : Nat) : Int) := by split <;> omega
   clear e1 e2 e3 e4 e5 g1 g2 g3 g4 g5 hG hgl
   generalize min m n = K at *
   generalize P ++ (ofN (Nat.gcd x y) ++ S) = Q at *
   generalize P1 ++ (ofN x ++ S1) = Q1 at *
   generalize P2 ++ (ofN y ++ S2) = Q2 at *
   generalize ofN (Nat.gcd x y) = g at *
   generalize ofN (Nat.gcd X Y) = g' at *
   simp only [nm2, nmX, nmY, if_true] at hl
   generalize ofN X = A at *
   generalize ofN Y = B at *
   cases f <;> simp only [Bool.false_eq_true, if_false, if_true] at hl <;> simp -implicitDefEqProofs [n1, n2, eX, eY, o1, o2, hl, hdb, t1, b1, hmin, mm2]
end
end Go.Ab
end

section
namespace Go.Ab
theorem floor_up {n m : Bool} {x y : Nat} (hy : y ≠ 0) : sg (n != m) (if (n != m) = true ∧ x % y ≠ 0 then x / y + 1 else x / y) = (sg n x).fdiv (sg m y) := by
 have hd := Nat.div_add_mod x y
 have hlt := Nat.mod_lt x (Nat.pos_of_ne_zero hy)
 have hb : sg m y ≠ 0 := by cases m <;> simp [sg] <;> omega
 have hd' : (x : Int) = y * (x / y : Nat) + (x % y : Nat) := by exact_mod_cast hd.symm
 have hlt' : ((x % y : Nat) : Int) < y := by exact_mod_cast hlt
 generalize x / y = q at *
 generalize x % y = r at *
 refine (floor_unique (r := sg n x - sg m y * sg (n != m) (if (n != m) = true ∧ r ≠ 0 then q + 1 else q)) hb (by omega) ?_).1
 cases n <;> cases m <;> simp [sg]
 ·left; rw [hd']; omega
 ·split
  ·rename_i h; subst h; simp [Int.neg_mul, Int.mul_neg]; rw [hd']; right; simp; omega
  ·right; simp [Int.neg_mul, Int.mul_neg, Int.mul_add]; rw [hd']; omega
 ·split
  ·rename_i h; subst h; simp [Int.mul_neg]; rw [hd']; left; simp; omega
  ·left; simp [Int.mul_neg, Int.mul_add]; rw [hd']; omega
 ·right; simp [Int.neg_mul]; rw [hd']; omega
section
variable {T : Tbl} [CRef08 T]
theorem ref08_norm (n : Bool) (a : List UInt32) (ha : a.length ≤ 1000000) : callF T 39 [wh n a] = some (ez (wv n a)) := by
 have h := ref02_norm (T := T) a ha
 have hl : (0 < (ofN (val a)).length) = (val a ≠ 0) := by
  rw [eq_iff_iff, List.length_pos_iff]
  exact not_congr ofN_eq_nil
 rw [f39 _ rfl, b39]
 unfold wv
 rw [ez_sg]
 cases n <;> simp -implicitDefEqProofs [h, hl]
theorem ref08_sign (n : Bool) (a : List UInt32) (ha : a.length ≤ 1000000) : callF T 30 [wh n a] = some (.i .i64 (sgI (wv n a))) := by
 have h := ref08_norm (T := T) n a ha
 obtain ⟨z, hz⟩ : ∃ z, z = wv n a := ⟨_, rfl⟩
 rw [← hz] at h ⊢
 rw [f30 _ rfl, b30]
 have hl : ((((ofN z.natAbs).length : Int) == 0)) = decide (z = 0) := by
  rw [Bool.eq_iff_iff]
  simp [ofN_eq_nil]
 unfold sgI
 by_cases h0 : z = 0
 ·subst h0
  simp -implicitDefEqProofs [h]
 ·have h1 : ofN z.natAbs ≠ [] := fun h => h0 (by have := ofN_eq_nil.1 h; omega)
  by_cases h2 : z < 0
  ·simp -implicitDefEqProofs [h, h1, h2]
  ·simp -implicitDefEqProofs [h, h0, h1, h2]
theorem ref08_neg (n : Bool) (a : List UInt32) (ha : a.length ≤ 1000000) : callF T 26 [wh n a] = some (ez (-wv n a)) := by
 have h := ref08_norm (T := T) (!n) a ha
 obtain ⟨z, hz⟩ : ∃ z, z = -wv n a := ⟨_, rfl⟩
 have e : wv (!n) a = z := by rw [hz]; exact sg_not n _
 rw [e] at h
 rw [← hz, f26 _ rfl, b26]
 simp -implicitDefEqProofs [h]
theorem ref08_add (n m : Bool) (a b : List UInt32) (ha : a.length ≤ 10000) (hb : b.length ≤ 10000) : callF T 24 [wh n a, wh m b] = some (ez (wv n a + wv m b)) := by
 have hc := ref02_cmp (T := T) a b (by omega) (by omega)
 rw [f24 _ rfl, b24]
 have fin : ∀ (s : Bool) (k : Nat), sg s k = wv n a + wv m b → (ofN k).length ≤ 1000000 → callF T 39 [wh s (ofN k)] = some (ez (wv n a + wv m b)) := by
  intro s k h1 h2
  rw [ref08_norm (T := T) s (ofN k) h2]
  have : wv s (ofN k) = sg s k := by unfold wv; rw [val_ofN]
  rw [this, h1]
 have hla := ofN_length_le a
 have hlb := ofN_length_le b
 obtain ⟨z, hz⟩ : ∃ z, z = wv n a + wv m b := ⟨_, rfl⟩
 by_cases h : n = m
 ·subst h
  have h1 := ref02_add (T := T) a b (by omega) (by omega)
  have h2 := fin n (val a + val b) (sg_add_same _ _ _) (by
   have := abs_add_len (x := (val a : Int)) (y := val b) (L := 10000) (by simpa using Nat.le_trans hla ha) (by simpa using Nat.le_trans hlb hb)
   have e : ((val a : Int) + val b).natAbs = val a + val b := by omega
   rw [e] at this
   omega)
  rw [← hz] at h2 ⊢
  simp -implicitDefEqProofs [h1, h2]
 ·by_cases hlt : val a < val b
  ·have h1 := ref02_sub (T := T) b a (by omega) (by omega) (by omega)
   have h2 := fin m (val b - val a) (sg_add_lt h hlt) (by have := ofN_len_le (Nat.sub_le (val b) (val a)); omega)
   rw [← hz] at h2 ⊢
   simp -implicitDefEqProofs [h, hc, cmpN_lt, hlt, h1, h2]
  ·have h1 := ref02_sub (T := T) a b (by omega) (by omega) (by omega)
   have h2 := fin n (val a - val b) (sg_add_ge h hlt) (by have := ofN_len_le (Nat.sub_le (val a) (val b)); omega)
   rw [← hz] at h2 ⊢
   simp -implicitDefEqProofs [h, hc, cmpN_lt, hlt, h1, h2]
theorem ref08_mul (n m : Bool) (a b : List UInt32) (ha : a.length ≤ 100000) (hb : b.length ≤ 100000) : callF T 28 [wh n a, wh m b] = some (ez (wv n a * wv m b)) := by
 have h1 := ref04_mul (T := T) a b ha hb
 have hl := abs_mul_len (x := wv n a) (y := wv m b) (wv_len n a) (wv_len m b)
 have h2 := ref08_norm (T := T) (n != m) (ofN (val a * val b)) (by rw [Int.natAbs_mul, wv_val, wv_val] at hl; omega)
 have e : wv (n != m) (ofN (val a * val b)) = wv n a * wv m b := by unfold wv; rw [val_ofN, sg_mul]
 rw [e] at h2
 obtain ⟨z, hz⟩ : ∃ z, z = wv n a * wv m b := ⟨_, rfl⟩
 rw [← hz] at h2 ⊢
 rw [f28 _ rfl, b28]
 simp -implicitDefEqProofs [h1, h2]
theorem ref08_floor (n m : Bool) (a b : List UInt32) (ha : a.length ≤ 1000) (hb : b.length ≤ 1000) (h0 : val b ≠ 0) : callF T 31 [wh n a, wh m b] =
  some (.tup [ez ((wv n a).fdiv (wv m b)), ez ((wv n a).fmod (wv m b))]) := by
 have hd := ref05_div (T := T) a b (by omega) (by omega) (by omega)
 have hup := floor_up (n := n) (m := m) (x := val a) h0
 change _ = (wv n a).fdiv (wv m b) at hup
 have hla := ofN_length_le a
 have hl1 := ofN_len_le (Nat.div_le_self (val a) (val b))
 have had := ref02_add (T := T) (ofN (val a / val b)) [w32 1] (by omega) (by simp)
 have e1 : u32s [w32 1] = [[u32 1]] := rfl
 have hv1 : val [w32 1] = 1 := by decide
 rw [val_ofN, hv1, e1] at had
 obtain ⟨k, hk⟩ : ∃ k, k = if (n != m) = true ∧ val a % val b ≠ 0 then val a / val b + 1 else val a / val b := ⟨_, rfl⟩
 rw [← hk] at hup
 obtain ⟨K, hK⟩ : ∃ K, K = 1000 := ⟨_, rfl⟩
 have hkl : (ofN k).length ≤ K + 1 := by
  refine ofN_length_le' ?_
  have h1 := val_lt a
  have h2 : 4294967296 ^ a.length ≤ 4294967296 ^ K := Nat.pow_le_pow_right (by decide) (by omega)
  have h3 := Nat.div_le_self (val a) (val b)
  rw [Nat.pow_succ]
  rw [hk]
  generalize 4294967296 ^ K = p at *
  generalize val a / val b = q at *
  generalize 4294967296 ^ a.length = p2 at *
  split <;> omega
 have hno := ref08_norm (T := T) (n != m) (ofN k) (by omega)
 have ew : wv (n != m) (ofN k) = (wv n a).fdiv (wv m b) := by rw [← hup]; unfold wv; rw [val_ofN]
 rw [ew] at hno
 have hr : (wv n a).fmod (wv m b) = wv n a + -((wv n a).fdiv (wv m b) * wv m b) := by
  have := Int.fmod_add_mul_fdiv (wv n a) (wv m b)
  rw [Int.mul_comm]
  omega
 rw [hr]
 have hql : (ofN ((wv n a).fdiv (wv m b)).natAbs).length ≤ 1001 := by rw [← hup, sg_abs]; omega
 obtain ⟨q, hq⟩ : ∃ q, q = (wv n a).fdiv (wv m b) := ⟨_, rfl⟩
 rw [← hq] at hno hql ⊢
 have hml := ref08_mul (T := T) (decide (q < 0)) m (ofN q.natAbs) b (by omega) (by omega)
 rw [wv_ez] at hml
 have hpl := abs_mul_len (x := q) (y := wv m b) hql (wv_len m b)
 obtain ⟨p, hp⟩ : ∃ p, p = q * wv m b := ⟨_, rfl⟩
 rw [← hp] at hml hpl ⊢
 have hng := ref08_neg (T := T) (decide (p < 0)) (ofN p.natAbs) (by omega)
 rw [wv_ez] at hng
 rw [← abs_neg_len] at hpl
 obtain ⟨t, ht⟩ : ∃ t, t = -p := ⟨_, rfl⟩
 rw [← ht] at hng hpl ⊢
 have hfin := ref08_add (T := T) n (decide (t < 0)) a (ofN t.natAbs) (by omega) (by omega)
 rw [wv_ez] at hfin
 obtain ⟨z, hz⟩ : ∃ z, z = wv n a + t := ⟨_, rfl⟩
 rw [← hz] at hfin ⊢
 have hmd : (0 < (ofN (val a % val b)).length) = (val a % val b ≠ 0) := by
  rw [eq_iff_iff, List.length_pos_iff]
  exact not_congr ofN_eq_nil
 rw [f31 _ rfl, b31]
 by_cases h1 : n = m
 ·subst h1
  have hk2 : k = val a / val b := by rw [hk]; simp
  rw [hk2] at hno
  simp at hno
  simp -implicitDefEqProofs [hd, hno, hml, hng, hfin]
 ·have hnm : (n != m) = true := by cases n <;> cases m <;> simp at h1 ⊢
  by_cases h2 : val a % val b = 0
  ·have hk2 : k = val a / val b := by rw [hk, if_neg (by simp [h2])]
   rw [hk2, hnm] at hno
   simp -implicitDefEqProofs [hd, hnm, h2, hno, hml, hng, hfin]
  ·have hk2 : k = val a / val b + 1 := by rw [hk, if_pos ⟨hnm, h2⟩]
   rw [hk2, hnm] at hno
   simp -implicitDefEqProofs [hd, hnm, hmd, h2, had, hno, hml, hng, hfin]
theorem ref08_text (n : Bool) (a : List UInt32) (ha : a.length ≤ 1000) : callF T 35 [wh n a] = some (.s (textZ (wv n a))) := by
 have h1 := ref07_text (T := T) a ha
 have h2 := ref08_sign (T := T) n a (by omega)
 have h3 := textN_words ha
 have h4 : 1 + (textN (val a)).length ≤ 9223372036854775807 := by omega
 rw [f35 _ rfl, b35]
 unfold textZ
 rw [wv_val]
 by_cases h : wv n a < 0
 ·have h5 : sgI (wv n a) = -1 := by unfold sgI; rw [if_pos h]
  simp -implicitDefEqProofs [h1, h2, h, h5, h4]
 ·have h5 : ¬ sgI (wv n a) < 0 := by unfold sgI; rw [if_neg h]; split <;> omega
  simp -implicitDefEqProofs [h1, h2, h, h5]
end
end Go.Ab
end

section
namespace Go.Ab
section
variable {T : Tbl} [CRef02 T] [CRef04 T] [CRef05 T] [CRef07 T] [CRef06 T] [CRef08 T] [CRef09 T]
theorem ref09_norm (x : Fz) (hx : fsz x ≤ 10000) : callF T 231 [efz x] = some (efz (fz (fv x))) := by
 obtain ⟨n, a, d⟩ := x
 have la := fsz_a (n, a, d)
 have ld := fsz_d (n, a, d)
 simp only at la ld
 have n1 := ref02_norm (T := T) a (by omega)
 have n2 := ref02_norm (T := T) d (by omega)
 have la2 := ofN_length_le a
 have ld2 := ofN_length_le d
 have ho := ref06_one (T := T) d
 have hg := ref06_gcd (T := T) (ofN (val a)) (ofN (val d)) (by omega) (by omega)
 rw [val_ofN, val_ofN] at hg
 show _ = some (efz (fz (mkRat (sg n (val a)) (val d))))
 by_cases hd : val d = 0
 ·rw [hd, Rat.mkRat_zero, fz_zero, f231 _ rfl, b231]
  rw [hd] at n2
  simp only [ofN_zero] at n2
  simp -implicitDefEqProofs [n1, n2, show u32s [1] = [[u32 1]] from rfl]
 ·by_cases ha : val a = 0
  ·have e0 : mkRat (sg n (val a)) (val d) = 0 := by rw [Rat.mkRat_eq_zero hd, ha]; cases n <;> rfl
   have ed : ¬ ofN (val d) = [] := fun e => hd (ofN_eq_nil.1 e)
   rw [e0, fz_zero, f231 _ rfl, b231]
   rw [ha] at n1
   simp only [ofN_zero] at n1
   simp -implicitDefEqProofs [n1, n2, ed, show u32s [1] = [[u32 1]] from rfl]
  ·have ea : ¬ ofN (val a) = [] := fun e => ha (ofN_eq_nil.1 e)
   have ed : ¬ ofN (val d) = [] := fun e => hd (ofN_eq_nil.1 e)
   rw [fz_mk n (val a) hd, show decide (val a ≠ 0) = true by simpa using ha, Bool.and_true]
   have gpos : Nat.gcd (val a) (val d) ≠ 0 := by
    have := Nat.gcd_pos_of_pos_right (val a) (Nat.pos_of_ne_zero hd)
    omega
   have glen : (ofN (Nat.gcd (val a) (val d))).length ≤ 10000 := by
    have := ofN_len_le (Nat.gcd_le_right (val a) (Nat.pos_of_ne_zero hd))
    omega
   have o1 := ref06_over (T := T) (ofN (val a)) (ofN (Nat.gcd (val a) (val d))) (by omega) glen (by rw [val_ofN]; exact gpos)
   have o2 := ref06_over (T := T) (ofN (val d)) (ofN (Nat.gcd (val a) (val d))) (by omega) glen (by rw [val_ofN]; exact gpos)
   rw [val_ofN, val_ofN] at o1 o2
   rw [f231 _ rfl, b231]
   by_cases h1 : val d = 1
   ·rw [h1] at n2 ho ed ⊢
    rw [Nat.gcd_one_right, Nat.div_one, Nat.div_one]
    generalize ofN (val a) = A at *
    generalize ofN 1 = O at *
    simp -implicitDefEqProofs [n1, n2, ho, ea, ed]
   ·generalize ofN (val a / Nat.gcd (val a) (val d)) = A' at *
    generalize ofN (val d / Nat.gcd (val a) (val d)) = D' at *
    generalize ofN (Nat.gcd (val a) (val d)) = G at *
    generalize ofN (val a) = A at *
    generalize ofN (val d) = D at *
    simp -implicitDefEqProofs [n1, n2, ho, ea, ed, h1, hg, o1, o2]
theorem ref09_long (x : Fz) (k : Nat) : callF T 247 [efz x, .i .i64 k] = some (.b (decide (k < fsz x))) := by
 obtain ⟨n, a, d⟩ := x
 unfold fsz
 rw [f247 _ rfl, b247]
 by_cases h1 : k < a.length
 ·have h3 : k < max a.length d.length := by omega
  simp -implicitDefEqProofs [h1, h3]
 ·by_cases h2 : k < d.length
  ·have h3 : k < max a.length d.length := by omega
   simp -implicitDefEqProofs [h1, h2, h3]
  ·have h3 : ¬ k < max a.length d.length := by omega
   simp -implicitDefEqProofs [h1, h2, h3]
end
end Go.Ab
end

section
namespace Go.Ab
def splitC (c : UInt8) : List UInt8 → List (List UInt8)
 | [] => [[]]
 | b :: l => if b = c then [] :: splitC c l else match splitC c l with
  | [] => [[b]]
  | p :: r => (b :: p) :: r
section
variable {T : Tbl} [CStr T] [CSplit T]
def stSp (c : UInt8) (N : Nat) (ps : List (List UInt8)) (s : List UInt8) : St :=
 ⟨[(0, .s s), (1, .s [c]), (2, .i .i64 0), (3, .i .i64 ((N : Int) - 1)), (9, .bs (.loc 31) 1 1 0 N), (10, .i .i64 ps.length)], [(.loc 31, ⟨1, .own, 1, rowsT ps ++ List.replicate (N - ps.length) [.s []]⟩)], 3⟩
end
end Go.Ab
end
