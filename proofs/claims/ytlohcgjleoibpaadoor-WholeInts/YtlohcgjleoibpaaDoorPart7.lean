/-
  A calculus of values, boxes and code, and what functions of the program compute, proved in it.
  Conditions: none beyond those that the theorems state. (Part 7: DtTab, TxBld, TxEnd, AxTop, DtBase.)
-/
import Derived.Test.YtlohcgjleoibpaaDoorPart6
import Derived.Test.YtlohcgjleoibpaaDoorProg
import Derived.KernelRfl
import Derived.Shelf.RegionOpenPlain
import Derived.Lib.Strings
import Derived.Lib.Slices
import Derived.Lib.Walk
import Derived.Lib.Builder
import Derived.Lib.AppendStr
import Derived.Lib.UnsafeStr
import Derived.Lib.MakeNoZero
import Derived.WalkKit
import Derived.Laws.Externs
import Derived.Laws.IdiomCopy
import Derived.Laws.BitsLemmas
import GoSem.Claims
import Derived.Deep.LoopGhost
import Derived.Test.YtlohcgjleoibpaaDoorRows
import Derived.Test.YtlohcgjleoibpaaDoorCards
import Derived.Test.YtlohcgjleoibpaaDoorTie
import Derived.ProofKit
import Derived.LaidMore
import Derived.OpenShut
import Derived.Stop.Joined
import Derived.SevenTiedAt
import Derived.Lib.LaidU8

set_option linter.unusedSectionVars false
set_option linter.unusedVariables false
set_option linter.unusedSimpArgs false
set_option linter.unnecessarySimpa false

section
/-
  The table of this seat, by program (mktab.py): each row tells the code of a function of the program.
-/
namespace Go.Proofs.YtlohcgjleoibpaaDoor
open Go Go.Ab
set_option maxRecDepth 100000

/-- the program's own numbers -/
def nus : List (Nat × Nat) := [(115, 114), (116, 115), (117, 116), (118, 117), (91, 90), (86, 85), (106, 105), (71, 70), (72, 71), (73, 72), (70, 69), (87, 86), (85, 84), (56, 55), (88, 87), (57, 56), (2106, 105), (89, 88), (100, 99), (60, 59), (92, 91), (94, 93), (90, 89), (119, 118), (120, 119), (121, 120), (93, 92), (2071, 70), (2092, 91), (62, 61), (98, 97), (123, 122), (64, 63), (101, 100), (99, 98), (65, 64), (68, 67), (103, 102), (125, 124), (55, 54), (38, 37), (40, 39), (23, 22), (25, 24), (27, 26), (37, 36), (41, 40), (36, 35), (29, 28), (34, 33), (32, 31), (42, 41), (43, 42), (84, 83), (52, 51), (54, 53), (58, 57), (59, 58), (61, 60), (122, 121), (95, 94), (96, 95), (97, 96), (63, 62), (2043, 42), (105, 104), (69, 68), (66, 65), (67, 66), (39, 38), (21, 20), (30, 29), (26, 25), (24, 23), (28, 27), (31, 30), (35, 34), (33, 32), (20, 19), (22, 21), (19, 18), (5, 4), (6, 5), (7, 6), (8, 7), (9, 8), (126, 125), (127, 126), (128, 127)]
def nu (u : Nat) : FuncId := (nus.lookup u).getD 0
def row115 : AFx := ⟨3, 26, [.t 6, .t 7], b115, none, false⟩
theorem res115 : resFn Tryd.prog (nu 115) = some (erF nu row115) := by kernel_rfl
def row116 : AFx := ⟨3, 25, [.t 6, .t 7], b116, none, false⟩
theorem res116 : resFn Tryd.prog (nu 116) = some (erF nu row116) := by kernel_rfl
def row117 : AFx := ⟨4, 27, [.t 8, .t 9], b117, none, false⟩
theorem res117 : resFn Tryd.prog (nu 117) = some (erF nu row117) := by kernel_rfl
def row118 : AFx := ⟨3, 29, [.t 6, .t 7, .t 8], b118, none, false⟩
theorem res118 : resFn Tryd.prog (nu 118) = some (erF nu row118) := by kernel_rfl
def row91 : AFx := ⟨1, 23, [.t 2], b91, none, false⟩
theorem res91 : resFn Tryd.prog (nu 91) = some (erF nu row91) := by kernel_rfl
def row86 : AFx := ⟨1, 21, [.t 2], b86, none, false⟩
theorem res86 : resFn Tryd.prog (nu 86) = some (erF nu row86) := by kernel_rfl
def row106 : AFx := ⟨2, 15, [.t 4], b106, none, false⟩
theorem res106 : resFn Tryd.prog (nu 106) = some (erF nu row106) := by kernel_rfl
def row71 : AFx := ⟨1, 6, [.t 2], b71, none, false⟩
theorem res71 : resFn Tryd.prog (nu 71) = some (erF nu row71) := by kernel_rfl
def row72 : AFx := ⟨1, 10, [.t 2], b72, none, false⟩
theorem res72 : resFn Tryd.prog (nu 72) = some (erF nu row72) := by kernel_rfl
def row73 : AFx := ⟨1, 28, [.t 2, .t 3], b73, none, false⟩
theorem res73 : resFn Tryd.prog (nu 73) = some (erF nu row73) := by kernel_rfl
def row70 : AFx := ⟨1, 7, [.t 2], b70, none, false⟩
theorem res70 : resFn Tryd.prog (nu 70) = some (erF nu row70) := by kernel_rfl
def row87 : AFx := ⟨2, 49, [.t 4], b87, none, false⟩
theorem res87 : resFn Tryd.prog (nu 87) = some (erF nu row87) := by kernel_rfl
def row85 : AFx := ⟨2, 52, [.t 4], b85, none, false⟩
theorem res85 : resFn Tryd.prog (nu 85) = some (erF nu row85) := by kernel_rfl
def row56 : AFx := ⟨1, 18, [.t 2], b56, none, false⟩
theorem res56 : resFn Tryd.prog (nu 56) = some (erF nu row56) := by kernel_rfl
def row88 : AFx := ⟨2, 49, [.t 4, .t 5], b88, none, false⟩
theorem res88 : resFn Tryd.prog (nu 88) = some (erF nu row88) := by kernel_rfl
def row57 : AFx := ⟨2, 24, [.t 4, .t 5], b57, none, false⟩
theorem res57 : resFn Tryd.prog (nu 57) = some (erF nu row57) := by kernel_rfl
def row2106 : AFx := ⟨2, 15, [.t 4], b2106, (some [false, false]), false⟩
theorem res2106 : resFn Tryd.prog (nu 2106) = some (erF nu row2106) := by kernel_rfl
def row89 : AFx := ⟨5, 45, [], b89, (some [true, false, false, false, false]), false⟩
theorem res89 : resFn Tryd.prog (nu 89) = some (erF nu row89) := by kernel_rfl
def row100 : AFx := ⟨3, 19, [.t 6], b100, none, false⟩
theorem res100 : resFn Tryd.prog (nu 100) = some (erF nu row100) := by kernel_rfl
def row60 : AFx := ⟨2, 30, [.t 4], b60, none, false⟩
theorem res60 : resFn Tryd.prog (nu 60) = some (erF nu row60) := by kernel_rfl
def row92 : AFx := ⟨2, 57, [.t 4], b92, none, false⟩
theorem res92 : resFn Tryd.prog (nu 92) = some (erF nu row92) := by kernel_rfl
def row94 : AFx := ⟨2, 65, [.t 4], b94, none, false⟩
theorem res94 : resFn Tryd.prog (nu 94) = some (erF nu row94) := by kernel_rfl
def row90 : AFx := ⟨2, 37, [.t 4, .t 5, .t 6], b90, none, false⟩
theorem res90 : resFn Tryd.prog (nu 90) = some (erF nu row90) := by kernel_rfl
def row119 : AFx := ⟨5, 76, [.t 10], b119, none, false⟩
theorem res119 : resFn Tryd.prog (nu 119) = some (erF nu row119) := by kernel_rfl
def row120 : AFx := ⟨4, 66, [.t 8], b120, (some [true, false, false, false]), false⟩
theorem res120 : resFn Tryd.prog (nu 120) = some (erF nu row120) := by kernel_rfl
def row121 : AFx := ⟨3, 44, [], b121, (some [true, false, false]), false⟩
theorem res121 : resFn Tryd.prog (nu 121) = some (erF nu row121) := by kernel_rfl
def row93 : AFx := ⟨2, 70, [.t 4], b93, (some [true, false]), false⟩
theorem res93 : resFn Tryd.prog (nu 93) = some (erF nu row93) := by kernel_rfl
def row2071 : AFx := ⟨1, 6, [.t 2], b2071, (some [false]), false⟩
theorem res2071 : resFn Tryd.prog (nu 2071) = some (erF nu row2071) := by kernel_rfl
def row2092 : AFx := ⟨2, 57, [.t 4], b2092, (some [false, false]), false⟩
theorem res2092 : resFn Tryd.prog (nu 2092) = some (erF nu row2092) := by kernel_rfl
def row62 : AFx := ⟨2, 65, [.t 4, .t 5, .t 6], b62, none, false⟩
theorem res62 : resFn Tryd.prog (nu 62) = some (erF nu row62) := by kernel_rfl
def row98 : AFx := ⟨2, 15, [.t 4, .t 5], b98, none, false⟩
theorem res98 : resFn Tryd.prog (nu 98) = some (erF nu row98) := by kernel_rfl
def row123 : AFx := ⟨2, 18, [.t 4], b123, none, false⟩
theorem res123 : resFn Tryd.prog (nu 123) = some (erF nu row123) := by kernel_rfl
def row64 : AFx := ⟨2, 11, [.t 4, .t 5], b64, none, false⟩
theorem res64 : resFn Tryd.prog (nu 64) = some (erF nu row64) := by kernel_rfl
def row101 : AFx := ⟨1, 19, [.t 2], b101, none, false⟩
theorem res101 : resFn Tryd.prog (nu 101) = some (erF nu row101) := by kernel_rfl
def row99 : AFx := ⟨1, 27, [.t 2], b99, none, false⟩
theorem res99 : resFn Tryd.prog (nu 99) = some (erF nu row99) := by kernel_rfl
def row65 : AFx := ⟨1, 48, [.t 2, .cell 3 (some 4)], b65, none, false⟩
theorem res65 : resFn Tryd.prog (nu 65) = some (erF nu row65) := by kernel_rfl
def row68 : AFx := ⟨0, 0, [], .prim prim68, none, false⟩
def row103 : AFx := ⟨2, 37, [.t 4], b103, none, false⟩
theorem res103 : resFn Tryd.prog (nu 103) = some (erF nu row103) := by kernel_rfl
def row125 : AFx := ⟨2, 17, [.t 4], b125, none, false⟩
theorem res125 : resFn Tryd.prog (nu 125) = some (erF nu row125) := by kernel_rfl
def row55 : AFx := ⟨2, 13, [.cell 4 (some 2)], b55, none, false⟩
theorem res55 : resFn Tryd.prog (nu 55) = some (erF nu row55) := by kernel_rfl
def row38 : AFx := ⟨1, 9, [.cell 2 (some 2)], b38, none, false⟩
theorem res38 : resFn Tryd.prog (nu 38) = some (erF nu row38) := by kernel_rfl
def row40 : AFx := ⟨1, 10, [.cell 2 (some 2)], b40, none, false⟩
theorem res40 : resFn Tryd.prog (nu 40) = some (erF nu row40) := by kernel_rfl
def row23 : AFx := ⟨2, 39, [.cell 4 (some 2)], b23, none, false⟩
theorem res23 : resFn Tryd.prog (nu 23) = some (erF nu row23) := by kernel_rfl
def row25 : AFx := ⟨2, 9, [.cell 4 (some 2)], b25, none, false⟩
theorem res25 : resFn Tryd.prog (nu 25) = some (erF nu row25) := by kernel_rfl
def row27 : AFx := ⟨2, 16, [.cell 4 (some 2)], b27, none, false⟩
theorem res27 : resFn Tryd.prog (nu 27) = some (erF nu row27) := by kernel_rfl
def row37 : AFx := ⟨1, 10, [.t 2], b37, none, false⟩
theorem res37 : resFn Tryd.prog (nu 37) = some (erF nu row37) := by kernel_rfl
def row41 : AFx := ⟨1, 14, [.cell 2 (some 2)], b41, none, false⟩
theorem res41 : resFn Tryd.prog (nu 41) = some (erF nu row41) := by kernel_rfl
def row36 : AFx := ⟨2, 9, [.t 4], b36, none, false⟩
theorem res36 : resFn Tryd.prog (nu 36) = some (erF nu row36) := by kernel_rfl
def row29 : AFx := ⟨2, 48, [.cell 4 (some 2), .cell 5 (some 2), .t 6], b29, none, false⟩
theorem res29 : resFn Tryd.prog (nu 29) = some (erF nu row29) := by kernel_rfl
def row34 : AFx := ⟨1, 13, [.t 2], b34, none, false⟩
theorem res34 : resFn Tryd.prog (nu 34) = some (erF nu row34) := by kernel_rfl
def row32 : AFx := ⟨1, 36, [.cell 2 (some 2), .cell 3 (some 4)], b32, none, false⟩
theorem res32 : resFn Tryd.prog (nu 32) = some (erF nu row32) := by kernel_rfl
def row42 : AFx := ⟨1, 33, [.t 2, .t 3], b42, none, false⟩
theorem res42 : resFn Tryd.prog (nu 42) = some (erF nu row42) := by kernel_rfl
def row43 : AFx := ⟨1, 23, [.t 2], b43, none, false⟩
theorem res43 : resFn Tryd.prog (nu 43) = some (erF nu row43) := by kernel_rfl
def row84 : AFx := ⟨2, 13, [.t 4], b84, none, false⟩
theorem res84 : resFn Tryd.prog (nu 84) = some (erF nu row84) := by kernel_rfl
def row52 : AFx := ⟨2, 30, [.t 4], b52, none, false⟩
theorem res52 : resFn Tryd.prog (nu 52) = some (erF nu row52) := by kernel_rfl
def row54 : AFx := ⟨2, 26, [.t 4], b54, none, false⟩
theorem res54 : resFn Tryd.prog (nu 54) = some (erF nu row54) := by kernel_rfl
def row58 : AFx := ⟨2, 43, [.t 4], b58, none, false⟩
theorem res58 : resFn Tryd.prog (nu 58) = some (erF nu row58) := by kernel_rfl
def row59 : AFx := ⟨2, 47, [.t 4], b59, none, false⟩
theorem res59 : resFn Tryd.prog (nu 59) = some (erF nu row59) := by kernel_rfl
def row61 : AFx := ⟨2, 68, [.t 4], b61, none, false⟩
theorem res61 : resFn Tryd.prog (nu 61) = some (erF nu row61) := by kernel_rfl
def row122 : AFx := ⟨2, 32, [.t 4], b122, none, false⟩
theorem res122 : resFn Tryd.prog (nu 122) = some (erF nu row122) := by kernel_rfl
def row95 : AFx := ⟨1, 19, [.t 2], b95, none, false⟩
theorem res95 : resFn Tryd.prog (nu 95) = some (erF nu row95) := by kernel_rfl
def row96 : AFx := ⟨2, 30, [], b96, (some [true, false]), false⟩
theorem res96 : resFn Tryd.prog (nu 96) = some (erF nu row96) := by kernel_rfl
def row97 : AFx := ⟨2, 37, [], b97, (some [true, false]), false⟩
theorem res97 : resFn Tryd.prog (nu 97) = some (erF nu row97) := by kernel_rfl
def row63 : AFx := ⟨2, 54, [.t 4, .t 5], b63, none, false⟩
theorem res63 : resFn Tryd.prog (nu 63) = some (erF nu row63) := by kernel_rfl
def row2043 : AFx := ⟨1, 23, [.t 2], b2043, (some [false]), false⟩
theorem res2043 : resFn Tryd.prog (nu 2043) = some (erF nu row2043) := by kernel_rfl
def row105 : AFx := ⟨1, 29, [.t 2], b105, (some [true]), false⟩
theorem res105 : resFn Tryd.prog (nu 105) = some (erF nu row105) := by kernel_rfl
def row69 : AFx := ⟨1, 26, [.t 2], b69, none, false⟩
theorem res69 : resFn Tryd.prog (nu 69) = some (erF nu row69) := by kernel_rfl
def row66 : AFx := ⟨1, 27, [.t 2], b66, none, false⟩
theorem res66 : resFn Tryd.prog (nu 66) = some (erF nu row66) := by kernel_rfl
def row67 : AFx := ⟨1, 23, [.t 2], b67, none, false⟩
theorem res67 : resFn Tryd.prog (nu 67) = some (erF nu row67) := by kernel_rfl
def row39 : AFx := ⟨1, 16, [.cell 2 (some 2)], b39, none, false⟩
theorem res39 : resFn Tryd.prog (nu 39) = some (erF nu row39) := by kernel_rfl
def row21 : AFx := ⟨2, 17, [.t 4], b21, none, false⟩
theorem res21 : resFn Tryd.prog (nu 21) = some (erF nu row21) := by kernel_rfl
def row30 : AFx := ⟨1, 12, [.t 2], b30, none, false⟩
theorem res30 : resFn Tryd.prog (nu 30) = some (erF nu row30) := by kernel_rfl
def row26 : AFx := ⟨1, 10, [.cell 2 (some 2)], b26, none, false⟩
theorem res26 : resFn Tryd.prog (nu 26) = some (erF nu row26) := by kernel_rfl
def row24 : AFx := ⟨2, 43, [.cell 4 (some 2)], b24, none, false⟩
theorem res24 : resFn Tryd.prog (nu 24) = some (erF nu row24) := by kernel_rfl
def row28 : AFx := ⟨2, 17, [.cell 4 (some 2)], b28, none, false⟩
theorem res28 : resFn Tryd.prog (nu 28) = some (erF nu row28) := by kernel_rfl
def row31 : AFx := ⟨2, 45, [.cell 4 (some 2), .cell 5 (some 2)], b31, none, false⟩
theorem res31 : resFn Tryd.prog (nu 31) = some (erF nu row31) := by kernel_rfl
def row35 : AFx := ⟨1, 13, [.t 2], b35, none, false⟩
theorem res35 : resFn Tryd.prog (nu 35) = some (erF nu row35) := by kernel_rfl
def row33 : AFx := ⟨1, 33, [.cell 2 (some 2), .t 3], b33, none, false⟩
theorem res33 : resFn Tryd.prog (nu 33) = some (erF nu row33) := by kernel_rfl
def row20 : AFx := ⟨1, 8, [.cell 2 (some 2)], b20, none, false⟩
theorem res20 : resFn Tryd.prog (nu 20) = some (erF nu row20) := by kernel_rfl
def row22 : AFx := ⟨1, 8, [.cell 2 (some 2)], b22, none, false⟩
theorem res22 : resFn Tryd.prog (nu 22) = some (erF nu row22) := by kernel_rfl
def row19 : AFx := ⟨0, 33, [.t 0], b19, none, false⟩
theorem res19 : resFn Tryd.prog (nu 19) = some (erF nu row19) := by kernel_rfl
def row5 : AFx := ⟨2, 108, [.t 4], b5, none, false⟩
theorem res5 : resFn Tryd.prog (nu 5) = some (erF nu row5) := by kernel_rfl
def row6 : AFx := ⟨2, 61, [.t 4], b6, none, false⟩
theorem res6 : resFn Tryd.prog (nu 6) = some (erF nu row6) := by kernel_rfl
def row7 : AFx := ⟨2, 70, [.t 4], b7, none, false⟩
theorem res7 : resFn Tryd.prog (nu 7) = some (erF nu row7) := by kernel_rfl
def row8 : AFx := ⟨2, 58, [.t 4], b8, none, false⟩
theorem res8 : resFn Tryd.prog (nu 8) = some (erF nu row8) := by kernel_rfl
def row9 : AFx := ⟨3, 116, [.t 6], b9, none, false⟩
theorem res9 : resFn Tryd.prog (nu 9) = some (erF nu row9) := by kernel_rfl

theorem ok_cons {P : Program} {ν : Nat → FuncId} {u : Nat} {af : AFx} {l : List (Nat × AFx)} (h : match af.body.isPrim with | some f => ∀ xs r, f xs = some r → PCall P (ν u) xs (· = r) | none => resFn P (ν u) = some (erF ν af)) (hl : ∀ p ∈ l, match p.2.body.isPrim with | some f => ∀ xs r, f xs = some r → PCall P (ν p.1) xs (· = r) | none => resFn P (ν p.1) = some (erF ν p.2)) :
    ∀ p ∈ (u, af) :: l, match p.2.body.isPrim with | some f => ∀ xs r, f xs = some r → PCall P (ν p.1) xs (· = r) | none => resFn P (ν p.1) = some (erF ν p.2) := by
  intro p hp
  rcases List.mem_cons.1 hp with rfl | hp
  · exact h
  · exact hl p hp
theorem ok_lookup {P : Program} {ν : Nat → FuncId} {l : List (Nat × AFx)} (hl : ∀ p ∈ l, match p.2.body.isPrim with | some f => ∀ xs r, f xs = some r → PCall P (ν p.1) xs (· = r) | none => resFn P (ν p.1) = some (erF ν p.2)) : TOk P ν (fun u => l.lookup u) := by
  intro u af h
  have : (u, af) ∈ l := by
    clear hl
    induction l with
    | nil => cases h
    | cons q l ih =>
      obtain ⟨q1, q2⟩ := q
      simp only [List.lookup_cons] at h
      split at h
      · rename_i he
        have := eq_of_beq he
        subst this
        cases h
        exact List.mem_cons_self
      · exact List.mem_cons_of_mem _ (ih h)
  exact hl _ this

def tab0_rows : List (Nat × AFx) := [(115, row115), (116, row116), (117, row117), (118, row118), (91, row91), (86, row86), (106, row106), (71, row71), (72, row72), (73, row73), (70, row70), (87, row87), (85, row85), (56, row56), (88, row88), (57, row57), (2106, row2106), (89, row89), (100, row100), (60, row60), (92, row92), (94, row94), (90, row90), (119, row119), (120, row120), (121, row121), (93, row93), (2071, row2071), (2092, row2092), (62, row62), (98, row98), (123, row123), (64, row64), (101, row101), (99, row99), (65, row65), (103, row103), (125, row125), (55, row55), (38, row38), (40, row40), (23, row23), (25, row25), (27, row27), (37, row37), (41, row41), (36, row36), (29, row29), (34, row34), (32, row32), (42, row42), (43, row43), (84, row84), (52, row52), (54, row54), (58, row58), (59, row59), (61, row61), (122, row122), (95, row95), (96, row96), (97, row97), (63, row63), (2043, row2043), (105, row105), (69, row69), (66, row66), (67, row67), (39, row39), (21, row21), (30, row30), (26, row26), (24, row24), (28, row28), (31, row31), (35, row35), (33, row33), (20, row20), (22, row22), (19, row19), (5, row5), (6, row6), (7, row7), (8, row8), (9, row9)]
def tab0 : Tbl := fun u => tab0_rows.lookup u
theorem tab0_ok : TOk Tryd.prog nu tab0 := ok_lookup (ok_cons res115 (ok_cons res116 (ok_cons res117 (ok_cons res118 (ok_cons res91 (ok_cons res86 (ok_cons res106 (ok_cons res71 (ok_cons res72 (ok_cons res73 (ok_cons res70 (ok_cons res87 (ok_cons res85 (ok_cons res56 (ok_cons res88 (ok_cons res57 (ok_cons res2106 (ok_cons res89 (ok_cons res100 (ok_cons res60 (ok_cons res92 (ok_cons res94 (ok_cons res90 (ok_cons res119 (ok_cons res120 (ok_cons res121 (ok_cons res93 (ok_cons res2071 (ok_cons res2092 (ok_cons res62 (ok_cons res98 (ok_cons res123 (ok_cons res64 (ok_cons res101 (ok_cons res99 (ok_cons res65 (ok_cons res103 (ok_cons res125 (ok_cons res55 (ok_cons res38 (ok_cons res40 (ok_cons res23 (ok_cons res25 (ok_cons res27 (ok_cons res37 (ok_cons res41 (ok_cons res36 (ok_cons res29 (ok_cons res34 (ok_cons res32 (ok_cons res42 (ok_cons res43 (ok_cons res84 (ok_cons res52 (ok_cons res54 (ok_cons res58 (ok_cons res59 (ok_cons res61 (ok_cons res122 (ok_cons res95 (ok_cons res96 (ok_cons res97 (ok_cons res63 (ok_cons res2043 (ok_cons res105 (ok_cons res69 (ok_cons res66 (ok_cons res67 (ok_cons res39 (ok_cons res21 (ok_cons res30 (ok_cons res26 (ok_cons res24 (ok_cons res28 (ok_cons res31 (ok_cons res35 (ok_cons res33 (ok_cons res20 (ok_cons res22 (ok_cons res19 (ok_cons res5 (ok_cons res6 (ok_cons res7 (ok_cons res8 (ok_cons res9 (fun p hp => by cases hp))))))))))))))))))))))))))))))))))))))))))))))))))))))))))))))))))))))))))))))))))))))
def tab_rows : List (Nat × AFx) := [(115, row115), (116, row116), (117, row117), (118, row118), (91, row91), (86, row86), (106, row106), (71, row71), (72, row72), (73, row73), (70, row70), (87, row87), (85, row85), (56, row56), (88, row88), (57, row57), (2106, row2106), (89, row89), (100, row100), (60, row60), (92, row92), (94, row94), (90, row90), (119, row119), (120, row120), (121, row121), (93, row93), (2071, row2071), (2092, row2092), (62, row62), (98, row98), (123, row123), (64, row64), (101, row101), (99, row99), (65, row65), (68, row68), (103, row103), (125, row125), (55, row55), (38, row38), (40, row40), (23, row23), (25, row25), (27, row27), (37, row37), (41, row41), (36, row36), (29, row29), (34, row34), (32, row32), (42, row42), (43, row43), (84, row84), (52, row52), (54, row54), (58, row58), (59, row59), (61, row61), (122, row122), (95, row95), (96, row96), (97, row97), (63, row63), (2043, row2043), (105, row105), (69, row69), (66, row66), (67, row67), (39, row39), (21, row21), (30, row30), (26, row26), (24, row24), (28, row28), (31, row31), (35, row35), (33, row33), (20, row20), (22, row22), (19, row19), (5, row5), (6, row6), (7, row7), (8, row8), (9, row9)]
def tab : Tbl := fun u => tab_rows.lookup u
theorem tab_ok (hp68 : ∀ xs r, prim68 xs = some r → PCall Tryd.prog (nu 68) xs (· = r)) : TOk Tryd.prog nu tab := ok_lookup (ok_cons res115 (ok_cons res116 (ok_cons res117 (ok_cons res118 (ok_cons res91 (ok_cons res86 (ok_cons res106 (ok_cons res71 (ok_cons res72 (ok_cons res73 (ok_cons res70 (ok_cons res87 (ok_cons res85 (ok_cons res56 (ok_cons res88 (ok_cons res57 (ok_cons res2106 (ok_cons res89 (ok_cons res100 (ok_cons res60 (ok_cons res92 (ok_cons res94 (ok_cons res90 (ok_cons res119 (ok_cons res120 (ok_cons res121 (ok_cons res93 (ok_cons res2071 (ok_cons res2092 (ok_cons res62 (ok_cons res98 (ok_cons res123 (ok_cons res64 (ok_cons res101 (ok_cons res99 (ok_cons res65 (ok_cons hp68 (ok_cons res103 (ok_cons res125 (ok_cons res55 (ok_cons res38 (ok_cons res40 (ok_cons res23 (ok_cons res25 (ok_cons res27 (ok_cons res37 (ok_cons res41 (ok_cons res36 (ok_cons res29 (ok_cons res34 (ok_cons res32 (ok_cons res42 (ok_cons res43 (ok_cons res84 (ok_cons res52 (ok_cons res54 (ok_cons res58 (ok_cons res59 (ok_cons res61 (ok_cons res122 (ok_cons res95 (ok_cons res96 (ok_cons res97 (ok_cons res63 (ok_cons res2043 (ok_cons res105 (ok_cons res69 (ok_cons res66 (ok_cons res67 (ok_cons res39 (ok_cons res21 (ok_cons res30 (ok_cons res26 (ok_cons res24 (ok_cons res28 (ok_cons res31 (ok_cons res35 (ok_cons res33 (ok_cons res20 (ok_cons res22 (ok_cons res19 (ok_cons res5 (ok_cons res6 (ok_cons res7 (ok_cons res8 (ok_cons res9 (fun p hp => by cases hp)))))))))))))))))))))))))))))))))))))))))))))))))))))))))))))))))))))))))))))))))))))))
instance : CLimb tab0 where
  h115 := by kernel_rfl
  h116 := by kernel_rfl
  h117 := by kernel_rfl
  h118 := by kernel_rfl
  h91 := by kernel_rfl
instance : CNat tab0 where
  h115 := by kernel_rfl
  h116 := by kernel_rfl
  h117 := by kernel_rfl
  h118 := by kernel_rfl
  h91 := by kernel_rfl
  h86 := by kernel_rfl
  h106 := by kernel_rfl
  h71 := by kernel_rfl
  h72 := by kernel_rfl
  h73 := by kernel_rfl
  h70 := by kernel_rfl
  h87 := by kernel_rfl
  h85 := by kernel_rfl
  h56 := by kernel_rfl
  h88 := by kernel_rfl
  h57 := by kernel_rfl
  h2106 := by kernel_rfl
instance : CProd tab0 where
  h115 := by kernel_rfl
  h116 := by kernel_rfl
  h117 := by kernel_rfl
  h118 := by kernel_rfl
  h91 := by kernel_rfl
  h86 := by kernel_rfl
  h106 := by kernel_rfl
  h71 := by kernel_rfl
  h72 := by kernel_rfl
  h73 := by kernel_rfl
  h70 := by kernel_rfl
  h87 := by kernel_rfl
  h85 := by kernel_rfl
  h56 := by kernel_rfl
  h88 := by kernel_rfl
  h57 := by kernel_rfl
  h2106 := by kernel_rfl
  h89 := by kernel_rfl
  h100 := by kernel_rfl
  h60 := by kernel_rfl
instance : CTwos tab0 where
  h92 := by kernel_rfl
  h94 := by kernel_rfl
instance : CQuot tab0 where
  h90 := by kernel_rfl
  h119 := by kernel_rfl
  h120 := by kernel_rfl
  h121 := by kernel_rfl
  h93 := by kernel_rfl
instance : CQuotD tab0 where
  h2071 := by kernel_rfl
  h2092 := by kernel_rfl
  h62 := by kernel_rfl
instance : CDigits tab0 where
  h98 := by kernel_rfl
  h123 := by kernel_rfl
  h64 := by kernel_rfl
  h101 := by kernel_rfl
  h99 := by kernel_rfl
  h65 := by kernel_rfl
instance : CTrim tab0 where
  h103 := by kernel_rfl
  h125 := by kernel_rfl
instance : CWhole tab0 where
  h55 := by kernel_rfl
  h38 := by kernel_rfl
  h40 := by kernel_rfl
  h23 := by kernel_rfl
  h25 := by kernel_rfl
  h27 := by kernel_rfl
  h37 := by kernel_rfl
  h41 := by kernel_rfl
  h36 := by kernel_rfl
  h29 := by kernel_rfl
  h34 := by kernel_rfl
  h32 := by kernel_rfl
  h42 := by kernel_rfl
instance : CRef02 tab0 where
  h43 := by kernel_rfl
  h84 := by kernel_rfl
  h52 := by kernel_rfl
  h54 := by kernel_rfl
  h58 := by kernel_rfl
  h59 := by kernel_rfl
instance : CRef04 tab0 where
  h43 := by kernel_rfl
  h84 := by kernel_rfl
  h52 := by kernel_rfl
  h54 := by kernel_rfl
  h58 := by kernel_rfl
  h59 := by kernel_rfl
  h61 := by kernel_rfl
instance : CRef05 tab0 where
  h43 := by kernel_rfl
  h84 := by kernel_rfl
  h52 := by kernel_rfl
  h54 := by kernel_rfl
  h58 := by kernel_rfl
  h59 := by kernel_rfl
  h61 := by kernel_rfl
  h122 := by kernel_rfl
  h95 := by kernel_rfl
  h96 := by kernel_rfl
  h97 := by kernel_rfl
  h63 := by kernel_rfl
instance : CRef07 tab0 where
  h43 := by kernel_rfl
  h84 := by kernel_rfl
  h52 := by kernel_rfl
  h54 := by kernel_rfl
  h58 := by kernel_rfl
  h59 := by kernel_rfl
  h61 := by kernel_rfl
  h122 := by kernel_rfl
  h95 := by kernel_rfl
  h96 := by kernel_rfl
  h97 := by kernel_rfl
  h63 := by kernel_rfl
  h2043 := by kernel_rfl
  h105 := by kernel_rfl
  h69 := by kernel_rfl
  h66 := by kernel_rfl
  h67 := by kernel_rfl
instance : CRef08 tab0 where
  h43 := by kernel_rfl
  h84 := by kernel_rfl
  h52 := by kernel_rfl
  h54 := by kernel_rfl
  h58 := by kernel_rfl
  h59 := by kernel_rfl
  h61 := by kernel_rfl
  h122 := by kernel_rfl
  h95 := by kernel_rfl
  h96 := by kernel_rfl
  h97 := by kernel_rfl
  h63 := by kernel_rfl
  h2043 := by kernel_rfl
  h105 := by kernel_rfl
  h69 := by kernel_rfl
  h66 := by kernel_rfl
  h67 := by kernel_rfl
  h39 := by kernel_rfl
  h21 := by kernel_rfl
  h30 := by kernel_rfl
  h26 := by kernel_rfl
  h24 := by kernel_rfl
  h28 := by kernel_rfl
  h31 := by kernel_rfl
  h35 := by kernel_rfl
  h33 := by kernel_rfl
instance : CLaw08 tab0 where
  h20 := by kernel_rfl
  h22 := by kernel_rfl
  h19 := by kernel_rfl
  h5 := by kernel_rfl
  h6 := by kernel_rfl
  h7 := by kernel_rfl
  h8 := by kernel_rfl
  h9 := by kernel_rfl
instance : CLimb tab where
  h115 := by kernel_rfl
  h116 := by kernel_rfl
  h117 := by kernel_rfl
  h118 := by kernel_rfl
  h91 := by kernel_rfl
instance : CNat tab where
  h115 := by kernel_rfl
  h116 := by kernel_rfl
  h117 := by kernel_rfl
  h118 := by kernel_rfl
  h91 := by kernel_rfl
  h86 := by kernel_rfl
  h106 := by kernel_rfl
  h71 := by kernel_rfl
  h72 := by kernel_rfl
  h73 := by kernel_rfl
  h70 := by kernel_rfl
  h87 := by kernel_rfl
  h85 := by kernel_rfl
  h56 := by kernel_rfl
  h88 := by kernel_rfl
  h57 := by kernel_rfl
  h2106 := by kernel_rfl
instance : CProd tab where
  h115 := by kernel_rfl
  h116 := by kernel_rfl
  h117 := by kernel_rfl
  h118 := by kernel_rfl
  h91 := by kernel_rfl
  h86 := by kernel_rfl
  h106 := by kernel_rfl
  h71 := by kernel_rfl
  h72 := by kernel_rfl
  h73 := by kernel_rfl
  h70 := by kernel_rfl
  h87 := by kernel_rfl
  h85 := by kernel_rfl
  h56 := by kernel_rfl
  h88 := by kernel_rfl
  h57 := by kernel_rfl
  h2106 := by kernel_rfl
  h89 := by kernel_rfl
  h100 := by kernel_rfl
  h60 := by kernel_rfl
instance : CTwos tab where
  h92 := by kernel_rfl
  h94 := by kernel_rfl
instance : CQuot tab where
  h90 := by kernel_rfl
  h119 := by kernel_rfl
  h120 := by kernel_rfl
  h121 := by kernel_rfl
  h93 := by kernel_rfl
instance : CQuotD tab where
  h2071 := by kernel_rfl
  h2092 := by kernel_rfl
  h62 := by kernel_rfl
instance : CDigits tab where
  h98 := by kernel_rfl
  h123 := by kernel_rfl
  h64 := by kernel_rfl
  h101 := by kernel_rfl
  h99 := by kernel_rfl
  h65 := by kernel_rfl
instance : CText tab where
  h68 := by kernel_rfl
instance : CTrim tab where
  h103 := by kernel_rfl
  h125 := by kernel_rfl
instance : CWhole tab where
  h55 := by kernel_rfl
  h38 := by kernel_rfl
  h40 := by kernel_rfl
  h23 := by kernel_rfl
  h25 := by kernel_rfl
  h27 := by kernel_rfl
  h37 := by kernel_rfl
  h41 := by kernel_rfl
  h36 := by kernel_rfl
  h29 := by kernel_rfl
  h34 := by kernel_rfl
  h32 := by kernel_rfl
  h42 := by kernel_rfl
instance : CRef02 tab where
  h43 := by kernel_rfl
  h84 := by kernel_rfl
  h52 := by kernel_rfl
  h54 := by kernel_rfl
  h58 := by kernel_rfl
  h59 := by kernel_rfl
instance : CRef04 tab where
  h43 := by kernel_rfl
  h84 := by kernel_rfl
  h52 := by kernel_rfl
  h54 := by kernel_rfl
  h58 := by kernel_rfl
  h59 := by kernel_rfl
  h61 := by kernel_rfl
instance : CRef05 tab where
  h43 := by kernel_rfl
  h84 := by kernel_rfl
  h52 := by kernel_rfl
  h54 := by kernel_rfl
  h58 := by kernel_rfl
  h59 := by kernel_rfl
  h61 := by kernel_rfl
  h122 := by kernel_rfl
  h95 := by kernel_rfl
  h96 := by kernel_rfl
  h97 := by kernel_rfl
  h63 := by kernel_rfl
instance : CRef07 tab where
  h43 := by kernel_rfl
  h84 := by kernel_rfl
  h52 := by kernel_rfl
  h54 := by kernel_rfl
  h58 := by kernel_rfl
  h59 := by kernel_rfl
  h61 := by kernel_rfl
  h122 := by kernel_rfl
  h95 := by kernel_rfl
  h96 := by kernel_rfl
  h97 := by kernel_rfl
  h63 := by kernel_rfl
  h2043 := by kernel_rfl
  h105 := by kernel_rfl
  h69 := by kernel_rfl
  h66 := by kernel_rfl
  h67 := by kernel_rfl
instance : CRef08 tab where
  h43 := by kernel_rfl
  h84 := by kernel_rfl
  h52 := by kernel_rfl
  h54 := by kernel_rfl
  h58 := by kernel_rfl
  h59 := by kernel_rfl
  h61 := by kernel_rfl
  h122 := by kernel_rfl
  h95 := by kernel_rfl
  h96 := by kernel_rfl
  h97 := by kernel_rfl
  h63 := by kernel_rfl
  h2043 := by kernel_rfl
  h105 := by kernel_rfl
  h69 := by kernel_rfl
  h66 := by kernel_rfl
  h67 := by kernel_rfl
  h39 := by kernel_rfl
  h21 := by kernel_rfl
  h30 := by kernel_rfl
  h26 := by kernel_rfl
  h24 := by kernel_rfl
  h28 := by kernel_rfl
  h31 := by kernel_rfl
  h35 := by kernel_rfl
  h33 := by kernel_rfl
instance : CLaw08 tab where
  h20 := by kernel_rfl
  h22 := by kernel_rfl
  h19 := by kernel_rfl
  h5 := by kernel_rfl
  h6 := by kernel_rfl
  h7 := by kernel_rfl
  h8 := by kernel_rfl
  h9 := by kernel_rfl
end Go.Proofs.YtlohcgjleoibpaaDoor
end

section
/-
  strings.Builder at this seat: copyCheck (whose last branch the cut refuses), WriteString, String.
-/
namespace Go.Proofs
open Go.RowKit

theorem Tryd.sizeBuilder : (Tryd.prog.info? 136).map (·.size) = some 2 := by kernel_rfl
theorem Tryd.liesBuilder : liesAt Tryd.prog Tryd.prog.depth 136 (2 / Tryd.prog.cellsOf 136) 0 136 1 = true := by kernel_rfl
theorem Tryd.infoByte : (Tryd.prog.info? 5).map (fun i => (i.zero, i.size, i.bytes)) = some (some (.int .u8 0), 1, 1) := by kernel_rfl
theorem Tryd.cellsByte : Tryd.prog.cellsOf 5 = 1 := by kernel_rfl

set_option maxHeartbeats 1000000 in
set_option maxRecDepth 100000 in
theorem Tryd.bString (B b : Nat) (l : List UInt8) (w : World) (h : Lib.IsBuilder 136 5 B b (Lib.byteCells l) w) (h0 : l ≠ []) :
    Calls Tryd.prog 103 #[.pointer (some ⟨b, 0, none⟩)] w fun e w' => e = .returned (.string ⟨l.toArray⟩) ∧ Below B w w' := by
  obtain ⟨p, hB, v, hbk, hown, hne⟩ : ∃ p, Lib.BuilderAt 136 5 B b p (Lib.byteCells l) w := by
    rcases h with h | h
    · exact ⟨_, h⟩
    · exact ⟨_, h⟩
  have hl0 : l.length ≠ 0 := by simpa using h0
  rw [Lib.byteCells_length] at hown
  obtain ⟨g, cap, cur, rfl, hbg, hg, hnc, hcm, hcs, htake⟩ : ∃ g cap cur, v = .slice (some ⟨g, 0, none⟩) l.length cap ∧ B ≤ g ∧ w.heap[g]? = some (.cells cur 5 (0, 0)) ∧ l.length ≤ cap ∧ cap ≤ maxLen ∧ cur.size = cap * 1 ∧ cur.toList.take (l.length * 1) = Lib.byteCells l := by
    rcases hown.2 with ⟨_, hz⟩ | ⟨g, cap, cur, hv, r⟩
    · exact absurd hz hl0
    · exact ⟨g, cap, cur, hv, r⟩
  have c1 : w.drew.cell? ⟨b, 1, none⟩ = some (.slice (some ⟨g, 0, none⟩) l.length cap) := by
    have : w.drew.heap[b]? = some (.cells #[p, .slice (some ⟨g, 0, none⟩) l.length cap] 136 (0, 0)) := hbk
    rw [Lib.cell_of_heap this]; rfl
  have hSD : (Builtin.unsafeSliceData_ #[134] 170 #[.slice (some ⟨g, 0, none⟩) l.length cap]).run Tryd.prog w.drew = .ok (.pointer (some ⟨g, 0, none⟩)) w.drew :=
    Lib.run_unsafeSliceData_row _ _ _ _ _ _ (by omega)
  have hUS : (Builtin.unsafeString_ #[170, 3] 9 #[.pointer (some ⟨g, 0, none⟩), .int .i64 l.length]).run Tryd.prog w.drew = .ok (.string ⟨l.toArray⟩) (w.drew.freeze ⟨g, 0, none⟩ l.length) := by
    refine Lib.run_unsafeString_row w.drew 170 3 9 5 Tryd.underlying170 Tryd.cellsByte g cur.size (by have hg' : w.drew.heap[g]? = some (.cells cur 5 (0, 0)) := hg; simp [World.shape?, hg']) l h0 (by omega) (by unfold maxLen at hcm; omega) ?_
    intro j x hx
    have := hown.cells (g := g) rfl j (.int .u8 x.toNat) (by simp [Lib.byteCells, hx])
    exact this
  go_enter Tryd.func103, Tryd.ntmps103
  go_wp2
  go_region
  all_goals (go_wp2; go_ret; exact ⟨rfl, Lib.below_freeze (Below.drew (Below.refl B w)) (p := ⟨g, 0, none⟩) hbg _⟩)

set_option maxHeartbeats 1000000 in
set_option maxRecDepth 100000 in
theorem Tryd.bCheck_used (b : Nat) (w : World) (h0 : w.cell? ⟨b, 0, none⟩ = some (.pointer (some ⟨b, 0, none⟩))) :
    Calls Tryd.prog 123 #[.pointer (some ⟨b, 0, none⟩)] w fun e w' => e = .returned (.tuple #[]) ∧ w' = w := by
  obtain ⟨j, hj, _⟩ := Option.map_eq_some_iff.1 Tryd.sizeBuilder
  go_enter Tryd.func123, Tryd.ntmps123
  go_wp2
  rw [Lib.run_neq_ptr_same w _ Tryd.underlying133 hj]
  go_wp2
  go_end0
  exact ⟨rfl, rfl⟩

set_option maxHeartbeats 1000000 in
set_option maxRecDepth 100000 in
theorem Tryd.bCheck_fresh (b : Nat) (w : World) (h0 : w.cell? ⟨b, 0, none⟩ = some (.pointer none)) (hsh : w.shape? b = some (136, 2)) (hfz : w.frozen? ⟨b, 0, none⟩ = false) :
    Calls Tryd.prog 123 #[.pointer (some ⟨b, 0, none⟩)] w fun e w' => e = .returned (.tuple #[]) ∧ w' = w.setCell ⟨b, 0, none⟩ (.pointer (some ⟨b, 0, none⟩)) := by
  obtain ⟨j, hj, hjs⟩ := Option.map_eq_some_iff.1 Tryd.sizeBuilder
  go_enter Tryd.func123, Tryd.ntmps123
  go_wp2
  rw [Lib.run_to_unsafe w ⟨b, 0, none⟩ Tryd.underlying133 Tryd.underlying172 hj (by rw [hjs]; decide) hsh (Nat.zero_lt_succ 1)]
  simp only [Result.andThen]
  rw [Oper.upon_value]
  go_wp2
  rw [run_callFunc_extern Tryd.func129 (by kernel_rfl) (by kernel_rfl) (by kernel_rfl) (e := Extern.AbiNoEscape.same) (by kernel_rfl)]
  rw [Lib.run_noEscape]
  simp only [Result.andThen]
  rw [Oper.upon_value]
  go_wp2
  rw [Lib.run_from_unsafe w ⟨b, 0, none⟩ Tryd.underlying172 Tryd.underlying133 hj hsh Tryd.liesBuilder]
  simp only [Result.andThen]
  rw [Oper.upon_value]
  go_wp2
  go_end0
  exact ⟨rfl, rfl⟩

theorem Tryd.bCheck (B b : Nat) (bs : List Value) (w : World) (h : Lib.IsBuilder 136 5 B b bs w) :
    Calls Tryd.prog 123 #[.pointer (some ⟨b, 0, none⟩)] w fun e w' => e = .returned (.tuple #[]) ∧ (Lib.BuilderAt 136 5 B b (.pointer (some ⟨b, 0, none⟩)) bs w' ∧ Below B w w') := by
  rcases h with h | h
  · refine (Tryd.bCheck_fresh b w h.cell0 h.shape h.frozen0).mono ?_
    rintro e w' ⟨rfl, rfl⟩
    exact ⟨rfl, h.used _, (Below.refl B w).setCell (p := ⟨b, 0, none⟩) h.1 _⟩
  · refine (Tryd.bCheck_used b w h.cell0).mono ?_
    rintro e w' ⟨rfl, rfl⟩
    exact ⟨rfl, h, Below.refl B _⟩

set_option maxHeartbeats 2000000 in
set_option maxRecDepth 100000 in
theorem Tryd.bWrite (B b : Nat) (bs : List Value) (s : ByteArray) (w : World) (h : Lib.IsBuilder 136 5 B b bs w) (hlen : bs.length + s.size ≤ 140737488355328) (hBw : B ≤ w.heap.size) :
    Calls Tryd.prog 101 #[.pointer (some ⟨b, 0, none⟩), .string s] w fun e w' => e = .returned (.tuple #[.int .i64 s.size, .nilIface]) ∧ (Lib.BuilderAt 136 5 B b (.pointer (some ⟨b, 0, none⟩)) (bs ++ Lib.strCells s) w' ∧ Below B w w') := by
  obtain ⟨i0, hi, hz0, hz1, hz2⟩ := info_parts Tryd.infoByte
  go_enter Tryd.func101, Tryd.ntmps101
  go_wp2_with (go_at_call 123; refine (Tryd.bCheck B b bs _ h).mono ?_)
  rintro e w1 ⟨rfl, h1, hb1⟩
  obtain ⟨hB, v, hbk, hown, hne⟩ := h1
  have c0 : w1.cell? ⟨b, 0, none⟩ = some (.pointer (some ⟨b, 0, none⟩)) := by rw [Lib.cell_of_heap hbk]; rfl
  have c1 : w1.cell? ⟨b, 1, none⟩ = some v := by rw [Lib.cell_of_heap hbk]; rfl
  go_wp2_with (at_builtin; refine Lib.wpList_append_own_string _ rfl _ _ 134 9 rfl B 5 i0 Tryd.underlying134 Tryd.underlying9 hi hz0 hz1 hz2 _ _ _ rfl hown s rfl ?c3 ?c4 ?c5 ?_)
  case c3 => unfold maxLen; omega
  case c4 => omega
  case c5 => have := hb1.size; omega
  intro v' w2 hown' hgrow _
  have hlt : b < w1.heap.size := by
    rcases Nat.lt_or_ge b w1.heap.size with h' | h'
    · exact h'
    · simp [Array.getElem?_eq_none h'] at hbk
  have hb2 : w2.heap[b]? = some (.cells #[.pointer (some ⟨b, 0, none⟩), v] 136 (0, 0)) := by
    rw [hgrow.block b hlt (fun e => hne e.symm)]
    exact hbk
  have d0 : w2.cell? ⟨b, 0, none⟩ = some (.pointer (some ⟨b, 0, none⟩)) := by rw [Lib.cell_of_heap hb2]; rfl
  have d1 : w2.cell? ⟨b, 1, none⟩ = some v := by rw [Lib.cell_of_heap hb2]; rfl
  have f1 : w2.frozen? ⟨b, 1, none⟩ = false := Lib.frozen_of_heap hb2 1
  obtain ⟨ao, n', cap, rfl⟩ : ∃ ao n' cap, v' = .slice ao n' cap := by
    rcases hown'.2 with ⟨hv, _⟩ | ⟨g, cap, cur, hv, _⟩
    · exact ⟨_, _, _, hv⟩
    · exact ⟨_, _, _, hv⟩
  go_wp2
  go_ret2
  refine ⟨rfl, ?_, ?_⟩
  · exact Lib.BuilderAt.put (T := 136) (e := 5) hB hb2 (bs' := bs ++ Lib.strCells s) (by simpa [Lib.strCells_length] using hown') (by decide)
  · exact (hb1.grown hgrow (by have := hb1.size; omega) (fun k hk => (hown.lt k hk).1)).setCell (p := ⟨b, 1, none⟩) hB _
end Go.Proofs
end

section
/-
  digits.Text at this seat: its second half walked, and the whole.
-/
namespace Go.Proofs.YtlohcgjleoibpaaDoor
open Go Go.Ab Go.RowKit

theorem list_cons {α : Type} {n : Nat} {l : List α} (h : l.length = n + 1) : ∃ x t, l = x :: t ∧ t.length = n := by
  cases l with
  | nil => simp at h
  | cons x t => exact ⟨x, t, rfl, by simpa using h⟩

set_option maxHeartbeats 2000000 in
set_option maxRecDepth 100000 in
theorem text_calls (hm : Tryd.prog.follows .mixedOrders = true) (a : List UInt32) (hl : a.length ≤ 1000) {w0 : World} {S : Nat → Nat → Prop} {cargs : Array Value} (hsz : cargs.size = 1)
    (hC : ∀ (j : Nat) (v : Value) (c : AV), cargs[j]? = some v → [AV.sl (u32s a) .an][j]? = some c → CP w0 S v c) (hS : ∀ k o, S k o → k < w0.heap.size) :
    Calls Tryd.prog 67 cargs w0 fun e w' => e = .returned (.string ⟨(textN (val a)).toArray⟩) ∧ Below w0.heap.size w0 w' := by
  refine calls_of_wp Tryd.func67 rfl ?_
  have h0 := start_rel (P := Tryd.prog) (nt := 40) (w := w0) (S := S) (cargs := cargs) (args := [AV.sl (u32s a) .an]) (by simpa using hsz) (by simp) hC hS
  refine wp_seq (ev_wp tab0_ok hm (cx := ⟨Tryd.prog, 40, w0, S, fun _ => none, 1⟩) rfl rfl tx0 (nt := 40) rfl (by kernel_rfl) (txt_0 _) h0 fun a1 w1 h1 => ?_)
  refine wp_seq ?_
  by_cases hz : val a = 0
  · refine ev_wp tab0_ok hm (cx := ⟨Tryd.prog, 40, w0, S, fun _ => none, 1⟩) rfl rfl txA (nt := 40) rfl (by kernel_rfl) (txt_A0 a hl hz) h1 fun a2 w2 h2 => ?_
    have hv := h2.strAt (t := 2) (l := [48]) rfl
    have hb := h2.below
    have ht : textN (val a) = [48] := by rw [hz]; exact textN_small (by decide)
    obtain ⟨_, _, hr2⟩ := h2
    refine (show bodyPost Tryd.prog Tryd.f67 (fun e w' => e = .returned (.string ⟨(textN (val a)).toArray⟩) ∧ Below w0.heap.size w0 w') .ret a2 w2 from ?_)
    refine ⟨hr2.defers, .string ⟨[48].toArray⟩, ?_, by rw [ht], hb⟩
    rw [← hv]
    exact results_tmp rfl _ _ _
  · refine ev_wp tab0_ok hm (cx := ⟨Tryd.prog, 40, w0, S, fun _ => none, 1⟩) rfl rfl txA (nt := 40) rfl (by kernel_rfl) (txt_A1 a hl hz) h1 fun a2 w2 h2 => ?_
    refine wp_seq (ev_wp tab0_ok hm (cx := ⟨Tryd.prog, 40, w0, S, fun _ => none, 1⟩) rfl rfl tx3 (nt := 40) rfl (by kernel_rfl) (txt_3 a) h2 fun a3 w3 h3 => ?_)
    refine wp_seq (ev_wp tab0_ok hm (cx := ⟨Tryd.prog, 40, w0, S, fun _ => none, 1⟩) rfl rfl txP (nt := 40) rfl (by kernel_rfl) (txt_P a hl) h3 fun a4 w4 h4 => ?_)
    have hb4 := h4.below
    have hne : pieces (val a) ≠ [] := by rw [pieces_pos hz]; simp
    obtain ⟨k, arr, e, cap, hv, hk, hc1, hc2, hc3, hcells⟩ := h4.strs (t := 3) (ls := pieces (val a)) hne rfl (by simp [rowsS])
    obtain ⟨_, _, hr4⟩ := h4
    have hdf := hr4.defers
    have hsz := hr4.size
    have hpl := pieces_le a
    clear hr4 h0 h1 h2 h3
    change Code.wp _ _ _ a4 w4
    obtain ⟨tm, df⟩ := a4
    obtain ⟨l, rfl⟩ : ∃ l : List Value, tm = l.toArray := ⟨tm.toList, by simp⟩
    simp only [List.size_toArray] at hsz
    simp only at hdf
    subst hdf
    obtain ⟨x0, l0, rfl, s0⟩ := list_cons hsz
    obtain ⟨x1, l1, rfl, s1⟩ := list_cons s0
    obtain ⟨x2, l2, rfl, s2⟩ := list_cons s1
    obtain ⟨x3, l3, rfl, s3⟩ := list_cons s2
    obtain ⟨x4, l4, rfl, s4⟩ := list_cons s3
    obtain ⟨x5, l5, rfl, s5⟩ := list_cons s4
    obtain ⟨x6, l6, rfl, s6⟩ := list_cons s5
    obtain ⟨x7, l7, rfl, s7⟩ := list_cons s6
    obtain ⟨x8, l8, rfl, s8⟩ := list_cons s7
    obtain ⟨x9, l9, rfl, s9⟩ := list_cons s8
    obtain ⟨x10, l10, rfl, s10⟩ := list_cons s9
    obtain ⟨x11, l11, rfl, s11⟩ := list_cons s10
    obtain ⟨x12, l12, rfl, s12⟩ := list_cons s11
    obtain ⟨x13, l13, rfl, s13⟩ := list_cons s12
    obtain ⟨x14, l14, rfl, s14⟩ := list_cons s13
    obtain ⟨x15, l15, rfl, s15⟩ := list_cons s14
    obtain ⟨x16, l16, rfl, s16⟩ := list_cons s15
    obtain ⟨x17, l17, rfl, s17⟩ := list_cons s16
    obtain ⟨x18, l18, rfl, s18⟩ := list_cons s17
    obtain ⟨x19, l19, rfl, s19⟩ := list_cons s18
    obtain ⟨x20, l20, rfl, s20⟩ := list_cons s19
    obtain ⟨x21, l21, rfl, s21⟩ := list_cons s20
    obtain ⟨x22, l22, rfl, s22⟩ := list_cons s21
    obtain ⟨x23, l23, rfl, s23⟩ := list_cons s22
    obtain ⟨x24, l24, rfl, s24⟩ := list_cons s23
    obtain ⟨x25, l25, rfl, s25⟩ := list_cons s24
    obtain ⟨x26, l26, rfl, s26⟩ := list_cons s25
    obtain ⟨x27, l27, rfl, s27⟩ := list_cons s26
    obtain ⟨x28, l28, rfl, s28⟩ := list_cons s27
    obtain ⟨x29, l29, rfl, s29⟩ := list_cons s28
    obtain ⟨x30, l30, rfl, s30⟩ := list_cons s29
    obtain ⟨x31, l31, rfl, s31⟩ := list_cons s30
    obtain ⟨x32, l32, rfl, s32⟩ := list_cons s31
    obtain ⟨x33, l33, rfl, s33⟩ := list_cons s32
    obtain ⟨x34, l34, rfl, s34⟩ := list_cons s33
    obtain ⟨x35, l35, rfl, s35⟩ := list_cons s34
    obtain ⟨x36, l36, rfl, s36⟩ := list_cons s35
    obtain ⟨x37, l37, rfl, s37⟩ := list_cons s36
    obtain ⟨x38, l38, rfl, s38⟩ := list_cons s37
    obtain ⟨x39, l39, rfl, s39⟩ := list_cons s38
    cases List.eq_nil_of_length_eq_zero s39
    have hx3 : x3 = .slice (some ⟨k, 0, none⟩) (pieces (val a)).length cap := hv
    subst hx3
    have hjoin := pieces_text (val a) hz
    have hall := pieces_nine (val a)
    generalize pieces (val a) = ps at *
    have HC : Aside (∀ (i : Nat) (s : List UInt8), ps[i]? = some s → arr[i]? = some (Value.string ⟨s.toArray⟩)) := hcells
    have HJ : Aside (List.dropWhile (fun x => x == 48) ps.reverse.flatten = textN (val a)) := hjoin
    have HN : Aside (∀ s ∈ ps, s.length = 9) := hall
    have HB : Aside (Below w0.heap.size w0 w4) := hb4
    have HK : Aside (w4.heap[k]? = some (.cells arr e (0, 0))) := hk
    have hk4 : k < w4.heap.size := by
      rcases Nat.lt_or_ge k w4.heap.size with h' | h'
      · exact h'
      · simp [Array.getElem?_eq_none h'] at hk
    clear hcells hjoin hall hb4 hk
    go_wp2
    go_loopg [8] ps.length (fun g s8 wx => s8 = .int .i64 ((g : Int) - 1) ∧ g ≤ ps.length ∧ Aside (Lib.IsBuilder 136 5 w4.heap.size w4.heap.size (Lib.byteCells (ps.drop g).reverse.flatten) wx ∧ Below w4.heap.size w4 wx))
    case atStart => exact ⟨rfl, Nat.le_refl _, by rw [List.drop_length]; exact Lib.fresh_isBuilder 136 5 w4, (Below.refl _ _).alloc (Nat.le_refl _) _⟩
    case round =>
      obtain ⟨rfl, hg, HW⟩ := hrel
      cases gk with
      | zero =>
        obtain ⟨hBld, hBel⟩ := HW.out
        rw [List.drop_zero] at hBld
        have hne' : ps.reverse.flatten ≠ [] := by
          intro h
          have := flatten_nine ps.reverse (fun s hs => HN.out s (List.mem_reverse.1 hs))
          rw [h] at this
          simp at this
          exact hne (List.eq_nil_of_length_eq_zero (by omega))
        have HT : Aside (ps.reverse.flatten ≠ []) := hne'
        clear hne'
        have hlenF : ps.reverse.flatten.length ≤ 1000000 := by
          rw [flatten_nine ps.reverse (fun s hs => HN.out s (List.mem_reverse.1 hs)), List.length_reverse]
          omega
        have hT : ∀ W : World, Calls Tryd.prog 102 #[.string ⟨ps.reverse.flatten.toArray⟩, .string ⟨#[48]⟩] W fun e w' => e = .returned (.string ⟨(textN (val a)).toArray⟩) ∧ Below W.heap.size W w' := by
          intro W
          have h1 := callF_sound tab0_ok hm (u := 103) rfl rfl (trim_left (T := tab0) ps.reverse.flatten hlenF)
          rw [HJ.out] at h1
          refine (h1.2 W (fun _ _ => False) #[.string ⟨ps.reverse.flatten.toArray⟩, .string ⟨#[48]⟩] rfl (fun j v c hv hc => ?_) (fun _ _ h => h.elim)).mono ?_
          · match j, hv, hc with
            | 0, hv, hc => cases hv; cases hc; exact .s _
            | 1, hv, hc => cases hv; cases hc; exact .s _
          · rintro e w' ⟨v, r, rfl, rfl, hb, hc⟩
            cases hc
            exact ⟨rfl, hb⟩
        have HTT := hT
        clear hT
        go_wp2_with (go_at_call 103; refine (Tryd.bString w4.heap.size w4.heap.size ps.reverse.flatten wr hBld HT.out).mono ?_)
        rintro e1 w5 ⟨rfl, hb5⟩
        go_wp2_with (go_at_call 102; refine (HTT w5).mono ?_)
        rintro e2 w6 ⟨rfl, hb6⟩
        go_wp2
        go_ret
        refine ⟨rfl, ?_⟩
        have hs1 := HB.out.size
        have hs5 := (hBel.trans hb5).size
        exact HB.out.trans (((hBel.trans hb5).mono hs1).trans (hb6.mono (by omega)))
      | succ j =>
        obtain ⟨hBld, hBel⟩ := HW.out
        obtain ⟨s, hs⟩ : ∃ s, ps[j]? = some s := ⟨_, List.getElem?_eq_getElem (by omega)⟩
        have hcell : wr.cell? ⟨k, j, none⟩ = some (.string ⟨s.toArray⟩) := by
          rw [hBel.cell (p := ⟨k, j, none⟩) hk4, Lib.cell_of_heap HK.out]
          exact HC.out j s hs
        have hs9 : s.length = 9 := HN.out s (List.mem_of_getElem? hs)
        have hflen := flatten_nine (ps.drop (j + 1)).reverse (fun s hs => HN.out s (List.mem_of_mem_drop (List.mem_reverse.1 hs)))
        have HS : Aside (ps[j]? = some s) := hs
        clear hs
        rw [List.length_reverse, List.length_drop] at hflen
        have hbound : (Lib.byteCells (ps.drop (j + 1)).reverse.flatten).length + (⟨s.toArray⟩ : ByteArray).size ≤ 140737488355328 := by
          rw [Lib.byteCells_length, hflen]
          show _ + s.toArray.size ≤ _
          simp only [List.size_toArray]
          omega
        have HF : Aside ((Lib.byteCells (ps.drop (j + 1)).reverse.flatten).length + (⟨s.toArray⟩ : ByteArray).size ≤ 140737488355328) := hbound
        clear hflen hbound
        go_wp2_with (go_at_call 101; refine (Tryd.bWrite w4.heap.size w4.heap.size _ ⟨s.toArray⟩ wr hBld HF.out hBel.size).mono ?_)
        rintro e1 w5 ⟨rfl, h5, hb5⟩
        go_wp2
        go_roundg j
        case measure => omega
        case rel =>
          refine ⟨by congr 1, by omega, ?_, hBel.trans hb5⟩
          have e1 : (ps.drop j).reverse.flatten = (ps.drop (j + 1)).reverse.flatten ++ s := by
            obtain ⟨hj, he⟩ := List.getElem?_eq_some_iff.1 HS.out
            rw [List.drop_eq_getElem_cons hj, he]
            simp
          rw [e1, Lib.byteCells_append]
          exact .inr h5

theorem word_rows : ∀ (els : List (List AV)) (l : List UInt32), els.mapM wordOf = some l → els = u32s l
  | [], l, h => by cases h; rfl
  | r :: els, l, h => by
    rw [List.mapM_cons] at h
    obtain ⟨x, hx, h1⟩ := bind_some h
    obtain ⟨y, hy, h2⟩ := bind_some h1
    cases h2
    rw [word_rows els y hy]
    unfold wordOf at hx
    split at hx
    · split at hx
      · cases hx
        rename_i n hn
        have : (w32 n.toNat).toNat = n.toNat := w32_of_lt (by omega)
        simp only [u32s, List.map_cons, this, u32]
        rw [Int.toNat_of_nonneg hn.1]
      · cases hx
    · cases hx

/-- digits.Text, as the table takes it -/
theorem text_ok (hm : Tryd.prog.follows .mixedOrders = true) : ∀ xs r, prim68 xs = some r → PCall Tryd.prog (nu 68) xs (· = r) := by
  intro xs r h
  unfold prim68 at h
  split at h
  · split at h
    · rename_i els hl
      cases hw : els.mapM wordOf with
      | none => rw [hw] at h; cases h
      | some l =>
        rw [hw] at h
        cases h
        have he := word_rows els l hw
        subst he
        rw [u32s_length] at hl
        refine ⟨enters_of Tryd.func67 (by kernel_rfl) rfl, fun w S cargs hsz hC hS => ?_⟩
        refine (text_calls hm l hl (by simpa using hsz) hC hS).mono ?_
        rintro e w' ⟨rfl, hb⟩
        exact ⟨_, _, rfl, rfl, hb, .s _⟩
    · cases h
  · cases h
#print axioms text_ok
end Go.Proofs.YtlohcgjleoibpaaDoor
end

section
/-
  From what a law's code comes to, to the given form: parts that are alike at every seat.
-/
namespace Go.Ab

/-- rows of words -/
theorem words_of : ∀ (els : List (List AV)), (∀ row ∈ els, Ok (.int .u32) row) → ∃ l : List UInt32, els = u32s l
  | [], _ => ⟨[], rfl⟩
  | r :: els, h => by
    obtain ⟨l, rfl⟩ := words_of els fun row hr => h row (List.mem_cons_of_mem _ hr)
    obtain ⟨n, rfl, hw⟩ := h r List.mem_cons_self
    have h1 : 0 ≤ n ∧ n < 4294967296 := by
      simp [Lit.wf, IntKind.min, IntKind.max, IntKind.signed, IntKind.bits] at hw
      omega
    refine ⟨w32 n.toNat :: l, ?_⟩
    have : (w32 n.toNat).toNat = n.toNat := w32_of_lt (by omega)
    simp only [u32s, List.map_cons, this, u32]
    rw [Int.toNat_of_nonneg h1.1]

/-- a whole number as an argument -/
theorem whole_arg {x : AV} (h : OkArg (true, .cons .bool (.cons (.sl (.int .u32)) .nil)) x) : ∃ n a, wkA x = wh n a := by
  obtain ⟨cs, rfl, c1, c2, rfl, ⟨b, rfl⟩, c3, c4, rfl, ⟨els, f, rfl, _, _, he⟩, rfl⟩ := h
  obtain ⟨l, rfl⟩ := words_of els he
  refine ⟨b, l, ?_⟩
  simp [wkA, wkR, wh]

/-- a law's contract from what its code comes to -/
theorem pcall_wk {P : Program} {ν : Nat → FuncId} {T : Tbl} (hT : TOk P ν T) (hm : P.follows .mixedOrders = true) {u : Nat} {af : AFx} {xs ys : List AV} {r : AV} (hu : T u = some af) (hl : af.lent = none) (h : callF T u ys = some r) (hx : xs.map wkA = ys) : PCall P (ν u) xs (· = r) := by
  subst hx
  have h1 := callF_sound hT hm hu hl h
  exact PCall.wk (ex := false) h1
end Go.Ab
end

section
/-
  Laws of layer 8 at their seat: the witness, and what all of them share.
-/
namespace Go.Proofs.YtlohcgjleoibpaaDoor
open Go Go.Ab Go.ChangeShapes Go.WideShapes Go.ChangeAt Go.RowKit

theorem Tryd.own : ownKnob Tryd.prog.godebug = none := by kernel_rfl
theorem Tryd.laidOut : laidOutB Tryd.prog = true := by kernel_rfl
theorem Tryd.mixed : Tryd.prog.follows .mixedOrders = true := by kernel_rfl
def laid2 : List (String × DataW Unit) := [("unicode/utf8.acceptRanges", Rows.laid_unicode_utf8_acceptRanges), ("unicode/utf8.first", Rows.laid_unicode_utf8_first)]

/-- THE WITNESS: a settled world, the two tables laid. -/
noncomputable def laidWorld (os : Os) : World :=
  let put (h : Array Obj) (g : Nat) (cs : Array Value) : Array Obj := h.modify g fun
    | .cells _ t frozen => .cells cs t frozen
    | o => o
  let w0 := World.holding Tryd.prog os ⟨#[], #[], []⟩
  let h1 := put w0.heap 0 (Lib.firstTab.map fun z => Value.int .u8 z).toArray
  let h2 := put h1 1 ((List.range 16).flatMap fun i => [Value.int .u8 (Lib.accLo i), Value.int .u8 (Lib.accHi i)]).toArray
  { w0 with heap := h2 }
theorem laid_met (os : Os) (args : Array Value) : laidMetH Tryd.prog laid2 ((laidWorld os).forCall (fun _ _ => 0) ⟨#[], args, []⟩).memory :=
  laidMetH_of_parts3 (fuel := 8) (laidMet_of_run' 8 (by kernel_rfl) (by kernel_rfl)) (by kernel_rfl) (by kernel_rfl)
theorem laid_shaped (os : Os) : (laidWorld os).Shaped Tryd.prog := World.shaped_of_RefB (by kernel_rfl) (by kernel_rfl)
theorem tab_all : TOk Tryd.prog nu tab := tab_ok (text_ok Tryd.mixed)
end Go.Proofs.YtlohcgjleoibpaaDoor
end
