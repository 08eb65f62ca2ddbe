/-
  A calculus of values, boxes and code, and what functions of the program compute, proved in it.
  Conditions: none beyond those that the theorems state. (Part 5: JdTab, JdBld, TxHalf, GpTrim, AxWp, JdEnd, Ab25, Ab26, Ab27, AxTop, NmFrac, AxTop2, GcSpan, NmLex, GcJoin, GcRow, GcCommon, NmGcd, GpCommon, GcFrac, GpWhole, GpFrac, GpRow, GpRow2, GpMix, GpSpan, AxTop3, GcRow5, GcFrac5, GcRef5x, GpRow3, GcRef11, GcRef09, GcRef06, GpRef07, GpRef06, GcRef08, GpRef08, GpRef09, GpRef11, GpRow4, GcGrid, GcLaw09, GcLaw11, GpLaw11, GpGrid, GpGrid2, NmGrid, GcFrac2, GpFrac2, NmRow, GcPow, GpPow, GcLaw12, GcRef12, GpRef12, GpLaw12, GcPoly, GpPoly, GpRow5, NmTape, AxTop5, NmTree, NmField, AxTop6, JdBase, GpRef17, GpRef17b, GpTree, NmDiff, GpDiff, GpDiff2, GpDiff3, GpDiff4.)
-/
import Derived.Test.YtegcbhlfmmgmhaaDoorPart4
import Derived.Test.YtegcbhlfmmgmhaaDoorProg
import Derived.KernelRfl
import Derived.Shelf.RegionOpenPlain
import Derived.Lib.Strings
import Derived.Lib.Slices
import Derived.Lib.Walk
import Derived.Lib.Builder
import Derived.Lib.AppendStr
import Derived.Lib.UnsafeStr
import Derived.Lib.MakeNoZero
import Derived.WalkKit
import Derived.Laws.Externs
import Derived.Laws.IdiomCopy
import Derived.Laws.BitsLemmas
import GoSem.Claims
import Derived.Deep.LoopGhost
import Derived.ProofKit
import Derived.OpenShut
import Derived.Test.YtegcbhlfmmgmhaaDoorRows
import Derived.Test.YtegcbhlfmmgmhaaDoorCards
import Derived.Test.YtegcbhlfmmgmhaaDoorTie
import Derived.LaidMore
import Derived.Stop.Joined
import Derived.SevenTiedAt
import Derived.Lib.LaidU8

set_option linter.unusedSectionVars false
set_option linter.unusedVariables false
set_option linter.unusedSimpArgs false
set_option linter.unnecessarySimpa false

section
namespace Go.Proofs.YtegcbhlfmmgmhaaDoor
open Go Go.Ab
set_option maxRecDepth 100000
def nus : List (Nat × Nat) := [(4, 3), (10, 4), (11, 5), (12, 6), (13, 7), (14, 8), (15, 9), (16, 10), (17, 11), (18, 12), (43, 41), (44, 13), (45, 14), (46, 15), (47, 16), (48, 17), (49, 18), (50, 19), (51, 20), (52, 21), (53, 22), (54, 40), (68, 50), (69, 42), (70, 51), (71, 45), (74, 23), (75, 24), (76, 25), (77, 26), (78, 27), (79, 28), (80, 29), (81, 30), (82, 31), (83, 32), (84, 33), (86, 49), (90, 52), (101, 53), (103, 55), (105, 47), (106, 48), (107, 34), (108, 35), (109, 36), (110, 37), (111, 38), (112, 39), (113, 43), (114, 44), (118, 57), (125, 59), (126, 60), (127, 61), (128, 62), (129, 46), (2043, 41)]
def nu (u : Nat) : FuncId := (nus.lookup u).getD 0
def row118 : AFx := ⟨3, 29, [.t 6, .t 7, .t 8], b118, none, false⟩
def row86 : AFx := ⟨1, 21, [.t 2], b86, none, false⟩
def row106 : AFx := ⟨2, 15, [.t 4], b106, none, false⟩
def row71 : AFx := ⟨1, 6, [.t 2], b71, none, false⟩
def row70 : AFx := ⟨1, 7, [.t 2], b70, none, false⟩
def row90 : AFx := ⟨2, 37, [.t 4, .t 5, .t 6], b90, none, false⟩
def row101 : AFx := ⟨1, 19, [.t 2], b101, none, false⟩
def row68 : AFx := ⟨0, 0, [], .prim prim68, none, false⟩
def row103 : AFx := ⟨2, 37, [.t 4], b103, none, false⟩
def row125 : AFx := ⟨2, 17, [.t 4], b125, none, false⟩
def row38 : AFx := ⟨1, 9, [.cell 2 (some 2)], b38, none, false⟩
def row23 : AFx := ⟨2, 39, [.cell 4 (some 2)], b23, none, false⟩
def row25 : AFx := ⟨2, 9, [.cell 4 (some 2)], b25, none, false⟩
def row27 : AFx := ⟨2, 16, [.cell 4 (some 2)], b27, none, false⟩
def row37 : AFx := ⟨1, 10, [.t 2], b37, none, false⟩
def row36 : AFx := ⟨2, 9, [.t 4], b36, none, false⟩
def row29 : AFx := ⟨2, 48, [.cell 4 (some 2), .cell 5 (some 2), .t 6], b29, none, false⟩
def row34 : AFx := ⟨1, 13, [.t 2], b34, none, false⟩
def row32 : AFx := ⟨1, 36, [.cell 2 (some 2), .cell 3 (some 4)], b32, none, false⟩
def row43 : AFx := ⟨1, 23, [.t 2], b43, none, false⟩
def row84 : AFx := ⟨2, 13, [.t 4], b84, none, false⟩
def row52 : AFx := ⟨2, 30, [.t 4], b52, none, false⟩
def row54 : AFx := ⟨2, 26, [.t 4], b54, none, false⟩
def row63 : AFx := ⟨2, 54, [.t 4, .t 5], b63, none, false⟩
def row2043 : AFx := ⟨1, 23, [.t 2], b2043, (some [false]), false⟩
def row105 : AFx := ⟨1, 29, [.t 2], b105, (some [true]), false⟩
def row69 : AFx := ⟨1, 26, [.t 2], b69, none, false⟩
def row129 : AFx := ⟨1, 6, [.t 2], b129, none, false⟩
def row76 : AFx := ⟨1, 18, [.t 2], b76, none, false⟩
def row74 : AFx := ⟨1, 34, [.t 2], b74, none, false⟩
def row44 : AFx := ⟨1, 6, [.t 2], b44, none, false⟩
def row108 : AFx := ⟨2, 12, [.t 4], b108, none, false⟩
def row107 : AFx := ⟨1, 14, [.t 2], b107, none, false⟩
def row75 : AFx := ⟨4, 67, [.t 8], b75, none, false⟩
def row46 : AFx := ⟨4, 35, [.t 8], b46, none, false⟩
def row109 : AFx := ⟨2, 40, [.t 4], b109, none, false⟩
def row48 : AFx := ⟨1, 12, [.t 2], b48, none, false⟩
def row110 : AFx := ⟨2, 11, [.t 4], b110, none, false⟩
def row111 : AFx := ⟨3, 26, [.t 6], b111, none, true⟩
def row112 : AFx := ⟨4, 24, [.t 8], b112, none, true⟩
def row78 : AFx := ⟨3, 56, [.t 6], b78, none, true⟩
def row77 : AFx := ⟨2, 69, [.t 4], b77, none, true⟩
def row53 : AFx := ⟨2, 17, [.t 4], b53, none, false⟩
def row47 : AFx := ⟨2, 91, [.t 4], b47, none, true⟩
def row45 : AFx := ⟨1, 11, [.t 2], b45, none, false⟩
def row12 : AFx := ⟨2, 27, [.t 4, .t 5], b12, none, false⟩
def row18 : AFx := ⟨2, 17, [.t 4], b18, none, false⟩
def row113 : AFx := ⟨1, 21, [.t 2], b113, none, false⟩
def row80 : AFx := ⟨1, 34, [.t 2], b80, none, false⟩
def row114 : AFx := ⟨2, 36, [.t 4, .t 5], b114, none, false⟩
def row81 : AFx := ⟨1, 40, [.t 2], b81, none, false⟩
def row16 : AFx := ⟨2, 55, [.t 4], b16, none, false⟩
def row10 : AFx := ⟨3, 31, [.t 6], b10, none, false⟩
def row79 : AFx := ⟨4, 94, [.t 8], b79, none, false⟩
def row50 : AFx := ⟨4, 35, [.t 8], b50, none, false⟩
def row83 : AFx := ⟨4, 21, [.t 8], b83, none, false⟩
def row82 : AFx := ⟨1, 8, [.t 2], b82, none, false⟩
def row51 : AFx := ⟨2, 183, [.t 4], b51, none, false⟩
def row49 : AFx := ⟨1, 15, [.t 2], b49, none, false⟩
def row15 : AFx := ⟨2, 30, [.t 4, .t 5], b15, none, false⟩
def row13 : AFx := ⟨1, 31, [.t 2], b13, none, false⟩
def row17 : AFx := ⟨1, 31, [.t 2], b17, none, false⟩
def row14 : AFx := ⟨1, 10, [.cell 2 (some 3)], b14, none, false⟩
def row4 : AFx := ⟨2, 82, [.t 4], b4, none, false⟩
def row11 : AFx := ⟨0, 47, [.t 0], b11, none, false⟩
def RowOk (P : Program) (ν : Nat → FuncId) (τ : Nat → Nat) (u : Nat) (af : AFx) : Prop :=
 match af.body.isPrim with
 | some f => ∀ xs r, f xs = some r → PCall P (ν u) xs (· = r)
 | none => if af.body.isBad = true then ∀ m ∈ methsA af, methOf P af.np m.1 = some (ν m.2) else resFn P (ν u) = some (erF ν τ af)
theorem ok_pr {P : Program} {ν : Nat → FuncId} {τ : Nat → Nat} {u : Nat} {af : AFx} {f : List AV → Option AV} (h0 : af.body.isPrim = some f) (h : ∀ xs r, f xs = some r → PCall P (ν u) xs (· = r)) : RowOk P ν τ u af := by unfold RowOk; rw [h0]; exact h
theorem ok_fn {P : Program} {ν : Nat → FuncId} {τ : Nat → Nat} {u : Nat} {af : AFx} (h0 : af.body.isPrim = none) (h1 : af.body.isBad = false) (h : resFn P (ν u) = some (erF ν τ af)) : RowOk P ν τ u af := by unfold RowOk; rw [h0]; simp only [h1]; exact h
theorem ok_cons {P : Program} {ν : Nat → FuncId} {τ : Nat → Nat} {u : Nat} {af : AFx} {l : List (Nat × AFx)} (h : RowOk P ν τ u af) (hl : ∀ p ∈ l, RowOk P ν τ p.1 p.2) :
  ∀ p ∈ (u, af) :: l, RowOk P ν τ p.1 p.2 := by
 intro p hp
 rcases List.mem_cons.1 hp with rfl | hp
 ·exact h
 ·exact hl p hp
theorem ok_lookup {P : Program} {ν : Nat → FuncId} {l : List (Nat × AFx)} (hl : ∀ p ∈ l, RowOk P ν (tyNum fun u => l.lookup u) p.1 p.2) : TOk P ν (fun u => l.lookup u) := fun _ _ h => hl _ (mem_of_lookup h)
theorem sub_cons {l l2 : List (Nat × AFx)} {u : Nat} {af : AFx} (h : l.lookup u = some af) (h2 : ∀ p ∈ l2, l.lookup p.1 = some p.2) : ∀ p ∈ (u, af) :: l2, l.lookup p.1 = some p.2 := by
 intro p hp
 rcases List.mem_cons.1 hp with rfl | hp
 ·exact h
 ·exact h2 p hp
def gTab : List (Nat × AFx) := [(118, row118), (86, row86), (106, row106), (71, row71), (70, row70), (90, row90), (101, row101), (68, row68), (103, row103), (125, row125), (38, row38), (23, row23), (25, row25), (27, row27), (37, row37), (36, row36), (29, row29), (34, row34), (32, row32), (43, row43), (84, row84), (52, row52), (54, row54), (63, row63), (2043, row2043), (105, row105), (69, row69), (129, row129), (76, row76), (74, row74), (44, row44), (108, row108), (107, row107), (75, row75), (46, row46), (109, row109), (48, row48), (110, row110), (111, row111), (112, row112), (78, row78), (77, row77), (53, row53), (47, row47), (45, row45), (12, row12), (18, row18), (113, row113), (80, row80), (114, row114), (81, row81), (16, row16), (10, row10), (79, row79), (50, row50), (83, row83), (82, row82), (51, row51), (49, row49), (15, row15), (13, row13), (17, row17), (14, row14), (4, row4), (11, row11)]
def lTab : List (Nat × AFx) := [(86, row86), (106, row106), (71, row71), (68, row68), (43, row43), (84, row84), (52, row52), (54, row54), (2043, row2043), (105, row105), (69, row69), (129, row129), (76, row76), (74, row74), (44, row44), (108, row108), (107, row107), (75, row75), (46, row46), (109, row109), (48, row48), (110, row110), (111, row111), (112, row112), (78, row78), (77, row77), (53, row53), (47, row47), (45, row45), (12, row12), (18, row18), (113, row113), (80, row80), (114, row114), (81, row81), (16, row16), (10, row10), (79, row79), (50, row50), (83, row83), (82, row82), (51, row51), (49, row49), (15, row15), (13, row13), (17, row17), (14, row14), (4, row4), (11, row11)]
def tab : Tbl := fun u => gTab.lookup u
def tau_l : Nat → Nat := tyNum fun u => lTab.lookup u
theorem resl_86 : resFn Tryd.prog (nu 86) = some (erF nu tau_l row86) := by kernel_rfl
theorem resl_106 : resFn Tryd.prog (nu 106) = some (erF nu tau_l row106) := by kernel_rfl
theorem resl_71 : resFn Tryd.prog (nu 71) = some (erF nu tau_l row71) := by kernel_rfl
theorem resl_43 : resFn Tryd.prog (nu 43) = some (erF nu tau_l row43) := by kernel_rfl
theorem resl_84 : resFn Tryd.prog (nu 84) = some (erF nu tau_l row84) := by kernel_rfl
theorem resl_52 : resFn Tryd.prog (nu 52) = some (erF nu tau_l row52) := by kernel_rfl
theorem resl_54 : resFn Tryd.prog (nu 54) = some (erF nu tau_l row54) := by kernel_rfl
theorem resl_2043 : resFn Tryd.prog (nu 2043) = some (erF nu tau_l row2043) := by kernel_rfl
theorem resl_105 : resFn Tryd.prog (nu 105) = some (erF nu tau_l row105) := by kernel_rfl
theorem resl_69 : resFn Tryd.prog (nu 69) = some (erF nu tau_l row69) := by kernel_rfl
theorem resl_129 : resFn Tryd.prog (nu 129) = some (erF nu tau_l row129) := by kernel_rfl
theorem resl_76 : resFn Tryd.prog (nu 76) = some (erF nu tau_l row76) := by kernel_rfl
theorem resl_74 : resFn Tryd.prog (nu 74) = some (erF nu tau_l row74) := by kernel_rfl
theorem resl_44 : resFn Tryd.prog (nu 44) = some (erF nu tau_l row44) := by kernel_rfl
theorem resl_108 : resFn Tryd.prog (nu 108) = some (erF nu tau_l row108) := by kernel_rfl
theorem resl_107 : resFn Tryd.prog (nu 107) = some (erF nu tau_l row107) := by kernel_rfl
theorem resl_75 : resFn Tryd.prog (nu 75) = some (erF nu tau_l row75) := by kernel_rfl
theorem resl_46 : resFn Tryd.prog (nu 46) = some (erF nu tau_l row46) := by kernel_rfl
theorem resl_109 : resFn Tryd.prog (nu 109) = some (erF nu tau_l row109) := by kernel_rfl
theorem resl_48 : resFn Tryd.prog (nu 48) = some (erF nu tau_l row48) := by kernel_rfl
theorem resl_110 : resFn Tryd.prog (nu 110) = some (erF nu tau_l row110) := by kernel_rfl
theorem resl_111 : resFn Tryd.prog (nu 111) = some (erF nu tau_l row111) := by kernel_rfl
theorem resl_112 : resFn Tryd.prog (nu 112) = some (erF nu tau_l row112) := by kernel_rfl
theorem resl_78 : resFn Tryd.prog (nu 78) = some (erF nu tau_l row78) := by kernel_rfl
theorem resl_77 : resFn Tryd.prog (nu 77) = some (erF nu tau_l row77) := by kernel_rfl
theorem resl_53 : resFn Tryd.prog (nu 53) = some (erF nu tau_l row53) := by kernel_rfl
theorem resl_47 : resFn Tryd.prog (nu 47) = some (erF nu tau_l row47) := by kernel_rfl
theorem resl_45 : resFn Tryd.prog (nu 45) = some (erF nu tau_l row45) := by kernel_rfl
theorem resl_12 : resFn Tryd.prog (nu 12) = some (erF nu tau_l row12) := by kernel_rfl
theorem resl_18 : resFn Tryd.prog (nu 18) = some (erF nu tau_l row18) := by kernel_rfl
theorem resl_113 : resFn Tryd.prog (nu 113) = some (erF nu tau_l row113) := by kernel_rfl
theorem resl_80 : resFn Tryd.prog (nu 80) = some (erF nu tau_l row80) := by kernel_rfl
theorem resl_114 : resFn Tryd.prog (nu 114) = some (erF nu tau_l row114) := by kernel_rfl
theorem resl_81 : resFn Tryd.prog (nu 81) = some (erF nu tau_l row81) := by kernel_rfl
theorem resl_16 : resFn Tryd.prog (nu 16) = some (erF nu tau_l row16) := by kernel_rfl
theorem resl_10 : resFn Tryd.prog (nu 10) = some (erF nu tau_l row10) := by kernel_rfl
theorem resl_79 : resFn Tryd.prog (nu 79) = some (erF nu tau_l row79) := by kernel_rfl
theorem resl_50 : resFn Tryd.prog (nu 50) = some (erF nu tau_l row50) := by kernel_rfl
theorem resl_83 : resFn Tryd.prog (nu 83) = some (erF nu tau_l row83) := by kernel_rfl
theorem resl_82 : resFn Tryd.prog (nu 82) = some (erF nu tau_l row82) := by kernel_rfl
theorem resl_51 : resFn Tryd.prog (nu 51) = some (erF nu tau_l row51) := by kernel_rfl
theorem resl_49 : resFn Tryd.prog (nu 49) = some (erF nu tau_l row49) := by kernel_rfl
theorem resl_15 : resFn Tryd.prog (nu 15) = some (erF nu tau_l row15) := by kernel_rfl
theorem resl_13 : resFn Tryd.prog (nu 13) = some (erF nu tau_l row13) := by kernel_rfl
theorem resl_17 : resFn Tryd.prog (nu 17) = some (erF nu tau_l row17) := by kernel_rfl
theorem resl_14 : resFn Tryd.prog (nu 14) = some (erF nu tau_l row14) := by kernel_rfl
theorem resl_4 : resFn Tryd.prog (nu 4) = some (erF nu tau_l row4) := by kernel_rfl
theorem resl_11 : resFn Tryd.prog (nu 11) = some (erF nu tau_l row11) := by kernel_rfl
theorem lTab_ok (hp68 : ∀ xs r, prim68 xs = some r → PCall Tryd.prog (nu 68) xs (· = r)) : TOk Tryd.prog nu (fun u => lTab.lookup u) := ok_lookup (ok_cons (ok_fn rfl rfl resl_86) (ok_cons (ok_fn rfl rfl resl_106) (ok_cons (ok_fn rfl rfl resl_71) (ok_cons (ok_pr rfl hp68) (ok_cons (ok_fn rfl rfl resl_43) (ok_cons (ok_fn rfl rfl resl_84) (ok_cons (ok_fn rfl rfl resl_52) (ok_cons (ok_fn rfl rfl resl_54) (ok_cons (ok_fn rfl rfl resl_2043) (ok_cons (ok_fn rfl rfl resl_105) (ok_cons (ok_fn rfl rfl resl_69) (ok_cons (ok_fn rfl rfl resl_129) (ok_cons (ok_fn rfl rfl resl_76) (ok_cons (ok_fn rfl rfl resl_74) (ok_cons (ok_fn rfl rfl resl_44) (ok_cons (ok_fn rfl rfl resl_108) (ok_cons (ok_fn rfl rfl resl_107) (ok_cons (ok_fn rfl rfl resl_75) (ok_cons (ok_fn rfl rfl resl_46) (ok_cons (ok_fn rfl rfl resl_109) (ok_cons (ok_fn rfl rfl resl_48) (ok_cons (ok_fn rfl rfl resl_110) (ok_cons (ok_fn rfl rfl resl_111) (ok_cons (ok_fn rfl rfl resl_112) (ok_cons (ok_fn rfl rfl resl_78) (ok_cons (ok_fn rfl rfl resl_77) (ok_cons (ok_fn rfl rfl resl_53) (ok_cons (ok_fn rfl rfl resl_47) (ok_cons (ok_fn rfl rfl resl_45) (ok_cons (ok_fn rfl rfl resl_12) (ok_cons (ok_fn rfl rfl resl_18) (ok_cons (ok_fn rfl rfl resl_113) (ok_cons (ok_fn rfl rfl resl_80) (ok_cons (ok_fn rfl rfl resl_114) (ok_cons (ok_fn rfl rfl resl_81) (ok_cons (ok_fn rfl rfl resl_16) (ok_cons (ok_fn rfl rfl resl_10) (ok_cons (ok_fn rfl rfl resl_79) (ok_cons (ok_fn rfl rfl resl_50) (ok_cons (ok_fn rfl rfl resl_83) (ok_cons (ok_fn rfl rfl resl_82) (ok_cons (ok_fn rfl rfl resl_51) (ok_cons (ok_fn rfl rfl resl_49) (ok_cons (ok_fn rfl rfl resl_15) (ok_cons (ok_fn rfl rfl resl_13) (ok_cons (ok_fn rfl rfl resl_17) (ok_cons (ok_fn rfl rfl resl_14) (ok_cons (ok_fn rfl rfl resl_4) (ok_cons (ok_fn rfl rfl resl_11) (fun p hp => by cases hp))))))))))))))))))))))))))))))))))))))))))))))))))
theorem lTab_part : Part gTab lTab := ⟨sub_cons (by kernel_rfl) (sub_cons (by kernel_rfl) (sub_cons (by kernel_rfl) (sub_cons (by kernel_rfl) (sub_cons (by kernel_rfl) (sub_cons (by kernel_rfl) (sub_cons (by kernel_rfl) (sub_cons (by kernel_rfl) (sub_cons (by kernel_rfl) (sub_cons (by kernel_rfl) (sub_cons (by kernel_rfl) (sub_cons (by kernel_rfl) (sub_cons (by kernel_rfl) (sub_cons (by kernel_rfl) (sub_cons (by kernel_rfl) (sub_cons (by kernel_rfl) (sub_cons (by kernel_rfl) (sub_cons (by kernel_rfl) (sub_cons (by kernel_rfl) (sub_cons (by kernel_rfl) (sub_cons (by kernel_rfl) (sub_cons (by kernel_rfl) (sub_cons (by kernel_rfl) (sub_cons (by kernel_rfl) (sub_cons (by kernel_rfl) (sub_cons (by kernel_rfl) (sub_cons (by kernel_rfl) (sub_cons (by kernel_rfl) (sub_cons (by kernel_rfl) (sub_cons (by kernel_rfl) (sub_cons (by kernel_rfl) (sub_cons (by kernel_rfl) (sub_cons (by kernel_rfl) (sub_cons (by kernel_rfl) (sub_cons (by kernel_rfl) (sub_cons (by kernel_rfl) (sub_cons (by kernel_rfl) (sub_cons (by kernel_rfl) (sub_cons (by kernel_rfl) (sub_cons (by kernel_rfl) (sub_cons (by kernel_rfl) (sub_cons (by kernel_rfl) (sub_cons (by kernel_rfl) (sub_cons (by kernel_rfl) (sub_cons (by kernel_rfl) (sub_cons (by kernel_rfl) (sub_cons (by kernel_rfl) (sub_cons (by kernel_rfl) (sub_cons (by kernel_rfl) (fun p hp => by cases hp))))))))))))))))))))))))))))))))))))))))))))))))), by kernel_rfl⟩
def sTab : List (Nat × AFx) := [(118, row118), (86, row86), (106, row106), (71, row71), (70, row70), (90, row90), (101, row101), (103, row103), (125, row125)]
def tau_s : Nat → Nat := tyNum fun u => sTab.lookup u
theorem ress_118 : resFn Tryd.prog (nu 118) = some (erF nu tau_s row118) := by kernel_rfl
theorem ress_86 : resFn Tryd.prog (nu 86) = some (erF nu tau_s row86) := by kernel_rfl
theorem ress_106 : resFn Tryd.prog (nu 106) = some (erF nu tau_s row106) := by kernel_rfl
theorem ress_71 : resFn Tryd.prog (nu 71) = some (erF nu tau_s row71) := by kernel_rfl
theorem ress_70 : resFn Tryd.prog (nu 70) = some (erF nu tau_s row70) := by kernel_rfl
theorem ress_90 : resFn Tryd.prog (nu 90) = some (erF nu tau_s row90) := by kernel_rfl
theorem ress_101 : resFn Tryd.prog (nu 101) = some (erF nu tau_s row101) := by kernel_rfl
theorem ress_103 : resFn Tryd.prog (nu 103) = some (erF nu tau_s row103) := by kernel_rfl
theorem ress_125 : resFn Tryd.prog (nu 125) = some (erF nu tau_s row125) := by kernel_rfl
theorem sTab_ok : TOk Tryd.prog nu (fun u => sTab.lookup u) := ok_lookup (ok_cons (ok_fn rfl rfl ress_118) (ok_cons (ok_fn rfl rfl ress_86) (ok_cons (ok_fn rfl rfl ress_106) (ok_cons (ok_fn rfl rfl ress_71) (ok_cons (ok_fn rfl rfl ress_70) (ok_cons (ok_fn rfl rfl ress_90) (ok_cons (ok_fn rfl rfl ress_101) (ok_cons (ok_fn rfl rfl ress_103) (ok_cons (ok_fn rfl rfl ress_125) (fun p hp => by cases hp))))))))))
theorem sTab_part : Part gTab sTab := ⟨sub_cons (by kernel_rfl) (sub_cons (by kernel_rfl) (sub_cons (by kernel_rfl) (sub_cons (by kernel_rfl) (sub_cons (by kernel_rfl) (sub_cons (by kernel_rfl) (sub_cons (by kernel_rfl) (sub_cons (by kernel_rfl) (sub_cons (by kernel_rfl) (fun p hp => by cases hp))))))))), by kernel_rfl⟩
instance : CLimb tab where
 h118 := by kernel_rfl
instance : CNat tab where
 h118 := by kernel_rfl
 h86 := by kernel_rfl
 h106 := by kernel_rfl
 h71 := by kernel_rfl
 h70 := by kernel_rfl
instance : CProd tab where
 h118 := by kernel_rfl
 h86 := by kernel_rfl
 h106 := by kernel_rfl
 h71 := by kernel_rfl
 h70 := by kernel_rfl
instance : CTwos tab where
instance : CQuot tab where
 h90 := by kernel_rfl
instance : CQuotD tab where
instance : CDigits tab where
 h101 := by kernel_rfl
instance : CText tab where
 h68 := by kernel_rfl
instance : CTrim tab where
 h103 := by kernel_rfl
 h125 := by kernel_rfl
instance : CWhole tab where
 h38 := by kernel_rfl
 h23 := by kernel_rfl
 h25 := by kernel_rfl
 h27 := by kernel_rfl
 h37 := by kernel_rfl
 h36 := by kernel_rfl
 h29 := by kernel_rfl
 h34 := by kernel_rfl
 h32 := by kernel_rfl
instance : CRef02 tab where
 h43 := by kernel_rfl
 h84 := by kernel_rfl
 h52 := by kernel_rfl
 h54 := by kernel_rfl
instance : CRef04 tab where
 h43 := by kernel_rfl
 h84 := by kernel_rfl
 h52 := by kernel_rfl
 h54 := by kernel_rfl
instance : CRef05 tab where
 h43 := by kernel_rfl
 h84 := by kernel_rfl
 h52 := by kernel_rfl
 h54 := by kernel_rfl
 h63 := by kernel_rfl
instance : CRef07 tab where
 h43 := by kernel_rfl
 h84 := by kernel_rfl
 h52 := by kernel_rfl
 h54 := by kernel_rfl
 h63 := by kernel_rfl
 h2043 := by kernel_rfl
 h105 := by kernel_rfl
 h69 := by kernel_rfl
instance : CLenD tab where
 h129 := by kernel_rfl
instance : CTree tab where
 h76 := by kernel_rfl
 h74 := by kernel_rfl
 h44 := by kernel_rfl
 h108 := by kernel_rfl
 h107 := by kernel_rfl
 h75 := by kernel_rfl
 h46 := by kernel_rfl
instance : CDiff tab where
 h109 := by kernel_rfl
 h48 := by kernel_rfl
 h110 := by kernel_rfl
 h111 := by kernel_rfl
 h112 := by kernel_rfl
 h78 := by kernel_rfl
 h77 := by kernel_rfl
 h53 := by kernel_rfl
 h47 := by kernel_rfl
 h45 := by kernel_rfl
 h12 := by kernel_rfl
 h18 := by kernel_rfl
instance : CRef17 tab where
 h113 := by kernel_rfl
 h80 := by kernel_rfl
 h114 := by kernel_rfl
 h81 := by kernel_rfl
 h16 := by kernel_rfl
 h10 := by kernel_rfl
 h79 := by kernel_rfl
 h50 := by kernel_rfl
instance : CRef23 tab where
 h83 := by kernel_rfl
 h82 := by kernel_rfl
 h51 := by kernel_rfl
 h49 := by kernel_rfl
 h15 := by kernel_rfl
instance : CLaw17 tab where
 h13 := by kernel_rfl
 h17 := by kernel_rfl
instance : CLaw23 tab where
 h14 := by kernel_rfl
 h4 := by kernel_rfl
 h11 := by kernel_rfl
end Go.Proofs.YtegcbhlfmmgmhaaDoor
end

section
namespace Go.Proofs
open Go.RowKit
theorem Tryd.sizeBuilder : (Tryd.prog.info? 89).map (·.size) = some 2 := by kernel_rfl
theorem Tryd.liesBuilder : liesAt Tryd.prog Tryd.prog.depth 89 (2 / Tryd.prog.cellsOf 89) 0 89 1 = true := by kernel_rfl
theorem Tryd.infoByte : (Tryd.prog.info? 5).map (fun i => (i.zero, i.size, i.bytes)) = some (some (.int .u8 0), 1, 1) := by kernel_rfl
theorem Tryd.cellsByte : Tryd.prog.cellsOf 5 = 1 := by kernel_rfl
set_option maxHeartbeats 1000000 in
set_option maxRecDepth 100000 in
theorem Tryd.bString (B b : Nat) (l : List UInt8) (w : World) (h : Lib.IsBuilder 89 5 B b (Lib.byteCells l) w) (h0 : l ≠ []) :
  Calls Tryd.prog 56 #[.pointer (some ⟨b, 0, none⟩)] w fun e w' => e = .returned (.string ⟨l.toArray⟩) ∧ Below B w w' := by
 obtain ⟨p, hB, v, hbk, hown, hne⟩ : ∃ p, Lib.BuilderAt 89 5 B b p (Lib.byteCells l) w := by
  rcases h with h | h
  ·exact ⟨_, h⟩
  ·exact ⟨_, h⟩
 have hl0 : l.length ≠ 0 := by simpa using h0
 rw [Lib.byteCells_length] at hown
 obtain ⟨g, cap, cur, rfl, hbg, hg, hnc, hcm, hcs, htake⟩ : ∃ g cap cur, v = .slice (some ⟨g, 0, none⟩) l.length cap ∧ B ≤ g ∧ w.heap[g]? = some (.cells cur 5 (0, 0)) ∧ l.length ≤ cap ∧ cap ≤ maxLen ∧ cur.size = cap * 1 ∧ cur.toList.take (l.length * 1) = Lib.byteCells l := by
  rcases hown.2 with ⟨_, hz⟩ | ⟨g, cap, cur, hv, r⟩
  ·exact absurd hz hl0
  ·exact ⟨g, cap, cur, hv, r⟩
 have c1 : w.drew.cell? ⟨b, 1, none⟩ = some (.slice (some ⟨g, 0, none⟩) l.length cap) := by
  have : w.drew.heap[b]? = some (.cells #[p, .slice (some ⟨g, 0, none⟩) l.length cap] 89 (0, 0)) := hbk
  rw [Lib.cell_of_heap this]; rfl
 have hSD : (Builtin.unsafeSliceData_ #[87] 106 #[.slice (some ⟨g, 0, none⟩) l.length cap]).run Tryd.prog w.drew = .ok (.pointer (some ⟨g, 0, none⟩)) w.drew :=
  Lib.run_unsafeSliceData_row _ _ _ _ _ _ (by omega)
 have hUS : (Builtin.unsafeString_ #[106, 3] 9 #[.pointer (some ⟨g, 0, none⟩), .int .i64 l.length]).run Tryd.prog w.drew = .ok (.string ⟨l.toArray⟩) (w.drew.freeze ⟨g, 0, none⟩ l.length) := by
  refine Lib.run_unsafeString_row w.drew 106 3 9 5 Tryd.underlying106 Tryd.cellsByte g cur.size (by have hg' : w.drew.heap[g]? = some (.cells cur 5 (0, 0)) := hg; simp [World.shape?, hg']) l h0 (by omega) (by unfold maxLen at hcm; omega) ?_
  intro j x hx
  have := hown.cells (g := g) rfl j (.int .u8 x.toNat) (by simp [Lib.byteCells, hx])
  exact this
 go_enter Tryd.func56, Tryd.ntmps56
 go_wp2
 go_region
 all_goals (go_wp2; go_ret; exact ⟨rfl, Lib.below_freeze (Below.drew (Below.refl B w)) (p := ⟨g, 0, none⟩) hbg _⟩)
set_option maxHeartbeats 1000000 in
set_option maxRecDepth 100000 in
theorem Tryd.bCheck_used (b : Nat) (w : World) (h0 : w.cell? ⟨b, 0, none⟩ = some (.pointer (some ⟨b, 0, none⟩))) :
  Calls Tryd.prog 58 #[.pointer (some ⟨b, 0, none⟩)] w fun e w' => e = .returned (.tuple #[]) ∧ w' = w := by
 obtain ⟨j, hj, _⟩ := Option.map_eq_some_iff.1 Tryd.sizeBuilder
 go_enter Tryd.func58, Tryd.ntmps58
 go_wp2
 rw [Lib.run_neq_ptr_same w _ Tryd.underlying86 hj]
 go_wp2
 go_end0
 exact ⟨rfl, rfl⟩
set_option maxHeartbeats 1000000 in
set_option maxRecDepth 100000 in
theorem Tryd.bCheck_fresh (b : Nat) (w : World) (h0 : w.cell? ⟨b, 0, none⟩ = some (.pointer none)) (hsh : w.shape? b = some (89, 2)) (hfz : w.frozen? ⟨b, 0, none⟩ = false) :
  Calls Tryd.prog 58 #[.pointer (some ⟨b, 0, none⟩)] w fun e w' => e = .returned (.tuple #[]) ∧ w' = w.setCell ⟨b, 0, none⟩ (.pointer (some ⟨b, 0, none⟩)) := by
 obtain ⟨j, hj, hjs⟩ := Option.map_eq_some_iff.1 Tryd.sizeBuilder
 go_enter Tryd.func58, Tryd.ntmps58
 go_wp2
 rw [Lib.run_to_unsafe w ⟨b, 0, none⟩ Tryd.underlying86 Tryd.underlying108 hj (by rw [hjs]; decide) hsh (Nat.zero_lt_succ 1)]
 simp only [Result.andThen]
 rw [Oper.upon_value]
 go_wp2
 rw [run_callFunc_extern Tryd.func63 (by kernel_rfl) (by kernel_rfl) (by kernel_rfl) (e := Extern.AbiNoEscape.same) (by kernel_rfl)]
 rw [Lib.run_noEscape]
 simp only [Result.andThen]
 rw [Oper.upon_value]
 go_wp2
 rw [Lib.run_from_unsafe w ⟨b, 0, none⟩ Tryd.underlying108 Tryd.underlying86 hj hsh Tryd.liesBuilder]
 simp only [Result.andThen]
 rw [Oper.upon_value]
 go_wp2
 go_end0
 exact ⟨rfl, rfl⟩
theorem Tryd.bCheck (B b : Nat) (bs : List Value) (w : World) (h : Lib.IsBuilder 89 5 B b bs w) :
  Calls Tryd.prog 58 #[.pointer (some ⟨b, 0, none⟩)] w fun e w' => e = .returned (.tuple #[]) ∧ (Lib.BuilderAt 89 5 B b (.pointer (some ⟨b, 0, none⟩)) bs w' ∧ Below B w w') := by
 rcases h with h | h
 ·refine (Tryd.bCheck_fresh b w h.cell0 h.shape h.frozen0).mono ?_
  rintro e w' ⟨rfl, rfl⟩
  exact ⟨rfl, h.used _, (Below.refl B w).setCell (p := ⟨b, 0, none⟩) h.1 _⟩
 ·refine (Tryd.bCheck_used b w h.cell0).mono ?_
  rintro e w' ⟨rfl, rfl⟩
  exact ⟨rfl, h, Below.refl B _⟩
set_option maxHeartbeats 2000000 in
set_option maxRecDepth 100000 in
theorem Tryd.bWrite (B b : Nat) (bs : List Value) (s : ByteArray) (w : World) (h : Lib.IsBuilder 89 5 B b bs w) (hlen : bs.length + s.size ≤ 140737488355328) (hBw : B ≤ w.heap.size) :
  Calls Tryd.prog 54 #[.pointer (some ⟨b, 0, none⟩), .string s] w fun e w' => e = .returned (.tuple #[.int .i64 s.size, .nilIface]) ∧ (Lib.BuilderAt 89 5 B b (.pointer (some ⟨b, 0, none⟩)) (bs ++ Lib.strCells s) w' ∧ Below B w w') := by
 obtain ⟨i0, hi, hz0, hz1, hz2⟩ := info_parts Tryd.infoByte
 go_enter Tryd.func54, Tryd.ntmps54
 go_wp2_with (go_at_call 58; refine (Tryd.bCheck B b bs _ h).mono ?_)
 rintro e w1 ⟨rfl, h1, hb1⟩
 obtain ⟨hB, v, hbk, hown, hne⟩ := h1
 have c0 : w1.cell? ⟨b, 0, none⟩ = some (.pointer (some ⟨b, 0, none⟩)) := by rw [Lib.cell_of_heap hbk]; rfl
 have c1 : w1.cell? ⟨b, 1, none⟩ = some v := by rw [Lib.cell_of_heap hbk]; rfl
 go_wp2_with (at_builtin; refine Lib.wpList_append_own_string _ rfl _ _ 87 9 rfl B 5 i0 Tryd.underlying87 Tryd.underlying9 hi hz0 hz1 hz2 _ _ _ rfl hown s rfl ?c3 ?c4 ?c5 ?_)
 case c3 => unfold maxLen; omega
 case c4 => omega
 case c5 => have := hb1.size; omega
 intro v' w2 hown' hgrow _
 have hlt : b < w1.heap.size := by
  rcases Nat.lt_or_ge b w1.heap.size with h' | h'
  ·exact h'
  ·simp [Array.getElem?_eq_none h'] at hbk
 have hb2 : w2.heap[b]? = some (.cells #[.pointer (some ⟨b, 0, none⟩), v] 89 (0, 0)) := by
  rw [hgrow.block b hlt (fun e => hne e.symm)]
  exact hbk
 have d0 : w2.cell? ⟨b, 0, none⟩ = some (.pointer (some ⟨b, 0, none⟩)) := by rw [Lib.cell_of_heap hb2]; rfl
 have d1 : w2.cell? ⟨b, 1, none⟩ = some v := by rw [Lib.cell_of_heap hb2]; rfl
 have f1 : w2.frozen? ⟨b, 1, none⟩ = false := Lib.frozen_of_heap hb2 1
 obtain ⟨ao, n', cap, rfl⟩ : ∃ ao n' cap, v' = .slice ao n' cap := by
  rcases hown'.2 with ⟨hv, _⟩ | ⟨g, cap, cur, hv, _⟩
  ·exact ⟨_, _, _, hv⟩
  ·exact ⟨_, _, _, hv⟩
 go_wp2
 go_ret2
 refine ⟨rfl, ?_, ?_⟩
 ·exact Lib.BuilderAt.put (T := 89) (e := 5) hB hb2 (bs' := bs ++ Lib.strCells s) (by simpa [Lib.strCells_length] using hown') (by decide)
 ·exact (hb1.grown hgrow (by have := hb1.size; omega) (fun k hk => (hown.lt k hk).1)).setCell (p := ⟨b, 1, none⟩) hB _
end Go.Proofs
end

section
namespace Go.Ab
def pieces (n : Nat) : List (List UInt8) := if h : n = 0 then [] else digK 9 (n % 1000000000) :: pieces (n / 1000000000)
termination_by n
decreasing_by exact Nat.div_lt_self (Nat.pos_of_ne_zero h) (by decide)
theorem pieces_zero : pieces 0 = [] := by unfold pieces; simp
theorem pieces_pos {n : Nat} (h : n ≠ 0) : pieces n = digK 9 (n % 1000000000) :: pieces (n / 1000000000) := by
 conv => lhs; unfold pieces
 rw [dif_neg h]
def rowsS (l : List (List UInt8)) : List (List AV) := l.map fun s => [.s s]
@[simp] theorem rowsS_length (l : List (List UInt8)) : (rowsS l).length = l.length := by simp [rowsS]
@[simp] theorem rowsS_wk (l : List (List UInt8)) : wkL (rowsS l) = rowsS l := by
 induction l with
 | nil => rfl
 | cons x l ih => simpa [rowsS, wkL, wkR] using ih
@[simp] theorem rowsS_rf (l : List (List UInt8)) : ((rowsS l).flatMap fun r => r.flatMap rfA) = [] := by
 induction l with
 | nil => rfl
 | cons x l ih => simp [rowsS, rfA]
theorem rowsS_app (l : List (List UInt8)) (s : List UInt8) : rowsS l ++ [[.s s]] = rowsS (l ++ [s]) := by simp [rowsS]
def txL : AX :=
 (.note
 (.seq
 (.seq
  (.reg [⟨(some 11), none, .mov (.t 0)⟩,
   ⟨(some 12), none, .call 70 [(.t 11)]⟩,
   ⟨(some 13), none, .un .not (.t 12)⟩])
  (.cond (.t 13)
  .skip
  (.exit 0)))
 (.block 1
  (.seq
  (.reg [⟨(some 15), none, .mov (.t 0)⟩,
   ⟨(some 16), none, .call 90 [(.t 15), (.c (u32 1000000000))]⟩,
   ⟨(some 14), none, .mov (.t 16)⟩,
   ⟨(some 17), none, .ext (.t 14) 0⟩,
   ⟨(some 18), none, .ext (.t 14) 1⟩,
   ⟨(some 19), none, .ext (.t 14) 2⟩,
   ⟨(some 4), none, .mov (.t 17)⟩,
   ⟨(some 5), none, .mov (.t 18)⟩,
   ⟨(some 6), none, .mov (.t 19)⟩])
  (.seq
   (.reg [⟨(some 20), none, .mov (.t 3)⟩,
    ⟨(some 21), none, .mov (.t 5)⟩,
    ⟨(some 22), none, .call 101 [(.t 21)]⟩,
    ⟨(some 23), none, .bsl 1 [(.s [])] 1 [(0, (.t 22))]⟩,
    ⟨(some 24), none, .app 1 (.t 20) (.t 23)⟩,
    ⟨(some 3), none, .mov (.t 24)⟩])
   (.reg [⟨(some 25), none, .mov (.t 4)⟩,
    ⟨(some 0), none, .mov (.t 25)⟩])))))
 (.norm false [0, 3]))
def tx0 : AX := (.reg [⟨(some 2), none, .mov (.c (.s []))⟩])
def txA : AX :=
  (.seq
  (.reg [⟨(some 9), none, .mov (.t 0)⟩,
   ⟨(some 10), none, .call 70 [(.t 9)]⟩])
  (.cond (.t 10)
   (.seq
   (.reg [⟨(some 2), none, .mov (.c (.s [48]))⟩])
   (.pre (.norm false [2]) .ret))
   .skip))
def tx3 : AX := (.note (.reg [⟨(some 3), none, .mov (.c (.sl [] .nl))⟩]) (.nil 3 1))
def txP : AX := (.lp 0 (.norm false [0, 3]) txL (.norm false [3]))
section
variable {T : Tbl}
theorem txt_0 (x : AV) : evX (orc T) T 0 tx0 ⟨argEnv [x], [], 1⟩ = some (.n, ⟨[(2, .s []), (0, x)], [], 1⟩) := by
 simp -implicitDefEqProofs [tx0]
end
section
variable {T : Tbl} [CNat T]
theorem txt_A0 (a : List UInt32) (hl : a.length ≤ 1000) (h0 : val a = 0) : evX (orc T) T 0 txA ⟨[(2, .s []), (0, .sl (u32s a) .an)], [], 1⟩ = some (.r, ⟨[(2, .s [48])], [], 2⟩) := by
 have hz := nat_zero (T := T) a (by omega)
 simp -implicitDefEqProofs [txA, hz, h0]
end
section
variable {T : Tbl} [CNat T]
theorem txt_A1 (a : List UInt32) (hl : a.length ≤ 1000) (h0 : val a ≠ 0) : evX (orc T) T 0 txA ⟨[(2, .s []), (0, .sl (u32s a) .an)], [], 1⟩ =
  some (.n, ⟨[(10, .b false), (9, .sl (u32s a) .an), (2, .s []), (0, .sl (u32s a) .an)], [], 1⟩) := by
 have hz := nat_zero (T := T) a (by omega)
 simp -implicitDefEqProofs [txA, hz, h0]
end
section
variable {T : Tbl} [CNat T] [CProd T] [CTwos T] [CQuot T] [CDigits T]
def stTp (a : List UInt32) (l : List (List UInt8)) : St := ⟨[(0, .sl (u32s a) .an), (3, .bs (.loc 3) 1 1 0 l.length)], [((.loc 3), ⟨1, .own, 1, rowsS l⟩)], 3⟩
theorem rowsS_take (l : List (List UInt8)) (s : List UInt8) : wkL (List.take l.length (rowsS l) ++ [[AV.s s]]) = rowsS (l ++ [s]) := by
 rw [List.take_of_length_le (by simp), rowsS_app, rowsS_wk]
end
section
variable {T : Tbl} [CNat T] [CQuot T] [CDigits T]
theorem txt_loop (N : Nat) (hN : N ≤ 4294967295) (L : List (List UInt8)) : ∀ y : List UInt32 × List (List UInt8), (y.1.length ≤ 1000 ∧ y.2 ++ pieces (val y.1) = L ∧ L.length = N) →
  loopN T 0 0 (Gh.norm false [3]) txL (stTp y.1 y.2) = some (.n, ⟨[(3, .bs (.loc 3) 1 1 0 L.length)], [((.loc 3), ⟨1, .own, 1, rowsS L⟩)], 3⟩) := by
 refine loopN_eq (fun y : List UInt32 × List (List UInt8) => stTp y.1 y.2) _ (fun y => val y.1) _ ?_
 rintro ⟨a, l⟩ ⟨ha, hL, hn⟩
 simp only at ha hL hn
 have hz := nat_zero (T := T) a (by omega)
 by_cases h0 : val a = 0
 ·right
  rw [h0, pieces_zero, List.append_nil] at hL
  subst hL
  constructor <;> simp -implicitDefEqProofs [txL, stTp, hz, h0]
 ·left
  have hq := quot_word (T := T) a 1000000000 (by omega) (by omega) (by omega)
  have hn9 := digits_nine (T := T) (val a % 1000000000) (by omega)
  have hlen : (ofN (val a / 1000000000)).length ≤ a.length := Nat.le_trans (ofN_len_le (Nat.div_le_self _ _)) (ofN_length_le a)
  rw [pieces_pos h0] at hL
  have hll : l.length ≤ 4294967295 := by have := congrArg List.length hL; simp at this; omega
  refine ⟨(ofN (val a / 1000000000), l ++ [digK 9 (val a % 1000000000)]), ⟨by simp only; omega, by simp only [val_ofN, List.append_assoc, List.singleton_append]; exact hL, hn⟩, ?_, ?_, rfl⟩
  ·simp only [val_ofN]
   exact Nat.div_lt_self (Nat.pos_of_ne_zero h0) (by decide)
  ·simp -implicitDefEqProofs [txL, stTp, hz, hq, hn9, h0, hll, rowsS_take]
end
section
variable {T : Tbl} [CNat T] [CProd T] [CTwos T] [CQuot T] [CDigits T]
theorem pieces_length : ∀ k n, n < 1000000000 ^ k → (pieces n).length ≤ k
 | 0, n, h => by
  have : n = 0 := by omega
  subst this
  simp [pieces_zero]
 | k + 1, n, h => by
  by_cases h0 : n = 0
  ·subst h0; simp [pieces_zero]
  ·rw [pieces_pos h0]
   have := pieces_length k (n / 1000000000) (Nat.div_lt_of_lt_mul (by rw [Nat.mul_comm, ← Nat.pow_succ]; exact h))
   simp only [List.length_cons]
   omega
theorem pieces_le (a : List UInt32) : (pieces (val a)).length ≤ 2 * a.length := by
 refine pieces_length _ _ (Nat.lt_of_lt_of_le (val_lt a) ?_)
 rw [Nat.pow_mul]
 exact Nat.pow_le_pow_left (by decide) _
theorem pieces_nine : ∀ n, ∀ s ∈ pieces n, s.length = 9 := by
 intro n
 induction n using Nat.strongRecOn with
 | _ n ih =>
  intro s hs
  by_cases h0 : n = 0
  ·subst h0; simp [pieces_zero] at hs
  ·rw [pieces_pos h0] at hs
   rcases List.mem_cons.1 hs with rfl | hs
   ·exact digK_length 9 _
   ·exact ih _ (Nat.div_lt_self (Nat.pos_of_ne_zero h0) (by decide)) s hs
theorem digK_textN : ∀ (k n : Nat), n ≠ 0 → n < 10 ^ k → (digK k n).dropWhile (· == 48) = textN n
 | 0, n, h0, h => by omega
 | k + 1, n, h0, h => by
  rw [digK_succ]
  by_cases h1 : n < 10
  ·have e : n / 10 = 0 := by omega
   have e2 : n % 10 = n := by omega
   have hz : ∀ j, (digK j 0).dropWhile (· == 48) = [] := by
    intro j
    induction j with
    | zero => rfl
    | succ j ih => rw [digK_succ, List.dropWhile_append, Nat.zero_div, ih]; rfl
   rw [e, e2, List.dropWhile_append, hz, textN_small h1]
   have : ∀ d, d < 10 → d ≠ 0 → List.dropWhile (fun x => x == 48) [UInt8.ofNat (48 + d)] = [UInt8.ofNat (48 + d)] := by decide
   simpa using this n h1 h0
  ·have ih := digK_textN k (n / 10) (by omega) (Nat.div_lt_of_lt_mul (by rw [Nat.mul_comm, ← Nat.pow_succ]; exact h))
   have hne : textN (n / 10) ≠ [] := by
    unfold textN
    by_cases h2 : n / 10 < 10
    ·rw [digs_small h2]; simp
    ·rw [digs_big h2]; simp
   rw [List.dropWhile_append, ih, textN_big h1]
   rw [if_neg (by simpa using hne)]
theorem digK_add (j : Nat) : ∀ (k n : Nat), digK (j + k) n = digK j (n / 10 ^ k) ++ digK k (n % 10 ^ k)
 | 0, n => by simp [digK_zero]
 | k + 1, n => by
  rw [← Nat.add_assoc, digK_succ, digK_add j k (n / 10), digK_succ, List.append_assoc]
  have e1 : n / 10 / 10 ^ k = n / 10 ^ (k + 1) := by rw [Nat.div_div_eq_div_mul, Nat.pow_succ, Nat.mul_comm]
  have e2 : n / 10 % 10 ^ k = n % 10 ^ (k + 1) / 10 := by rw [Nat.pow_succ, Nat.mul_comm, Nat.mod_mul_right_div_self]
  have e3 : n % 10 ^ (k + 1) % 10 = n % 10 := by rw [Nat.pow_succ, Nat.mod_mul_left_mod]
  rw [e1, e2, e3]
theorem pieces_join : ∀ n, (pieces n).reverse.flatten = digK (9 * (pieces n).length) n := by
 intro n
 induction n using Nat.strongRecOn with
 | _ n ih =>
  by_cases h0 : n = 0
  ·subst h0; simp [pieces_zero, digK_zero]
  ·rw [pieces_pos h0, List.reverse_cons, List.flatten_append, ih _ (Nat.div_lt_self (Nat.pos_of_ne_zero h0) (by decide))]
   simp only [List.length_cons, List.flatten_cons, List.flatten_nil, List.append_nil]
   rw [show 9 * ((pieces (n / 1000000000)).length + 1) = 9 * (pieces (n / 1000000000)).length + 9 by omega, digK_add]
theorem pieces_lt : ∀ n, n < 10 ^ (9 * (pieces n).length) := by
 intro n
 induction n using Nat.strongRecOn with
 | _ n ih =>
  by_cases h0 : n = 0
  ·subst h0; simp [pieces_zero]
  ·have h := ih _ (Nat.div_lt_self (Nat.pos_of_ne_zero h0) (by decide : 1 < 1000000000))
   rw [pieces_pos h0, List.length_cons, Nat.mul_add, Nat.pow_add]
   exact (Nat.div_lt_iff_lt_mul (by decide : 0 < 10 ^ (9 * 1))).1 h
theorem pieces_text (n : Nat) (h : n ≠ 0) : ((pieces n).reverse.flatten).dropWhile (· == 48) = textN n := by
 rw [pieces_join]
 exact digK_textN _ n h (pieces_lt n)
theorem flatten_nine : ∀ (l : List (List UInt8)), (∀ s ∈ l, s.length = 9) → l.flatten.length = 9 * l.length
 | [], _ => rfl
 | s :: l, h => by
  rw [List.flatten_cons, List.length_append, h s List.mem_cons_self, flatten_nine l fun s hs => h s (List.mem_cons_of_mem _ hs), List.length_cons]
  omega
def stT3 (a : List UInt32) : St := ⟨[(3, .bs (.loc 3) 1 1 0 0), (3, .sl [] .nl), (10, .b false), (9, .sl (u32s a) .an), (2, .s []), (0, .sl (u32s a) .an)], [(.loc 3, ⟨1, .own, 1, []⟩)], 2⟩
end
section
variable {T : Tbl}
theorem txt_3 (a : List UInt32) : evX (orc T) T 0 tx3 ⟨[(10, .b false), (9, .sl (u32s a) .an), (2, .s []), (0, .sl (u32s a) .an)], [], 1⟩ = some (.n, stT3 a) := by
 simp -implicitDefEqProofs [tx3, stT3]
end
section
variable {T : Tbl} [CNat T] [CQuot T] [CDigits T]
theorem txt_P (a : List UInt32) (hl : a.length ≤ 1000) : evX (orc T) T 0 txP (stT3 a) =
  some (.n, ⟨[(3, .bs (.loc 3) 1 1 0 (pieces (val a)).length)], [((.loc 3), ⟨1, .own, 1, rowsS (pieces (val a))⟩)], 3⟩) := by
 have hp := pieces_le a
 have h := txt_loop (T := T) (pieces (val a)).length (by omega) (pieces (val a)) (a, []) ⟨by simpa using hl, rfl, rfl⟩
 unfold stTp at h
 simp [rowsS] at h
 simp -implicitDefEqProofs [stT3, txP, h, rowsS]
end
end Go.Ab
end

section
namespace Go.Ab
section
variable {T : Tbl}
theorem trimL_loop (res : List UInt8) : ∀ l : List UInt8, (l.length ≤ 1000000 ∧ l.dropWhile (· == 48) = res) →
  loopN T 0 0 (.norm false [0]) l125_0 ⟨[(0, .s l), (1, u8 48)], [], 2⟩ = some (.n, ⟨[(0, .s res)], [], 2⟩) := by
 refine loopN_eq (fun l : List UInt8 => ⟨[(0, .s l), (1, u8 48)], [], 2⟩) _ (fun l => l.length) _ ?_
 rintro l ⟨hl, hr⟩
 cases l with
 | nil =>
  right
  simp at hr
  subst hr
  constructor <;> simp -implicitDefEqProofs [l125_0]
 | cons c r =>
  simp only [List.length_cons] at hl
  have h2 : (0 : Int) < (r.length : Int) + 1 := by omega
  have h3 : (1 : Int) ≤ (r.length : Int) + 1 := by omega
  by_cases hc : c = 48
  ·left
   subst hc
   rw [List.dropWhile_cons_of_pos (by decide)] at hr
   exact ⟨r, ⟨by omega, hr⟩, Nat.lt_succ_self _, by simp -implicitDefEqProofs [l125_0, h2, h3], rfl⟩
  ·right
   rw [List.dropWhile_cons_of_neg (by simpa using hc)] at hr
   subst hr
   have hc' : ¬ c.toNat = 48 := fun h => hc (UInt8.toNat_inj.1 h)
   constructor <;> simp -implicitDefEqProofs [l125_0, h2, hc']
end
section
variable {T : Tbl} [CTrim T]
theorem trim_left (l : List UInt8) (hl : l.length ≤ 1000000) : callF T 103 [.s l, .s [48]] = some (.s (l.dropWhile (· == 48))) := by
 have h := trimL_loop (T := T) _ l ⟨hl, rfl⟩
 have h1 : callF T 125 [.s l, u8 48] = some (.s (l.dropWhile (· == 48))) := by
  rw [f125 _ rfl, b125]
  simp -implicitDefEqProofs [h]
 obtain ⟨Z, hZ⟩ : ∃ Z, b103 = (.seq
 (.reg [⟨(some 4), none, .mov (.c (.s []))⟩])
 (.seq
  (.seq
  (.reg [⟨(some 7), none, .mov (.t 0)⟩,
   ⟨(some 8), none, .bin .eql (.t 7) (.c (.s []))⟩,
   ⟨(some 9), none, .mov (.t 8)⟩,
   ⟨(some 10), (some (9, false)), .mov (.t 1)⟩,
   ⟨(some 11), (some (9, false)), .bin .eql (.t 10) (.c (.s []))⟩,
   ⟨(some 12), none, .pick (.t 9) (.c (.b true)) (.t 11)⟩])
  (.cond (.t 12)
   (.seq
   (.reg [⟨(some 13), none, .mov (.t 0)⟩,
    ⟨(some 4), none, .mov (.t 13)⟩])
   (.pre (.norm false [4]) .ret))
   .skip))
  (.seq
  (.seq
   (.reg [⟨(some 14), none, .mov (.t 1)⟩,
    ⟨(some 15), none, .lens (.t 14)⟩,
    ⟨(some 16), none, .bin .eql (.t 15) (.c (.i .i64 1))⟩,
    ⟨(some 17), none, .mov (.t 16)⟩,
    ⟨(some 18), (some (17, true)), .mov (.t 1)⟩,
    ⟨(some 19), (some (17, true)), .ixs (.t 18) (.c (.i .i64 0))⟩,
    ⟨(some 20), (some (17, true)), .bin .lss (.t 19) (.c (u8 128))⟩,
    ⟨(some 21), none, .pick (.t 17) (.t 20) (.c (.b false))⟩])
   (.cond (.t 21)
   (.seq
    (.reg [⟨(some 22), none, .mov (.t 0)⟩,
     ⟨(some 23), none, .mov (.t 1)⟩,
     ⟨(some 24), none, .ixs (.t 23) (.c (.i .i64 0))⟩,
     ⟨(some 25), none, .call 125 [(.t 22), (.t 24)]⟩,
     ⟨(some 4), none, .mov (.t 25)⟩])
    (.pre (.norm false [4]) .ret))
   .skip)) Z)) : AX) := ⟨_, rfl⟩
 rw [f103 _ rfl, hZ]
 by_cases h0 : l = []
 ·subst h0
  simp -implicitDefEqProofs
 ·simp -implicitDefEqProofs [h0, h1]
end
end Go.Ab
end

section
namespace Go.Ab
variable {P : Program} {ν : Nat → FuncId} {T : Tbl}
theorem ev_wp (hT : TOk P ν T) (hm : P.follows .mixedOrders = true) {cx : Cx} (hP : cx.P = P) (hk : cx.clk0 = 1) (c : AX) {code : Code} {nt : Nat} (hnt : cx.nt = nt) (hres : resCode P nt code = some (er ν (tyNum T) c)) {st : St} {e : Ex} {st' : St}
  (h : evX (orc T) T 0 c st = some (e, st')) {a : Act} {w : World} (hr : Rel cx st a w) {K : Exit → Act → World → Prop} (hK : ∀ a' w', Rel cx st' a' w' → K e.out a' w') : code.wp P K a w := by
 obtain ⟨L, h1, h2⟩ := evX_fin T 0 c st _ _ h
 obtain ⟨n, hn⟩ := orc_all T h1
 have hev := evX_sound (GoodO.orcN hT hm n) (k := 0) (cx := cx) hP hk c st e st' (h2 _ hn)
 subst hP hnt
 refine wp_mono (hev code hres hm a w hr) ?_
 rintro ex a' w' ⟨s, ⟨rfl, rfl⟩, hr'⟩
 exact hK a' w' hr'
theorem start_rel {nt : Nat} {w : World} {S : Nat → Nat → Prop} {cargs : Array Value} {args : List AV} (hl : cargs.size = args.length) (hn : args.length ≤ nt)
  (hC : ∀ (j : Nat) (v : Value) (c : AV), cargs[j]? = some v → args[j]? = some c → CP w S v c) (hS : ∀ k o, S k o → k < w.heap.size) :
  Rel ⟨P, nt, w, S, fun _ => none, 1⟩ ⟨argEnv args, [], 1⟩ { tmps := cargs ++ Array.replicate (nt - cargs.size) undef, defers := [] } w := by
 refine ⟨S, fun _ => none, by simp; omega, rfl, fun t => ?_, ⟨⟨fun b bx hb => (by simp at hb), fun g m hm => (by cases hm), fun b bx b' bx' h1 => (by simp at h1), fun g g' k h1 => (by cases h1)⟩,
  Ext.refl _ _ _ _, ⟨rfl, rfl, rfl, Nat.le_refl _, fun _ _ _ => rfl⟩, fun k o hs => .inl hs, hS, fun g k hm => (by cases hm)⟩⟩
 rw [argEnv_get]
 cases ha : args[t]? with
 | none => exact .p (.dead _)
 | some x =>
  have htl := get_lt ha
  have hv : cargs[t]? = some (cargs[t]'(by omega)) := Array.getElem?_eq_getElem _
  have e1 : (cargs ++ Array.replicate (nt - cargs.size) undef).getD t undef = cargs[t]'(by omega) := by
   simp only [Array.getD_eq_getD_getElem?]
   rw [Array.getElem?_append_left (by omega), hv]
   rfl
  rw [e1]
  exact .p (hC t _ x hv ha)
theorem Rel.below {nt : Nat} {w0 : World} {S : Nat → Nat → Prop} {st : St} {a : Act} {w : World} (h : Rel ⟨P, nt, w0, S, fun _ => none, 1⟩ st a w) : RowKit.Below w0.heap.size w0 w := by
 obtain ⟨S', M', hr⟩ := h
 exact ⟨hr.wr.fr.os, hr.wr.fr.tape, hr.wr.fr.output, hr.wr.fr.size, fun k hk => hr.wr.fr.block k hk fun ⟨g, hg⟩ => (by cases hg)⟩
theorem Rel.strAt {cx : Cx} {st : St} {a : Act} {w : World} (h : Rel cx st a w) {t : Nat} {l : List UInt8} (he : st.env.get t = .s l) : a.tmps.getD t undef = .string ⟨l.toArray⟩ := by
 obtain ⟨S', M', hr⟩ := h
 have := hr.env t
 rw [he] at this
 generalize a.tmps.getD t undef = v at *
 cases this with
 | p h => cases h; rfl
theorem Rel.strs {cx : Cx} {st : St} {a : Act} {w : World} (h : Rel cx st a w) {t : Nat} {b : BId} {g n : Nat} {ls : List (List UInt8)} (hne : ls ≠ []) (he : st.env.get t = .bs b g 1 0 n)
  (hb : st.heap.lookup b = some ⟨g, .own, 1, ls.map fun s => [.s s]⟩) : ∃ k arr e cap, a.tmps.getD t undef = .slice (some ⟨k, 0, none⟩) n cap ∧ w.heap[k]? = some (.cells arr e (0, 0)) ∧ n ≤ cap ∧ cap ≤ maxLen ∧ cap ≤ arr.size ∧
   ∀ (i : Nat) (s : List UInt8), ls[i]? = some s → arr[i]? = some (Value.string ⟨s.toArray⟩) := by
 obtain ⟨S', M', hr⟩ := h
 have h1 := hr.env t
 rw [he] at h1
 obtain ⟨_, _, m, hm, h2⟩ := hr.wr.heap.box b _ hb
 simp only at hm h2
 generalize a.tmps.getD t undef = v at *
 cases h1 with
 | p h => cases h
 | bs _ _ _ _ _ _ hg hB h1 =>
  unfold BsOk at hB
  rw [hm] at hB
  cases m with
  | none => exact absurd (by simpa using h2.1) hne
  | some k =>
   obtain ⟨arr, e, cap, hk, hv, c1, c2, c3⟩ := hB
   obtain ⟨arr', e', hk', _, hcells, _⟩ := h2
   rw [hk] at hk'
   cases hk'
   refine ⟨k, arr, e, cap, by rw [hv], hk, c1, c2, by omega, fun i s hi => ?_⟩
   obtain ⟨u, hu, _, _, hc⟩ := hcells i [.s s] 0 (.s s) (by simp [hi]) rfl
   have := hc (by simp)
   rw [Nat.mul_one, Nat.add_zero] at hu
   cases this
   exact hu
end Go.Ab
end

section
namespace Go.Proofs.YtegcbhlfmmgmhaaDoor
open Go Go.Ab Go.RowKit
theorem list_cons {α : Type} {n : Nat} {l : List α} (h : l.length = n + 1) : ∃ x t, l = x :: t ∧ t.length = n := by
 cases l with
 | nil => simp at h
 | cons x t => exact ⟨x, t, rfl, by simpa using h⟩
set_option maxHeartbeats 2000000 in
set_option maxRecDepth 100000 in
theorem text_calls (hm : Tryd.prog.follows .mixedOrders = true) (a : List UInt32) (hl : a.length ≤ 1000) {w0 : World} {S : Nat → Nat → Prop} {cargs : Array Value} (hsz : cargs.size = 1)
  (hC : ∀ (j : Nat) (v : Value) (c : AV), cargs[j]? = some v → [AV.sl (u32s a) .an][j]? = some c → CP w0 S v c) (hS : ∀ k o, S k o → k < w0.heap.size) :
  Calls Tryd.prog 50 cargs w0 fun e w' => e = .returned (.string ⟨(textN (val a)).toArray⟩) ∧ Below w0.heap.size w0 w' := by
 refine calls_of_wp Tryd.func50 rfl ?_
 have h0 := start_rel (P := Tryd.prog) (nt := 40) (w := w0) (S := S) (cargs := cargs) (args := [AV.sl (u32s a) .an]) (by simpa using hsz) (by simp) hC hS
 refine wp_seq (ev_wp sTab_ok hm (cx := ⟨Tryd.prog, 40, w0, S, fun _ => none, 1⟩) rfl rfl tx0 (nt := 40) rfl (by kernel_rfl) (sTab_part.ev (by kernel_rfl) (txt_0 (T := tab) _)) h0 fun a1 w1 h1 => ?_)
 refine wp_seq ?_
 by_cases hz : val a = 0
 ·refine ev_wp sTab_ok hm (cx := ⟨Tryd.prog, 40, w0, S, fun _ => none, 1⟩) rfl rfl txA (nt := 40) rfl (by kernel_rfl) (sTab_part.ev (by kernel_rfl) (txt_A0 (T := tab) a hl hz)) h1 fun a2 w2 h2 => ?_
  have hv := h2.strAt (t := 2) (l := [48]) rfl
  have hb := h2.below
  have ht : textN (val a) = [48] := by rw [hz]; exact textN_small (by decide)
  obtain ⟨_, _, hr2⟩ := h2
  refine (show bodyPost Tryd.prog Tryd.f50 (fun e w' => e = .returned (.string ⟨(textN (val a)).toArray⟩) ∧ Below w0.heap.size w0 w') .ret a2 w2 from ?_)
  refine ⟨hr2.defers, .string ⟨[48].toArray⟩, ?_, by rw [ht], hb⟩
  rw [← hv]
  exact results_tmp rfl _ _ _
 ·refine ev_wp sTab_ok hm (cx := ⟨Tryd.prog, 40, w0, S, fun _ => none, 1⟩) rfl rfl txA (nt := 40) rfl (by kernel_rfl) (sTab_part.ev (by kernel_rfl) (txt_A1 (T := tab) a hl hz)) h1 fun a2 w2 h2 => ?_
  refine wp_seq (ev_wp sTab_ok hm (cx := ⟨Tryd.prog, 40, w0, S, fun _ => none, 1⟩) rfl rfl tx3 (nt := 40) rfl (by kernel_rfl) (sTab_part.ev (by kernel_rfl) (txt_3 (T := tab) a)) h2 fun a3 w3 h3 => ?_)
  refine wp_seq (ev_wp sTab_ok hm (cx := ⟨Tryd.prog, 40, w0, S, fun _ => none, 1⟩) rfl rfl txP (nt := 40) rfl (by kernel_rfl) (sTab_part.ev (by kernel_rfl) (txt_P (T := tab) a hl)) h3 fun a4 w4 h4 => ?_)
  have hb4 := h4.below
  have hne : pieces (val a) ≠ [] := by rw [pieces_pos hz]; simp
  obtain ⟨k, arr, e, cap, hv, hk, hc1, hc2, hc3, hcells⟩ := h4.strs (t := 3) (ls := pieces (val a)) hne rfl (by simp [rowsS])
  obtain ⟨_, _, hr4⟩ := h4
  have hdf := hr4.defers
  have hsz := hr4.size
  have hpl := pieces_le a
  clear hr4 h0 h1 h2 h3
  change Code.wp _ _ _ a4 w4
  obtain ⟨tm, df⟩ := a4
  obtain ⟨l, rfl⟩ : ∃ l : List Value, tm = l.toArray := ⟨tm.toList, by simp⟩
  simp only [List.size_toArray] at hsz
  simp only at hdf
  subst hdf
  obtain ⟨x0, l0, rfl, s0⟩ := list_cons hsz
  obtain ⟨x1, l1, rfl, s1⟩ := list_cons s0
  obtain ⟨x2, l2, rfl, s2⟩ := list_cons s1
  obtain ⟨x3, l3, rfl, s3⟩ := list_cons s2
  obtain ⟨x4, l4, rfl, s4⟩ := list_cons s3
  obtain ⟨x5, l5, rfl, s5⟩ := list_cons s4
  obtain ⟨x6, l6, rfl, s6⟩ := list_cons s5
  obtain ⟨x7, l7, rfl, s7⟩ := list_cons s6
  obtain ⟨x8, l8, rfl, s8⟩ := list_cons s7
  obtain ⟨x9, l9, rfl, s9⟩ := list_cons s8
  obtain ⟨x10, l10, rfl, s10⟩ := list_cons s9
  obtain ⟨x11, l11, rfl, s11⟩ := list_cons s10
  obtain ⟨x12, l12, rfl, s12⟩ := list_cons s11
  obtain ⟨x13, l13, rfl, s13⟩ := list_cons s12
  obtain ⟨x14, l14, rfl, s14⟩ := list_cons s13
  obtain ⟨x15, l15, rfl, s15⟩ := list_cons s14
  obtain ⟨x16, l16, rfl, s16⟩ := list_cons s15
  obtain ⟨x17, l17, rfl, s17⟩ := list_cons s16
  obtain ⟨x18, l18, rfl, s18⟩ := list_cons s17
  obtain ⟨x19, l19, rfl, s19⟩ := list_cons s18
  obtain ⟨x20, l20, rfl, s20⟩ := list_cons s19
  obtain ⟨x21, l21, rfl, s21⟩ := list_cons s20
  obtain ⟨x22, l22, rfl, s22⟩ := list_cons s21
  obtain ⟨x23, l23, rfl, s23⟩ := list_cons s22
  obtain ⟨x24, l24, rfl, s24⟩ := list_cons s23
  obtain ⟨x25, l25, rfl, s25⟩ := list_cons s24
  obtain ⟨x26, l26, rfl, s26⟩ := list_cons s25
  obtain ⟨x27, l27, rfl, s27⟩ := list_cons s26
  obtain ⟨x28, l28, rfl, s28⟩ := list_cons s27
  obtain ⟨x29, l29, rfl, s29⟩ := list_cons s28
  obtain ⟨x30, l30, rfl, s30⟩ := list_cons s29
  obtain ⟨x31, l31, rfl, s31⟩ := list_cons s30
  obtain ⟨x32, l32, rfl, s32⟩ := list_cons s31
  obtain ⟨x33, l33, rfl, s33⟩ := list_cons s32
  obtain ⟨x34, l34, rfl, s34⟩ := list_cons s33
  obtain ⟨x35, l35, rfl, s35⟩ := list_cons s34
  obtain ⟨x36, l36, rfl, s36⟩ := list_cons s35
  obtain ⟨x37, l37, rfl, s37⟩ := list_cons s36
  obtain ⟨x38, l38, rfl, s38⟩ := list_cons s37
  obtain ⟨x39, l39, rfl, s39⟩ := list_cons s38
  cases List.eq_nil_of_length_eq_zero s39
  have hx3 : x3 = .slice (some ⟨k, 0, none⟩) (pieces (val a)).length cap := hv
  subst hx3
  have hjoin := pieces_text (val a) hz
  have hall := pieces_nine (val a)
  generalize pieces (val a) = ps at *
  have HC : Aside (∀ (i : Nat) (s : List UInt8), ps[i]? = some s → arr[i]? = some (Value.string ⟨s.toArray⟩)) := hcells
  have HJ : Aside (List.dropWhile (fun x => x == 48) ps.reverse.flatten = textN (val a)) := hjoin
  have HN : Aside (∀ s ∈ ps, s.length = 9) := hall
  have HB : Aside (Below w0.heap.size w0 w4) := hb4
  have HK : Aside (w4.heap[k]? = some (.cells arr e (0, 0))) := hk
  have hk4 : k < w4.heap.size := by
   rcases Nat.lt_or_ge k w4.heap.size with h' | h'
   ·exact h'
   ·simp [Array.getElem?_eq_none h'] at hk
  clear hcells hjoin hall hb4 hk
  go_wp2
  go_loopg [8] ps.length (fun g s8 wx => s8 = .int .i64 ((g : Int) - 1) ∧ g ≤ ps.length ∧ Aside (Lib.IsBuilder 89 5 w4.heap.size w4.heap.size (Lib.byteCells (ps.drop g).reverse.flatten) wx ∧ Below w4.heap.size w4 wx))
  case atStart => exact ⟨rfl, Nat.le_refl _, by rw [List.drop_length]; exact Lib.fresh_isBuilder 89 5 w4, (Below.refl _ _).alloc (Nat.le_refl _) _⟩
  case round =>
   obtain ⟨rfl, hg, HW⟩ := hrel
   cases gk with
   | zero =>
    obtain ⟨hBld, hBel⟩ := HW.out
    rw [List.drop_zero] at hBld
    have hne' : ps.reverse.flatten ≠ [] := by
     intro h
     have := flatten_nine ps.reverse (fun s hs => HN.out s (List.mem_reverse.1 hs))
     rw [h] at this
     simp at this
     exact hne (List.eq_nil_of_length_eq_zero (by omega))
    have HT : Aside (ps.reverse.flatten ≠ []) := hne'
    clear hne'
    have hlenF : ps.reverse.flatten.length ≤ 1000000 := by
     rw [flatten_nine ps.reverse (fun s hs => HN.out s (List.mem_reverse.1 hs)), List.length_reverse]
     omega
    have hT : ∀ W : World, Calls Tryd.prog 55 #[.string ⟨ps.reverse.flatten.toArray⟩, .string ⟨#[48]⟩] W fun e w' => e = .returned (.string ⟨(textN (val a)).toArray⟩) ∧ Below W.heap.size W w' := by
     intro W
     have h1 := callF_sound sTab_ok hm (u := 103) rfl rfl (sTab_part.call (by kernel_rfl) (trim_left (T := tab) ps.reverse.flatten hlenF))
     rw [HJ.out] at h1
     refine (h1.2 W (fun _ _ => False) #[.string ⟨ps.reverse.flatten.toArray⟩, .string ⟨#[48]⟩] rfl (fun j v c hv hc => ?_) (fun _ _ h => h.elim)).mono ?_
     ·match j, hv, hc with
      | 0, hv, hc => cases hv; cases hc; exact .s _
      | 1, hv, hc => cases hv; cases hc; exact .s _
     ·rintro e w' ⟨v, r, rfl, rfl, hb, hc⟩
      cases hc
      exact ⟨rfl, hb⟩
    have HTT := hT
    clear hT
    go_wp2_with (go_at_call 56; refine (Tryd.bString w4.heap.size w4.heap.size ps.reverse.flatten wr hBld HT.out).mono ?_)
    rintro e1 w5 ⟨rfl, hb5⟩
    go_wp2_with (go_at_call 55; refine (HTT w5).mono ?_)
    rintro e2 w6 ⟨rfl, hb6⟩
    go_wp2
    go_ret
    refine ⟨rfl, ?_⟩
    have hs1 := HB.out.size
    have hs5 := (hBel.trans hb5).size
    exact HB.out.trans (((hBel.trans hb5).mono hs1).trans (hb6.mono (by omega)))
   | succ j =>
    obtain ⟨hBld, hBel⟩ := HW.out
    obtain ⟨s, hs⟩ : ∃ s, ps[j]? = some s := ⟨_, List.getElem?_eq_getElem (by omega)⟩
    have hcell : wr.cell? ⟨k, j, none⟩ = some (.string ⟨s.toArray⟩) := by
     rw [hBel.cell (p := ⟨k, j, none⟩) hk4, Lib.cell_of_heap HK.out]
     exact HC.out j s hs
    have hs9 : s.length = 9 := HN.out s (List.mem_of_getElem? hs)
    have hflen := flatten_nine (ps.drop (j + 1)).reverse (fun s hs => HN.out s (List.mem_of_mem_drop (List.mem_reverse.1 hs)))
    have HS : Aside (ps[j]? = some s) := hs
    clear hs
    rw [List.length_reverse, List.length_drop] at hflen
    have hbound : (Lib.byteCells (ps.drop (j + 1)).reverse.flatten).length + (⟨s.toArray⟩ : ByteArray).size ≤ 140737488355328 := by
     rw [Lib.byteCells_length, hflen]
     show _ + s.toArray.size ≤ _
     simp only [List.size_toArray]
     omega
    have HF : Aside ((Lib.byteCells (ps.drop (j + 1)).reverse.flatten).length + (⟨s.toArray⟩ : ByteArray).size ≤ 140737488355328) := hbound
    clear hflen hbound
    go_wp2_with (go_at_call 54; refine (Tryd.bWrite w4.heap.size w4.heap.size _ ⟨s.toArray⟩ wr hBld HF.out hBel.size).mono ?_)
    rintro e1 w5 ⟨rfl, h5, hb5⟩
    go_wp2
    go_roundg j
    case measure => omega
    case rel =>
     refine ⟨by congr 1, by omega, ?_, hBel.trans hb5⟩
     have e1 : (ps.drop j).reverse.flatten = (ps.drop (j + 1)).reverse.flatten ++ s := by
      obtain ⟨hj, he⟩ := List.getElem?_eq_some_iff.1 HS.out
      rw [List.drop_eq_getElem_cons hj, he]
      simp
     rw [e1, Lib.byteCells_append]
     exact .inr h5
theorem word_rows : ∀ (els : List (List AV)) (l : List UInt32), els.mapM wordOf = some l → els = u32s l
 | [], l, h => by cases h; rfl
 | r :: els, l, h => by
  rw [List.mapM_cons] at h
  obtain ⟨x, hx, h1⟩ := bind_some h
  obtain ⟨y, hy, h2⟩ := bind_some h1
  cases h2
  rw [word_rows els y hy]
  unfold wordOf at hx
  split at hx
  ·split at hx
   ·cases hx
    rename_i n hn
    have : (w32 n.toNat).toNat = n.toNat := w32_of_lt (by omega)
    simp only [u32s, List.map_cons, this, u32]
    rw [Int.toNat_of_nonneg hn.1]
   ·cases hx
  ·cases hx
theorem text_ok (hm : Tryd.prog.follows .mixedOrders = true) : ∀ xs r, prim68 xs = some r → PCall Tryd.prog (nu 68) xs (· = r) := by
 intro xs r h
 unfold prim68 at h
 split at h
 ·split at h
  ·rename_i els hl
   cases hw : els.mapM wordOf with
   | none => rw [hw] at h; cases h
   | some l =>
    rw [hw] at h
    cases h
    have he := word_rows els l hw
    subst he
    rw [u32s_length] at hl
    refine ⟨enters_of Tryd.func50 (by kernel_rfl) rfl, fun w S cargs hsz hC hS => ?_⟩
    refine (text_calls hm l hl (by simpa using hsz) hC hS).mono ?_
    rintro e w' ⟨rfl, hb⟩
    exact ⟨_, _, rfl, rfl, hb, .s _⟩
  ·cases h
 ·cases h
#print axioms text_ok
end Go.Proofs.YtegcbhlfmmgmhaaDoor
end

section
namespace Go.Ab
open Go.ChangeShapes Go.WideShapes Go.ChangeAt Go.RowKit
theorem post_of_below {H : Type} {enc : TypeId × Value → H} {P : Program} {f : Func} {s : ChangeSpec} {apart fresh handsOn again : Bool} {W W' : World} {args : Array Value} {v : Value} {ds gs : List (DataW H)} {before pa pv : List MemPlace}
  (hW : DataW.Whole enc P f.params.toList s.vars apart W args.toList ds gs before)
  (hres : ∀ (b : Nat) (sp : Nat → Bool) (hd : Bool), DataW.TrodAll enc P W' b sp hd f.resultTypes.toList (v.resultList f.resultTypes.size) (s.fn H (ds ++ gs)).results [])
  (hargs : ∀ sp : Nat → Bool, (∀ p ∈ before, sp p.block = true) → DataW.TrodAll enc P W' 0 sp true f.params.toList args.toList (s.fn H (ds ++ gs)).args pa)
  (hvars : ∀ sp : Nat → Bool, (∀ p ∈ before, sp p.block = true) → DataW.TrodVars enc P W' sp s.vars (s.fn H (ds ++ gs)).vars pv)
  (hps : before = pa ++ pv) (hw : Below W.heap.size W W')
  (hok : ∀ (j : Nat) (t : TypeId) (r : Value), f.resultTypes[j]? = some t → (v.resultList f.resultTypes.size)[j]? = some r → Value.okWide P W' .any 0 t r) :
  s.post enc P f apart fresh handsOn again W args v W' := by
 have hold : ∀ p ∈ before, (fun b => decide (b < W.heap.size)) p.block = true := fun p hp => by simpa using hW.lt p hp
 have hlt : ∀ p ∈ before, p.block < W.heap.size := fun p hp => hW.lt p hp
 refine ⟨ds, gs, before, [], pa, pv, hW, hres _ _ _, hargs _ hold, hvars _ hold, World.keptBut_mono (fun p hp => ⟨hp, ?_⟩) (hw.frame (· ∈ before)), fun _ => ?_⟩
 ·rw [hps, List.mem_append] at hp
  exact Or.inr hp
 ·obtain ⟨_, _, _, _, _, hz, hn⟩ := hW
  refine ⟨hok, _, _, ([] ++ pa) ++ pv, ⟨[] ++ pa, pv, trodAll_append (hargs _ (fun _ _ => rfl)) (hres _ _ _), hvars _ (fun _ _ => rfl), rfl, ?_, ?_⟩, ?_⟩
  ·intro b off hp
   have hp' : MemPlace.cell b off ∈ before := by rw [hps]; simpa using hp
   rw [hw.frozen (p := ⟨b, off, none⟩) (hlt _ hp')]
   exact hz b off hp'
  ·intro ha
   have := hn ha
   rw [hps] at this
   simpa using this
  ·intro p hp _
   rw [hps]
   simpa using hp
end Go.Ab
end

section
namespace Go.Ab
open Go.ChangeShapes Go.WideShapes Go.ChangeAt Go.RowKit
inductive Ty where
 | int (k : IntKind)
 | bool
 | str
 | sl (r : Ty)
 | nil
 | cons (a : Ty) (r : Ty)
def Ty.z : Ty → Nat
 | .nil => 0
 | .cons a r => a.z + r.z
 | _ => 1
def Ok : Ty → List AV → Prop
 | .int k, cs => ∃ n, cs = [.i k n] ∧ (Lit.int k n).wf = true
 | .bool, cs => ∃ b, cs = [.b b]
 | .str, cs => ∃ l, cs = [.s l] ∧ l.length ≤ maxLen
 | .sl r, cs => ∃ els f, cs = [.sl els f] ∧ els.length ≤ maxLen ∧ (f = .nl ∧ els = [] ∨ f = .so) ∧ ∀ row ∈ els, Ok r row
 | .nil, cs => cs = []
 | .cons a r, cs => ∃ c1 c2, cs = c1 ++ c2 ∧ Ok a c1 ∧ Ok r c2
theorem Ok.len : ∀ {ty : Ty} {cs : List AV}, Ok ty cs → cs.length = ty.z
 | .int _, _, ⟨_, h, _⟩ => by rw [h]; rfl
 | .bool, _, ⟨_, h⟩ => by rw [h]; rfl
 | .str, _, ⟨_, h, _⟩ => by rw [h]; rfl
 | .sl _, _, ⟨_, _, h, _⟩ => by rw [h]; rfl
 | .nil, _, h => by rw [show _ = [] from h]; rfl
 | .cons _ _, _, ⟨_, _, h, h1, h2⟩ => by rw [h, List.length_append, h1.len, h2.len]; rfl
def RowC (w : World) (S : Nat → Nat → Prop) (cs : List Value) (xs : List AV) : Prop :=
 xs.length = cs.length ∧ ∀ (j : Nat) (v : Value) (c : AV), cs[j]? = some v → xs[j]? = some c → CP w S v c ∧ v.oneCell' = true
section
variable {H : Type} {enc : TypeId × Value → H} {P : Program} {w : World} {base : Nat} {held : Bool} {S : Nat → Nat → Prop}
theorem RowC.nil : RowC w S [] [] := ⟨rfl, fun j v c h => by simp at h⟩
theorem RowC.one {v : Value} {c : AV} (h : CP w S v c) (h1 : v.oneCell' = true) : RowC w S [v] [c] := by
 refine ⟨rfl, fun j v' c' hv hc => ?_⟩
 cases j with
 | zero => simp at hv hc; subst hv; subst hc; exact ⟨h, h1⟩
 | succ j => simp at hv
theorem RowC.append {cs cs' : List Value} {xs xs' : List AV} (h : RowC w S cs xs) (h' : RowC w S cs' xs') : RowC w S (cs ++ cs') (xs ++ xs') := by
 refine ⟨by rw [List.length_append, List.length_append, h.1, h'.1], fun j v c hv hc => ?_⟩
 by_cases hj : j < cs.length
 ·rw [List.getElem?_append_left hj] at hv
  rw [List.getElem?_append_left (by rw [h.1]; exact hj)] at hc
  exact h.2 j v c hv hc
 ·rw [List.getElem?_append_right (by omega)] at hv
  rw [List.getElem?_append_right (by rw [h.1]; omega), h.1] at hc
  exact h'.2 _ v c hv hc
def fieldsTy (P : Program) (g : TypeId → Option Ty) (tot : Nat) : Nat → List Field → Option Ty
 | off, [] => if off = tot then some .nil else none
 | off, f :: fs => (g f.type).bind fun a => if f.offset = off ∧ a.z = P.cellsOf f.type then (fieldsTy P g tot (off + a.z) fs).map (.cons a) else none
def repTy : Nat → Ty → Ty
 | 0, _ => .nil
 | n + 1, a => .cons a (repTy n a)
def tyOf (P : Program) : Nat → TypeId → Option Ty
 | 0, _ => none
 | n + 1, t =>
  match P.underlying t with
  | some .bool => some .bool
  | some (.int k) => some (.int k)
  | some .string => some .str
  | some (.slice e) => (tyOf P n e).bind fun r => if r.z = P.cellsOf e ∧ 0 < r.z then some (.sl r) else none
  | some (.struct fs) => fieldsTy P (tyOf P n) (P.cellsOf t) 0 fs.toList
  | some (.array k e) => (tyOf P n e).bind fun a => if a.z = P.cellsOf e ∧ k * a.z = P.cellsOf t then some (repTy k a) else none
  | _ => none
theorem list_of {α : Type} {Q : Nat → α → Prop} : ∀ (n : Nat), (∀ i, i < n → ∃ x, Q i x) → ∃ l : List α, l.length = n ∧ ∀ i x, l[i]? = some x → Q i x
 | 0, _ => ⟨[], rfl, fun i x h => by simp at h⟩
 | n + 1, h => by
  obtain ⟨l, hl, hq⟩ := list_of n fun i hi => h i (by omega)
  obtain ⟨x, hx⟩ := h n (by omega)
  refine ⟨l ++ [x], by simp [hl], fun i y hy => ?_⟩
  by_cases hi : i < n
  ·rw [List.getElem?_append_left (by omega)] at hy
   exact hq i y hy
  ·rw [List.getElem?_append_right (by omega)] at hy
   have : i - l.length = 0 := by
    have := (List.getElem?_eq_some_iff.1 hy).1
    simp at this
    omega
   rw [this] at hy
   simp at hy
   subst hy
   have e : i = n := by omega
   rw [e]
   exact hx
def Places (S : Nat → Nat → Prop) (ps : List MemPlace) : Prop := ∀ k o, MemPlace.cell k o ∈ ps → S k o
theorem fields_open {n : Nat} {g : TypeId → Option Ty} {cs : List Value}
  (ih : ∀ t cs x ty, DataW.trod enc P w base (fun _ => true) held n t cs = some x → g t = some ty → Places S x.2 → ∃ xs, Ok ty xs ∧ RowC w S cs xs) :
  ∀ (fs : List Field) (off : Nat) (ty : Ty) (ys : List (DataW H × List MemPlace)),
   ys.length = fs.length → (∀ (i : Nat) (f : Field), fs[i]? = some f → DataW.trod enc P w base (fun _ => true) held n f.type ((cs.drop f.offset).take (P.cellsOf f.type)) = ys[i]?) →
   fieldsTy P g cs.length off fs = some ty → Places S (ys.flatMap (·.2)) → ∃ xs, Ok ty xs ∧ RowC w S (cs.drop off) xs
 | [], off, ty, ys, hl, hm, ht, hp => by
  simp only [fieldsTy] at ht
  split at ht <;> cases ht
  rename_i ho
  exact ⟨[], rfl, by rw [ho, List.drop_length]; exact RowC.nil⟩
 | f :: fs, off, ty, [], hl, hm, ht, hp => by simp at hl
 | f :: fs, off, ty, y :: ys1, hl, hm, ht, hp => by
  simp only [fieldsTy] at ht
  obtain ⟨a, ha, ht1⟩ := bind_some ht
  split at ht1
  ·rename_i hc
   obtain ⟨ho, hz⟩ := hc
   obtain ⟨r, hr, rfl⟩ := map_some ht1
   have hy := hm 0 f rfl
   rw [ho, ← hz] at hy
   simp only [List.getElem?_cons_zero] at hy
   obtain ⟨xs1, ho1, hr1⟩ := ih _ _ _ _ hy ha fun k o h => hp k o (by simp [h])
   obtain ⟨xs2, ho2, hr2⟩ := fields_open ih fs _ r ys1 (by simpa using hl) (fun i f' hf => by simpa using hm (i + 1) f' (by simpa using hf)) hr fun k o h => hp k o (by
    rw [List.flatMap_cons, List.mem_append]
    exact .inr h)
   refine ⟨xs1 ++ xs2, ⟨xs1, xs2, rfl, ho1, ho2⟩, ?_⟩
   have e : cs.drop off = (cs.drop off).take a.z ++ cs.drop (off + a.z) := by rw [← List.drop_drop, List.take_append_drop]
   rw [e]
   exact hr1.append hr2
  ·cases ht1
theorem array_open {n : Nat} {e : TypeId} {r : Ty} (ih : ∀ cs x, DataW.trod enc P w base (fun _ => true) held n e cs = some x → Places S x.2 → ∃ xs, Ok r xs ∧ RowC w S cs xs) :
  ∀ (k : Nat) (cs : List Value) (ys : List (DataW H × List MemPlace)), ys.length = k → cs.length = k * r.z →
   (∀ (i : Nat), i < k → DataW.trod enc P w base (fun _ => true) held n e ((cs.drop (i * r.z)).take r.z) = ys[i]?) → Places S (ys.flatMap (·.2)) → ∃ xs, Ok (repTy k r) xs ∧ RowC w S cs xs
 | 0, cs, ys, hl, hc, hm, hp => by
  rw [Nat.zero_mul, List.length_eq_zero_iff] at hc
  subst hc
  exact ⟨[], rfl, RowC.nil⟩
 | k + 1, cs, [], hl, hc, hm, hp => by simp at hl
 | k + 1, cs, y :: ys, hl, hc, hm, hp => by
  have hy := hm 0 (by omega)
  rw [Nat.zero_mul, List.drop_zero] at hy
  simp only [List.getElem?_cons_zero] at hy
  obtain ⟨xs1, ho1, hr1⟩ := ih _ _ hy fun k o h => hp k o (by simp [h])
  obtain ⟨xs2, ho2, hr2⟩ := array_open ih k (cs.drop r.z) ys (by simpa using hl) (by rw [List.length_drop, hc, Nat.succ_mul]; omega) (fun i hi => by
   have := hm (i + 1) (by omega)
   rw [Nat.succ_mul, Nat.add_comm (i * r.z), ← List.drop_drop] at this
   simpa using this) fun k o h => hp k o (by
    rw [List.flatMap_cons, List.mem_append]
    exact .inr h)
  refine ⟨xs1 ++ xs2, ⟨xs1, xs2, rfl, ho1, ho2⟩, ?_⟩
  have e : cs = cs.take r.z ++ cs.drop r.z := (List.take_append_drop ..).symm
  rw [e]
  exact hr1.append hr2
theorem row_cell {a : Addr} {m z : Nat} {cs : List Value} (h : w.cells? base (a.add m) z = some cs) (j : Nat) (hj : j < z) : w.cell? ((a.add m).add j) = cs[j]? := (World.cells?_some h).2.2 j hj
theorem cell_spot {a : Addr} {v : Value} (h : w.cell? a = some v) : a.spot = none := by
 unfold World.cell? at h
 split at h
 ·split at h
  ·cases h
  ·rename_i hs; simpa using hs
 ·cases h
theorem trod_open : ∀ (n m : Nat) (t : TypeId) (cs : List Value) (x : DataW H × List MemPlace) (ty : Ty),
  DataW.trod enc P w base (fun _ => true) held n t cs = some x → tyOf P m t = some ty → Places S x.2 → ∃ xs, Ok ty xs ∧ RowC w S cs xs
 | 0, _, _, _, _, _, h, _, _ => by simp [DataW.trod] at h
 | n + 1, 0, _, _, _, _, _, ht, _ => by simp [tyOf] at ht
 | n + 1, m + 1, t, cs, x, ty, h, ht, hp => by
  simp only [tyOf] at ht
  split at ht
  ·rename_i hu
   cases ht
   obtain ⟨b, rfl, rfl⟩ := DataW.trod_bool hu h
   exact ⟨[.b b], ⟨b, rfl⟩, RowC.one (.b b) rfl⟩
  ·rename_i k hu
   cases ht
   obtain ⟨z, rfl, rfl, hw⟩ := DataW.trod_int hu h
   exact ⟨[.i k z], ⟨z, rfl, hw⟩, RowC.one (.i k z) rfl⟩
  ·rename_i hu
   cases ht
   obtain ⟨s, rfl, rfl, hs⟩ := DataW.trod_string hu h
   exact ⟨[.s s.data.toList], ⟨_, rfl, by simpa using hs⟩, RowC.one (.s s.data.toList) rfl⟩
  ·rename_i e hu
   obtain ⟨r, hr, ht1⟩ := bind_some ht
   split at ht1
   ·rename_i hz
    cases ht1
    obtain ⟨hz, hzp⟩ := hz
    rcases DataW.trod_slice hu h with ⟨rfl, rfl⟩ | ⟨a, len, cap, elems, rest, n', hn', rfl, rfl, hb, hl, hmx, hlen, hel, hsp, hns⟩
    ·exact ⟨[.sl [] .nl], ⟨[], .nl, rfl, Nat.zero_le _, .inl ⟨rfl, rfl⟩, fun row h => by simp at h⟩, RowC.one (.slnil _ (.inl rfl)) rfl⟩
    ·cases hn'
     obtain ⟨hrl, hrest⟩ := hsp rfl
     have hall : ∀ i, i < cap → ∃ y cs', y ∈ elems ++ rest ∧ w.cells? base (a.add (i * P.cellsOf e)) (P.cellsOf e) = some cs' ∧ DataW.trod enc P w base (fun _ => true) held n e cs' = some y := by
      intro i hi
      by_cases hil : i < len
      ·have h1 := hel i hil
       rw [List.getElem?_eq_getElem (by omega)] at h1
       obtain ⟨cs', h2, h3⟩ := bind_some h1
       exact ⟨_, cs', List.mem_append_left _ (List.getElem_mem (by omega)), h2, h3⟩
      ·have h1 := hrest (i - len) (by omega)
       rw [List.getElem?_eq_getElem (by omega), show len + (i - len) = i by omega] at h1
       obtain ⟨cs', h2, h3⟩ := bind_some h1
       exact ⟨_, cs', List.mem_append_right _ (List.getElem_mem (by omega)), h2, h3⟩
     by_cases hcap : cap = 0
     ·have hl0 : len = 0 := by omega
      subst hcap
      subst hl0
      exact ⟨[.sl [] .so], ⟨[], .so, rfl, Nat.zero_le _, .inr rfl, fun row h => by simp at h⟩, RowC.one (.slz a _ (.inl rfl)) rfl⟩
     ·have hspot : a.spot = none := by
       obtain ⟨y, cs', _, h2, _⟩ := hall 0 (by omega)
       have h3 := row_cell h2 0 (by omega)
       have h4 := (World.cells?_some h2).2.1
       rw [List.getElem?_eq_getElem (by omega)] at h3
       have h5 := cell_spot h3
       simpa [Addr.add] using h5
      obtain ⟨blk, off, sp⟩ := a
      simp only at hspot
      subst hspot
      have hrows : ∀ i, i < len → ∃ xs, Ok r xs ∧ ∃ cs', w.cells? base ((⟨blk, off, none⟩ : Addr).add (i * P.cellsOf e)) (P.cellsOf e) = some cs' ∧ RowC w S cs' xs := by
       intro i hi
       obtain ⟨y, cs', hy, h2, h3⟩ := hall i (by omega)
       obtain ⟨xs, ho, hrc⟩ := trod_open n m e cs' y r h3 hr fun k o hk => hp k o (by
        rw [List.mem_append]
        exact .inr (List.mem_flatMap.2 ⟨y, hy, hk⟩))
       exact ⟨xs, ho, cs', h2, hrc⟩
      obtain ⟨els, hels, hq⟩ := list_of len hrows
      refine ⟨[.sl els .so], ⟨els, .so, rfl, by omega, .inr rfl, fun row hrow => ?_⟩, RowC.one ?_ rfl⟩
      ·obtain ⟨i, hi⟩ := List.getElem?_of_mem hrow
       exact (hq i row hi).1
      ·have hcell : ∀ i j, i < els.length → j < r.z → ∃ v, w.cell? ⟨blk, off + i * r.z + j, none⟩ = some v ∧ v.oneCell' = true ∧ ∀ row c, els[i]? = some row → row[j]? = some c → CP w S v c := by
        intro i j hi hj
        obtain ⟨ho, cs', h2, hrc⟩ := hq i _ (List.getElem?_eq_getElem hi)
        have h3 := row_cell h2 j (by omega)
        have h4 := (World.cells?_some h2).2.1
        rw [add_addr, add_addr, ← hz, List.getElem?_eq_getElem (by omega)] at h3
        have hlr := ho.len
        have h5 := hrc.2 j _ _ (List.getElem?_eq_getElem (by omega)) (List.getElem?_eq_getElem (by omega))
        refine ⟨_, h3, h5.2, fun row c hrow hc => ?_⟩
        rw [List.getElem?_eq_getElem hi] at hrow
        cases hrow
        rw [List.getElem?_eq_getElem (by omega)] at hc
        cases hc
        exact h5.1
       have hS : ∀ i j, i < els.length → j < r.z → S blk (off + i * r.z + j) := by
        intro i j hi hj
        refine hp _ _ ?_
        rw [List.mem_append]
        left
        unfold MemPlace.row
        rw [List.mem_map]
        refine ⟨i * r.z + j, ?_, by rw [Nat.add_assoc]⟩
        rw [List.mem_range, ← hz]
        have h1 : (i + 1) * r.z ≤ (elems.length + rest.length) * r.z := Nat.mul_le_mul_right _ (by omega)
        rw [Nat.add_mul, Nat.one_mul] at h1
        omega
       have := CP.sl (w := w) (S := S) blk off r.z cap els .so (fun i j => (w.cell? ⟨blk, off + i * r.z + j, none⟩).getD undef) (by simp) (by simp) (by omega) hmx
        (fun i row hrow => (hq i row hrow).1.len) (fun i j hi hj => ?_) (fun i row j c hrow hc => ?_)
       ·rw [hels] at this
        exact this
       ·obtain ⟨v, h1, h2, _⟩ := hcell i j hi hj
        exact ⟨hS i j hi hj, by rw [h1]; rfl, by rw [h1]; exact h2⟩
       ·have hi := (List.getElem?_eq_some_iff.1 hrow).1
        have hj := (List.getElem?_eq_some_iff.1 hc).1
        rw [(hq i row hrow).1.len] at hj
        obtain ⟨v, h1, _, h3⟩ := hcell i j hi hj
        show CP w S ((w.cell? ⟨blk, off + i * r.z + j, none⟩).getD undef) c
        rw [h1]
        exact h3 row c hrow hc
   ·cases ht1
  ·rename_i fs hu
   obtain ⟨xs, n', hn', rfl, hcl, hxl, hx⟩ := DataW.trod_struct hu h
   cases hn'
   rw [← hcl] at ht
   have := fields_open (S := S) (g := tyOf P m) (cs := cs) (n := n) (fun t cs x ty h1 h2 h3 => trod_open n m t cs x ty h1 h2 h3) fs.toList 0 ty xs (by rw [hxl]; simp) (fun i f hf => hx i f (by simpa using hf)) ht hp
   simpa using this
  ·rename_i k e hu
   obtain ⟨r, hr, ht1⟩ := bind_some ht
   split at ht1
   ·rename_i hz
    cases ht1
    obtain ⟨hz, hzt⟩ := hz
    obtain ⟨xs, n', hn', rfl, hcl, hxl, hx⟩ := DataW.trod_array hu h
    cases hn'
    rw [← hz] at hx
    exact array_open (S := S) (n := n) (e := e) (r := r) (fun cs x h1 h3 => trod_open n m e cs x r h1 hr h3) k cs xs hxl (by omega) hx hp
   ·cases ht1
  ·cases ht
end
end Go.Ab
end

section
namespace Go.Ab
open Go.ChangeShapes Go.WideShapes Go.ChangeAt Go.RowKit
def isAgg (P : Program) (t : TypeId) : Bool := match P.underlying t with | some (.struct _) => true | some (.array _ _) => true | _ => false
def tysOf (P : Program) (m : Nat) : List TypeId → Option (List (Bool × Ty))
 | [] => some []
 | t :: ts => (tyOf P m t).bind fun a => (tysOf P m ts).map fun r => (isAgg P t, a) :: r
def OkArg : Bool × Ty → AV → Prop
 | (true, ty), x => ∃ cs, x = .agg cs ∧ Ok ty cs
 | (false, ty), x => Ok ty [x]
def OkArgs : List (Bool × Ty) → List AV → Prop
 | [], xs => xs = []
 | a :: r, xs => ∃ x ys, xs = x :: ys ∧ OkArg a x ∧ OkArgs r ys
section
variable {H : Type} {enc : TypeId × Value → H} {P : Program} {w : World} {S : Nat → Nat → Prop}
theorem arg_open {m : Nat} {t : TypeId} {v : Value} {d : DataW H} {p : List MemPlace} {ty : Ty} {base : Nat} (hA : DataW.Trod enc P w 0 (fun _ => true) true t v d p) (hT : tyOf P m t = some ty)
  (hval : Value.okWide P w .any base t v) (hp : Places S p) : ∃ x, OkArg (isAgg P t, ty) x ∧ CP w S v x := by
 obtain ⟨fuel, hf⟩ := hA
 obtain ⟨xs, ho, hrc⟩ := trod_open (S := S) fuel m t _ _ ty hf hT hp
 have hlen := ho.len
 cases hu : P.underlying t with
 | none => cases m <;> simp [tyOf, hu] at hT
 | some desc =>
  have one : ∀ (hag : isAgg P t = false) (hz : ty.z = 1) (hv : v.cells = #[v]), ∃ x, OkArg (isAgg P t, ty) x ∧ CP w S v x := by
   intro hag hz hv
   rw [hag]
   match xs, hlen with
   | [x], _ =>
    refine ⟨x, ho, ?_⟩
    have := hrc.2 0 v x (by rw [hv]; rfl) rfl
    exact this.1
   | [], h => simp [hz] at h
   | _ :: _ :: _, h => simp [hz] at h
  cases m with
  | zero => simp [tyOf] at hT
  | succ m =>
  cases desc <;> simp only [tyOf, hu] at hT <;> try (cases hT; done)
  case struct fs =>
   have hag : isAgg P t = true := by simp [isAgg, hu]
   rw [hag]
   unfold Value.okWide at hval
   rw [hu] at hval
   obtain ⟨cs, rfl, hcs, _⟩ := hval
   refine ⟨.agg xs, ⟨xs, rfl, ho⟩, .agg cs xs ?_ ?_ ?_⟩
   ·have := hrc.1
    simpa [Value.cells] using this.symm
   ·intro j u hu
    have hl := hrc.1
    have hj : j < cs.size := (Array.getElem?_eq_some_iff.1 hu).1
    have hj' : j < xs.length := by rw [hl]; simpa [Value.cells] using hj
    exact (hrc.2 j u _ (by simpa [Value.cells] using hu) (List.getElem?_eq_getElem hj')).2
   ·intro j u c hu hc
    exact (hrc.2 j u c (by simpa [Value.cells] using hu) hc).1
  case array k e =>
   have hag : isAgg P t = true := by simp [isAgg, hu]
   rw [hag]
   unfold Value.okWide at hval
   rw [hu] at hval
   obtain ⟨cs, rfl, hcs, _⟩ := hval
   refine ⟨.agg xs, ⟨xs, rfl, ho⟩, .agg cs xs ?_ ?_ ?_⟩
   ·have := hrc.1
    simpa [Value.cells] using this.symm
   ·intro j u hu
    have hl := hrc.1
    have hj : j < cs.size := (Array.getElem?_eq_some_iff.1 hu).1
    have hj' : j < xs.length := by rw [hl]; simpa [Value.cells] using hj
    exact (hrc.2 j u _ (by simpa [Value.cells] using hu) (List.getElem?_eq_getElem hj')).2
   ·intro j u c hu hc
    exact (hrc.2 j u c (by simpa [Value.cells] using hu) hc).1
  case bool =>
   cases hT
   unfold Value.okWide Cell.okWide Cell.ok at hval
   rw [hu] at hval
   refine one (by simp [isAgg, hu]) rfl ?_
   cases v <;> first | rfl | (exact hval.elim)
  case int k =>
   cases hT
   unfold Value.okWide Cell.okWide Cell.ok at hval
   rw [hu] at hval
   refine one (by simp [isAgg, hu]) rfl ?_
   cases v <;> first | rfl | (exact hval.elim)
  case string =>
   cases hT
   unfold Value.okWide Cell.okWide Cell.ok at hval
   rw [hu] at hval
   refine one (by simp [isAgg, hu]) rfl ?_
   cases v <;> first | rfl | (exact hval.elim)
  case slice e =>
   obtain ⟨r, hr, ht1⟩ := bind_some hT
   split at ht1 <;> cases ht1
   unfold Value.okWide Cell.okWide Cell.ok at hval
   rw [hu] at hval
   refine one (by simp [isAgg, hu]) rfl ?_
   cases v <;> first | rfl | (exact hval.elim)
theorem args_open {m base : Nat} : ∀ (ts : List TypeId) (vs : List Value) (ds : List (DataW H)) (p : List MemPlace) (tys : List (Bool × Ty)), DataW.TrodAll enc P w 0 (fun _ => true) true ts vs ds p → tysOf P m ts = some tys →
  (∀ (j : Nat) t v, ts[j]? = some t → vs[j]? = some v → Value.okWide P w .any base t v) → Places S p →
  ∃ xs, OkArgs tys xs ∧ vs.length = xs.length ∧ ∀ (j : Nat) (v : Value) (c : AV), vs[j]? = some v → xs[j]? = some c → CP w S v c
 | [], vs, ds, p, tys, hA, hT, hval, hp => by
  obtain ⟨rfl, _, _⟩ := trodAll_nil hA
  cases hT
  exact ⟨[], rfl, rfl, fun j v c h => by simp at h⟩
 | t :: ts, vs, ds, p, tys, hA, hT, hval, hp => by
  obtain ⟨v, vs1, d, ds1, a, b, rfl, rfl, rfl, h1, h2⟩ := trodAll_cons hA
  obtain ⟨ty, hty, hT1⟩ := bind_some hT
  obtain ⟨r, hr, rfl⟩ := map_some hT1
  obtain ⟨x, hx, hC⟩ := arg_open (S := S) h1 hty (hval 0 t v rfl rfl) fun k o h => hp k o (List.mem_append_left _ h)
  obtain ⟨xs, ho, hl, hc⟩ := args_open (m := m) (base := base) ts vs1 ds1 b r h2 hr (fun j t v ht hv => hval (j + 1) t v (by simpa using ht) (by simpa using hv)) fun k o h => hp k o (List.mem_append_right _ h)
  refine ⟨x :: xs, ⟨x, xs, rfl, hx, ho⟩, by simp [hl], fun j u c hu hcc => ?_⟩
  cases j with
  | zero => simp at hu hcc; subst hu; subst hcc; exact hC
  | succ j => exact hc j u c (by simpa using hu) (by simpa using hcc)
theorem all_stay (hl : laidOutB P = true) {W W' : World} (hb : Below W.heap.size W W') {sp : Nat → Bool} : ∀ (ts : List TypeId) (vs : List Value) (ds : List (DataW H)) (p : List MemPlace),
  (ts.all fun t => P.readableRec t && decide (t < P.types.size)) = true → DataW.TrodAll enc P W 0 (fun _ => true) true ts vs ds p → (∀ x ∈ p, x.block < W.heap.size) → (∀ x ∈ p, sp x.block = true) → DataW.TrodAll enc P W' 0 sp true ts vs ds p
 | [], _, _, _, _, hA, _, _ => by
  obtain ⟨rfl, rfl, rfl⟩ := trodAll_nil hA
  exact rfl
 | t :: ts, vs, ds, p, hr, hA, hlt, hsp => by
  obtain ⟨v, vs1, d, ds1, a, b, rfl, rfl, rfl, h1, h2⟩ := trodAll_cons hA
  rw [List.all_cons, Bool.and_eq_true, Bool.and_eq_true, decide_eq_true_eq] at hr
  exact ⟨a, b, WideElems.Trod_stays hl hr.1.1 hr.1.2 h1 (fun x hx => hb.same (hlt x (List.mem_append_left _ hx))) (fun x hx => hsp x (List.mem_append_left _ hx)),
   all_stay hl hb ts vs1 ds1 b hr.2 h2 (fun x hx => hlt x (List.mem_append_right _ hx)) (fun x hx => hsp x (List.mem_append_right _ hx)), rfl⟩
theorem all_len : ∀ (ts : List TypeId) (vs : List Value) (ds : List (DataW H)) (p : List MemPlace), DataW.TrodAll enc P w 0 (fun _ => true) true ts vs ds p → ds.length = ts.length
 | [], _, _, _, hA => by
  obtain ⟨rfl, rfl, rfl⟩ := trodAll_nil hA
  rfl
 | t :: ts, vs, ds, p, hA => by
  obtain ⟨v, vs1, d, ds1, a, b, rfl, rfl, rfl, h1, h2⟩ := trodAll_cons hA
  simp [all_len ts vs1 ds1 b h2]
theorem law_step {f : FuncId} {fn : Func} {s : ChangeSpec} {m tb : Nat} {tys : List (Bool × Ty)} {fresh handsOn again : Bool} (hvars : s.vars = []) (hT : tysOf P m fn.params.toList = some tys) (hl : laidOutB P = true)
  (hread : (fn.params.toList.all fun t => P.readableRec t && decide (t < P.types.size)) = true) (hr : fn.resultTypes = #[tb]) (hb : P.underlying tb = some .bool)
  (hfn : ∀ ds : List (DataW H), ds.length = fn.params.toList.length → s.fn H ds = { results := [.lit (.bool true)], args := ds })
  (hcall : ∀ xs, OkArgs tys xs → PCall P f xs (· = .b true)) {W : World} {args : Array Value} {ds gs : List (DataW H)} {before : List MemPlace} {base : Nat}
  (hval : ∀ (j : Nat) t v, fn.params[j]? = some t → args[j]? = some v → Value.okWide P W .any base t v) (hW : DataW.Whole enc P fn.params.toList s.vars false W args.toList ds gs before) :
  Calls P f args W fun e W' => ∃ v, e = .returned v ∧ s.post enc P fn false fresh handsOn again W args v W' := by
 have hW' := hW
 obtain ⟨p, q, hA, hV, rfl, hfz, hnd⟩ := hW
 rw [hvars] at hV
 obtain ⟨rfl, rfl⟩ := trodVars_none hV
 have hlt : ∀ x ∈ p, x.block < W.heap.size := fun x hx => hW'.lt x (List.mem_append_left _ hx)
 obtain ⟨xs, ho, hlen, hC⟩ := args_open (S := fun k o => MemPlace.cell k o ∈ p) _ _ _ _ _ hA hT (fun j t v ht hv => hval j t v (by simpa using ht) (by simpa using hv)) (fun k o h => h)
 have hc := (hcall xs ho).2 W (fun k o => MemPlace.cell k o ∈ p) args (by simpa using hlen) (fun j v c hv hc => hC j v c (by simpa using hv) hc) (fun k o h => hlt _ h)
 refine hc.mono fun e W' ⟨v, r, he, hrr, hbel, hCr⟩ => ?_
 subst he hrr
 have hv : v = .bool true := by cases hCr; rfl
 subst hv
 have hlf := hfn ds (all_len _ _ _ _ hA)
 refine ⟨_, rfl, post_of_below (pa := p) (pv := []) hW' (fun b sp hd => ?_) (fun sp hsp => ?_) (fun sp _ => ?_) rfl hbel (ok_one hr rfl (okWide_bool_mk hb _))⟩
 ·rw [List.append_nil, hlf, hr]
  exact trodAll_mk1 (shut_bool hb _)
 ·rw [List.append_nil, hlf]
  exact all_stay hl hbel _ _ _ _ hread hA hlt fun x hx => hsp x (List.mem_append_left _ hx)
 ·rw [List.append_nil, hlf, hvars]
  exact rfl
end
end Go.Ab
end

section
namespace Go.Ab
theorem words_of : ∀ (els : List (List AV)), (∀ row ∈ els, Ok (.int .u32) row) → ∃ l : List UInt32, els = u32s l
 | [], _ => ⟨[], rfl⟩
 | r :: els, h => by
  obtain ⟨l, rfl⟩ := words_of els fun row hr => h row (List.mem_cons_of_mem _ hr)
  obtain ⟨n, rfl, hw⟩ := h r List.mem_cons_self
  have h1 : 0 ≤ n ∧ n < 4294967296 := by
   simp [Lit.wf, IntKind.min, IntKind.max, IntKind.signed, IntKind.bits] at hw
   omega
  refine ⟨w32 n.toNat :: l, ?_⟩
  have : (w32 n.toNat).toNat = n.toNat := w32_of_lt (by omega)
  simp only [u32s, List.map_cons, this, u32]
  rw [Int.toNat_of_nonneg h1.1]
theorem pcall_wk {P : Program} {ν : Nat → FuncId} {T : Tbl} (hT : TOk P ν T) (hm : P.follows .mixedOrders = true) {u : Nat} {af : AFx} {xs ys : List AV} {r : AV} (hu : T u = some af) (hl : af.lent = none) (h : callF T u ys = some r) (hx : xs.map wkA = ys) : PCall P (ν u) xs (· = r) := by
 subst hx
 have h1 := callF_sound hT hm hu hl h
 exact PCall.wk (ex := false) h1
end Go.Ab
end

section
namespace Go.Ab
abbrev Fz := Bool × List UInt32 × List UInt32
abbrev celF (x : Fz) : List AV := [.b x.1, .sl (u32s x.2.1) .an, .sl (u32s x.2.2) .an]
abbrev efz (x : Fz) : AV := .agg (celF x)
def fv (x : Fz) : Rat := mkRat (wv x.1 x.2.1) (val x.2.2)
def fz (q : Rat) : Fz := (decide (q.num < 0), ofN q.num.natAbs, ofN q.den)
@[simp] theorem fv_fz (q : Rat) : fv (fz q) = q := by
 unfold fv fz
 rw [wv_ez, val_ofN, Rat.mkRat_self]
def fsz (x : Fz) : Nat := max x.2.1.length x.2.2.length
def sz (q : Rat) : Nat := max (ofN q.num.natAbs).length (ofN q.den).length
def sgQ (q : Rat) : Int := sgI q.num
def rowF (l : List Fz) : List (List AV) := l.map celF
@[simp] theorem rowF_length (l : List Fz) : (rowF l).length = l.length := by simp [rowF]
@[simp] theorem rowF_wk (l : List Fz) : wkL (rowF l) = rowF l := by rw [wkL_map]; simp [rowF, wkR, wkA]
@[simp] theorem rowF_get? (l : List Fz) (i : Nat) : (rowF l)[i]? = (l[i]?).map celF := by simp [rowF]
@[simp] theorem rowF_get (l : List Fz) (i : Nat) (h : i < (rowF l).length) : (rowF l)[i] = celF (l[i]'(by simpa using h)) := by simp [rowF]
@[simp] theorem rowF_take (l : List Fz) (n : Nat) : (rowF l).take n = rowF (l.take n) := by simp [rowF]
@[simp] theorem rowF_drop (l : List Fz) (n : Nat) : (rowF l).drop n = rowF (l.drop n) := by simp [rowF]
@[simp] theorem rowF_nil : rowF [] = [] := rfl
def matF (m : List (List Fz)) : List (List AV) := m.map fun r => [.sl (rowF r) .an]
@[simp] theorem matF_length (l : List (List Fz)) : (matF l).length = l.length := by simp [matF]
@[simp] theorem matF_wk (l : List (List Fz)) : wkL (matF l) = matF l := by rw [wkL_map]; simp [matF, wkR, wkA]
@[simp] theorem matF_get? (l : List (List Fz)) (i : Nat) : (matF l)[i]? = (l[i]?).map fun r => [.sl (rowF r) .an] := by simp [matF]
@[simp] theorem matF_get (l : List (List Fz)) (i : Nat) (h : i < (matF l).length) : (matF l)[i] = [.sl (rowF (l[i]'(by simpa using h))) .an] := by simp [matF]
@[simp] theorem matF_take (l : List (List Fz)) (n : Nat) : (matF l).take n = matF (l.take n) := by simp [matF]
@[simp] theorem matF_drop (l : List (List Fz)) (n : Nat) : (matF l).drop n = matF (l.drop n) := by simp [matF]
@[simp] theorem matF_nil : matF [] = [] := rfl
end Go.Ab
end

section
namespace Go.Ab
abbrev tyF : Ty := .cons .bool (.cons (.sl (.int .u32)) (.cons (.sl (.int .u32)) .nil))
theorem pcall_part {P : Program} {ν : Nat → FuncId} {l l' : List (Nat × AFx)} (hT : TOk P ν fun u => l'.lookup u) (hp : Part l l') (hm : P.follows .mixedOrders = true) {u : Nat} {af : AFx} {xs ys : List AV} {r : AV}
  (hu : l'.lookup u = some af) (hl : af.lent = none) (h : callF (fun u => l.lookup u) u ys = some r) (hx : xs.map wkA = ys) : PCall P (ν u) xs (· = r) :=
 pcall_wk hT hm hu hl (hp.call (by rw [hu]; rfl) h) hx
end Go.Ab
end

section
namespace Go.Ab
class CSpan (T : Tbl) : Prop where
end Go.Ab
end

section
namespace Go.Ab
def isD (c : UInt8) : Bool := decide (48 ≤ c.toNat) && decide (c.toNat ≤ 57)
def isL (c : UInt8) : Bool := decide (97 ≤ c.toNat) && decide (c.toNat ≤ 122) || decide (65 ≤ c.toNat) && decide (c.toNat ≤ 90) || decide (c.toNat = 95)
def signB : List UInt8 := [43, 45, 42, 47, 94, 40, 41, 91, 93, 44, 59, 61]
def isS (c : UInt8) : Bool := signB.contains c
def kindN (c : UInt8) : Nat := if isD c then 1 else if isL c then 2 else if isS c then 3 else 0
def moreN (k : Nat) (c : UInt8) : Bool := decide (k = 1) && isD c || decide (k = 2) && (isL c || isD c)
def mostN (k : Nat) : Nat := if k = 1 then 60 else if k = 2 then 12 else 1
def isB (c : UInt8) : Bool := decide (c = 32) || decide (c = 9) || decide (c = 10) || decide (c = 13)
abbrev Wd := Nat × List UInt8 × Nat
def skipC : Bool → List UInt8 → Nat
 | _, [] => 0
 | note, c :: r =>
  let note' := if c = 35 then true else if c = 10 then false else note
  if (note' || isB c) = true then 1 + skipC note' r else 0
def firstN (k : Nat) (r : List UInt8) : Nat := 1 + (r.takeWhile (moreN k)).length
def scanL (l : List UInt8) (i : Nat) (acc : List Wd) : Except Nat (List Wd) :=
 match l with
 | [] => .ok acc
 | c :: r =>
  if kindN c = 0 then .error i
  else if mostN (kindN c) < firstN (kindN c) r then .error (i + mostN (kindN c))
  else scanL ((r.drop (firstN (kindN c) r - 1)).drop (skipC false (r.drop (firstN (kindN c) r - 1)))) (i + firstN (kindN c) r + skipC false (r.drop (firstN (kindN c) r - 1)))
   (acc ++ [(kindN c, (c :: r).take (firstN (kindN c) r), i)])
termination_by l.length
decreasing_by simp; omega
def stepWd (c : UInt8) (i : Nat) (acc : List Wd) : List Wd :=
 match acc.getLast? with
 | some (k, t, a) => if a + t.length = i ∧ moreN k c = true then acc.dropLast ++ [(k, t ++ [c], a)] else acc ++ [(kindN c, [c], i)]
 | none => acc ++ [(kindN c, [c], i)]
def badWd (acc : List Wd) : Bool :=
 match acc.getLast? with
 | some (k, t, _) => decide (k = 0) || decide (mostN k < t.length)
 | none => false
def refL : List UInt8 → Nat → Bool → List Wd → Except Nat (List Wd)
 | [], _, _, acc => .ok acc
 | c :: r, i, note, acc =>
  let note' := if c = 35 then true else if c = 10 then false else note
  if (note' || isB c) = true then refL r (i + 1) note' acc
  else if badWd (stepWd c i acc) = true then .error i
  else refL r (i + 1) note' (stepWd c i acc)
def Fresh (acc : List Wd) (i : Nat) (l : List UInt8) : Prop := ∀ k t a, acc.getLast? = some (k, t, a) → a + t.length = i → ∀ c r, l = c :: r → moreN k c = false
def prim187 : List AV → Option AV
 | [.i .u8 n] => if 0 ≤ n ∧ n < 256 then some (.b (isS (UInt8.ofNat n.toNat))) else none
 | _ => none
def prim184 : List AV → Option AV
 | [.s l, .s [10]] => if l.length ≤ 1000000 then some (.tup [.s (l.takeWhile (· != 10)), .s ((l.dropWhile (· != 10)).drop 1), .b (l.contains 10)]) else none
 | _ => none
def textOf : List AV → Option (List UInt8)
 | [.s l] => if l.length ≤ 10000 then some l else none
 | _ => none
def prim183 : List AV → Option AV
 | [.sl els .an, .s sep] => if els.length ≤ 1000 ∧ sep.length ≤ 100 then (els.mapM textOf).map fun ts => .s (List.intercalate sep ts) else none
 | _ => none
def rowsT (l : List (List UInt8)) : List (List AV) := l.map fun s => [.s s]
@[simp] theorem rowsT_length (l : List (List UInt8)) : (rowsT l).length = l.length := by simp [rowsT]
@[simp] theorem rowsT_wk (l : List (List UInt8)) : wkL (rowsT l) = rowsT l := by
 induction l with
 | nil => rfl
 | cons x l ih => simpa [rowsT, wkL, wkR] using ih
end Go.Ab
end

section
namespace Go.Ab
class CJoin (T : Tbl) : Prop where
end Go.Ab
end

section
namespace Go.Ab
class CRow (T : Tbl) : Prop where
end Go.Ab
end

section
namespace Go.Ab
class CCommon (T : Tbl) : Prop where
end Go.Ab
end

section
namespace Go.Ab
end Go.Ab
end

section
namespace Go.Ab
end Go.Ab
end

section
namespace Go.Ab
class CFrac (T : Tbl) : Prop where
end Go.Ab
end

section
namespace Go.Ab
end Go.Ab
end

section
namespace Go.Ab
end Go.Ab
end

section
namespace Go.Ab
def nrm (l : List Fz) : List Fz := l.map fun x => fz (fv x)
def fzs (l : List Rat) : List Fz := l.map fz
@[simp] theorem rowsT_nil : rowsT [] = [] := rfl
def textQ (q : Rat) : List UInt8 := if q.den = 1 then textZ q.num else textZ q.num ++ 47 :: textN q.den
section
variable {T : Tbl} [CNat T] [CProd T] [CTwos T] [CQuot T] [CQuotD T] [CText T] [CWhole T] [CCommon T] [CFrac T] [CJoin T] [CRow T]
def stZe (n i : Nat) : St := ⟨[(3, .bs (.loc 9) 1 3 0 n), (10, .i .i64 n), (11, .i .i64 i)], [(.loc 9, ⟨1, .own, 3, rowF (List.replicate i (fz 0)) ++ List.replicate (n - i) [.b false, .sl [] .an, .sl [] .an]⟩)], 3⟩
def stNm (l : List Fz) (i : Nat) : St := ⟨[(3, .bs (.loc 3) 1 3 0 i), (6, .sl (rowF l) .an), (7, .i .i64 l.length), (8, .i .i64 i)], [(.loc 3, ⟨1, .own, 3, rowF (nrm (l.take i))⟩)], 3⟩
def scl (c : Rat) (l : List Fz) : List Fz := l.map fun x => fz (c * fv x)
def stSl (c : Fz) (l : List Fz) (i : Nat) : St := ⟨[(2, .ptr (.loc 2) 1 3 0 0), (5, .bs (.loc 5) 2 3 0 i), (8, .sl (rowF l) .an), (9, .i .i64 l.length), (10, .i .i64 i)], [(.loc 2, ⟨1, .str, 3, [celF c]⟩), (.loc 5, ⟨2, .own, 3, rowF (scl (fv c) (l.take i))⟩)], 4⟩
def dotQ : List Fz → List Fz → Rat
 | x :: a, y :: b => fv x * fv y + dotQ a b
 | _, _ => 0
def dotK (a b : List Fz) (i : Nat) : Rat := dotQ (a.take i) (b.take i)
abbrev nocell : List AV := [.b false, .sl [] .an, .sl [] .an]
def stDt (a b : List Fz) (i : Nat) : St := ⟨[(1, .sl (rowF b) .an), (4, .ptr (.loc 4) 1 3 0 0), (6, .ptr (.loc 6) 2 3 0 0), (16, .sl (rowF a) .an), (17, .i .i64 a.length), (18, .i .i64 i)],
 [(.loc 4, ⟨1, .str, 3, [nocell]⟩), (.loc 6, ⟨2, .str, 3, [celF (fz (dotK a b i))]⟩)], 4⟩
def stSm (a b : List Fz) (i : Nat) : St := ⟨[(0, .sl (rowF a) .an), (1, .sl (rowF b) .an), (12, .i .i64 a.length), (13, .i .i64 i)], [], 2⟩
def txts (l : List Fz) : List (List UInt8) := l.map fun x => textQ (fv x)
def stTt (l : List Fz) (i : Nat) : St := ⟨[(3, .bs (.loc 3) 1 1 0 i), (6, .sl (rowF l) .an), (7, .i .i64 l.length), (8, .i .i64 i)], [(.loc 3, ⟨1, .own, 1, rowsT (txts (l.take i))⟩)], 3⟩
end
end Go.Ab
end

section
namespace Go.Ab
@[simp] theorem fzs_length (l : List Rat) : (fzs l).length = l.length := by simp [fzs]
@[simp] theorem fv_fzs (l : List Rat) : (fzs l).map fv = l := by unfold fzs; rw [List.map_map]; simp [Function.comp_def]
def mixP (c : Rat) (acc : List Rat) (r : List Fz) : List Rat := List.zipWith (fun q x => q + c * fv x) acc r
def addP (acc : List Rat) (r : List Fz) : List Rat := List.zipWith (fun q x => q + fv x) acc r
section
variable {T : Tbl} [CNat T] [CProd T] [CTwos T] [CQuot T] [CQuotD T] [CText T] [CWhole T] [CCommon T] [CFrac T] [CJoin T] [CRow T]
def stAi (k j n : Nat) (rest : List (List Fz)) (r : List Fz) (L acc : List Rat) (i : Nat) : St :=
 ⟨[(4, .bs (.fld (.loc 15) 3) 1 3 0 n), (17, .sl (matF rest) .an), (18, .i .i64 k), (19, .i .i64 j), (28, .sl (rowF r) .an), (29, .i .i64 n), (30, .i .i64 i)],
  [(.fld (.loc 15) 3, ⟨1, .own, 3, rowF (fzs (L.take i ++ acc.drop i))⟩)], 3⟩
def stAo (n : Nat) (rest : List (List Fz)) (acc : List Rat) (j : Nat) : St :=
 ⟨[(4, .bs (.fld (.loc 15) 3) 1 3 0 n), (17, .sl (matF rest) .an), (18, .i .i64 rest.length), (19, .i .i64 j)], [(.fld (.loc 15) 3, ⟨1, .own, 3, rowF (fzs ((rest.take j).foldl addP acc))⟩)], 3⟩
end
end Go.Ab
end

section
namespace Go.Ab
def mixF (p : List (Fz × List Fz)) (acc : List Rat) : List Rat := p.foldl (fun a q => mixP (fv q.1) a q.2) acc
section
variable {T : Tbl} [CNat T] [CProd T] [CTwos T] [CQuot T] [CQuotD T] [CText T] [CWhole T] [CCommon T] [CFrac T] [CJoin T] [CRow T]
def stMi (C : List Fz) (k j n : Nat) (l : List (List Fz)) (r : List Fz) (L acc : List Rat) (i : Nat) : St :=
 ⟨[(0, .sl (rowF C) .an), (10, .bs (.fld (.loc 40) 9) 1 3 0 n), (11, .i .i64 k), (41, .sl (matF l) .an), (42, .i .i64 j), (43, .i .i64 k), (54, .sl (rowF r) .an), (55, .i .i64 n), (56, .i .i64 i)],
  [(.fld (.loc 40) 9, ⟨1, .own, 3, rowF (fzs (L.take i ++ acc.drop i))⟩)], 3⟩
def stMo (C : List Fz) (n : Nat) (l : List (List Fz)) (acc : List Rat) (k : Nat) : St :=
 ⟨[(0, .sl (rowF C) .an), (10, .bs (.fld (.loc 40) 9) 1 3 0 n), (41, .sl (matF l) .an), (42, .i .i64 l.length), (43, .i .i64 k)], [(.fld (.loc 40) 9, ⟨1, .own, 3, rowF (fzs (mixF ((C.zip l).take k) acc))⟩)], 3⟩
def stMc (C : List Fz) (l : List (List Fz)) (n i : Nat) : St := ⟨[(0, .sl (rowF C) .an), (1, .sl (matF l) .an), (2, .i .i64 n), (28, .sl (matF l) .an), (29, .i .i64 l.length), (30, .i .i64 i)], [], 2⟩
end
end Go.Ab
end

section
namespace Go.Ab
abbrev agS (t h : Fz) (y0 y1 f0 f1 : List Fz) : AV :=
 .agg [.b t.1, .sl (u32s t.2.1) .an, .sl (u32s t.2.2) .an, .b h.1, .sl (u32s h.2.1) .an, .sl (u32s h.2.2) .an, .sl (rowF y0) .an, .sl (rowF y1) .an, .sl (rowF f0) .an, .sl (rowF f1) .an]
def prodQ (l : List Fz) : Rat := l.foldl (fun p x => p * fv x) 1
section
variable {T : Tbl} [CNat T] [CProd T] [CTwos T] [CQuot T] [CQuotD T] [CText T] [CWhole T] [CCommon T] [CFrac T] [CJoin T] [CRow T] [CSpan T]
def stTm (l : List Fz) (i : Nat) : St := ⟨[(2, .ptr (.loc 2) 1 3 0 0), (3, .ptr (.loc 3) 2 3 0 0), (7, .sl (rowF l) .an), (8, .i .i64 l.length), (9, .i .i64 i)], [(.loc 2, ⟨1, .str, 3, [nocell]⟩), (.loc 3, ⟨2, .str, 3, [celF (fz (prodQ (l.take i)))]⟩)], 4⟩
def rightS (h : Fz) (y0 y1 f0 f1 : List Fz) : Bool := decide (0 < fv h) && decide (y0.length ≤ 300) && decide (y1.length = y0.length) && decide (f0.length = y0.length) && decide (f1.length = y0.length)
end
end Go.Ab
end

section
namespace Go.Ab
abbrev tyS : Ty := .cons tyF (.cons tyF (.cons (.sl tyF) (.cons (.sl tyF) (.cons (.sl tyF) (.cons (.sl tyF) .nil)))))
end Go.Ab
end

section
namespace Go.Ab
class CRow5 (T : Tbl) : Prop where
end Go.Ab
end

section
namespace Go.Ab
class CFrac5 (T : Tbl) : Prop where
end Go.Ab
end

section
namespace Go.Ab
class CRef5 (T : Tbl) : Prop where
end Go.Ab
end

section
namespace Go.Ab
end Go.Ab
end

section
namespace Go.Ab
class CRef11 (T : Tbl) : Prop where
end Go.Ab
end

section
namespace Go.Ab
class CRef09 (T : Tbl) : Prop where
end Go.Ab
end

section
namespace Go.Ab
class CRef06 (T : Tbl) : Prop where
end Go.Ab
end

section
namespace Go.Ab
theorem ten_step {left w : Nat} (h : left < 10) (hw : w < 4294967296) : (left * 4294967296 + w) / 10 < 4294967296 ∧ (left * 4294967296 + w) % 10 < 10 := by omega
section
variable {T : Tbl} [CRef07 T]
theorem ref02_norm_own (a : List UInt32) (hl : a.length ≤ 1000000) : callH T 2043 [.sl (u32s a) .an] [] =
  some (.bs (.loc 22) 1 1 0 (ofN (val a)).length, [(.loc 22, ⟨1, .own, 1, u32s (ofN (val a))⟩)]) := by
 obtain ⟨n, h1, h2, h3, h4⟩ := ofN_take a
 have hr := ref02_norm_loop (T := T) a (by omega) h1 h3 h4 a.length ⟨h1, Nat.le_refl _⟩
 rw [show l43_0 = l2043_0 from rfl] at hr
 have hlen : (ofN (val a)).length = n := by rw [← h2]; simp; omega
 have hb : n ≤ 4294967296 := by omega
 rw [f2043 _ _ rfl, b2043]
 simp -implicitDefEqProofs [hr, h1, h2, hb, hlen]
def stTen (N : Nat) (y : Nat × Nat × List UInt32) (P : List UInt32) : St :=
 ⟨[(0, .bs (.bor 0) 0 1 0 N), (3, u64 y.2.1), (4, .i .i64 ((y.1 : Int) - 1))], [(.bor 0, ⟨0, .own, 1, u32s (P.take y.1 ++ y.2.2)⟩)], 4⟩
end
section
variable {T : Tbl}
theorem ten_loop (a : List UInt32) (hl : a.length ≤ 1000000) : ∀ y : Nat × Nat × List UInt32,
  (y.1 ≤ a.length ∧ y.2.1 < 10 ∧ y.2.2.length = a.length - y.1 ∧ val (a.drop y.1) = 10 * val y.2.2 + y.2.1) →
  ∃ r, (∃ (c : Nat) (m : List UInt32), r = (Ex.n, (⟨[(3, u64 c)], [(.bor 0, ⟨0, .own, 1, u32s m⟩)], 4⟩ : St)) ∧ c < 10 ∧ m.length = a.length ∧ val a = 10 * val m + c) ∧
   loopN T 1 0 (.norm false [3]) l105_0 (stTen a.length y a) = some r := by
 refine loopN_ex _ _ (fun y => y.1) _ ?_
 rintro ⟨k, c, m⟩ ⟨hk, hc, hm, hv⟩
 simp only at hk hc hm hv
 cases k with
 | zero =>
  right
  rw [List.drop_zero] at hv
  refine ⟨_, ⟨c, m, rfl, hc, by omega, hv⟩, ?_, ?_⟩ <;> simp -implicitDefEqProofs [l105_0, stTen]
 | succ j =>
  left
  have hja : j < a.length := by omega
  have hy := u32_lt (a[j]'hja)
  have hd := List.drop_eq_getElem_cons hja
  have hw : IntKind.wrap .i64 ((j : Int) - 1) = (j : Int) - 1 := wrap_i64 _ (by omega)
  have ht : a.take (j + 1) = a.take j ++ [a[j]'hja] := List.take_succ_eq_append_getElem hja
  have hg : (a.take (j + 1) ++ m)[j]? = some (a[j]'hja) := by
   rw [ht, List.append_assoc, List.getElem?_append_right (by simp; omega)]
   simp [Nat.min_eq_left (Nat.le_of_lt hja)]
  have hset : ∀ w, (a.take (j + 1) ++ m).set j w = a.take j ++ w :: m := by
   intro w
   rw [ht, List.append_assoc, List.set_append_right _ _ (by simp; omega)]
   simp [Nat.min_eq_left (Nat.le_of_lt hja)]
  have hlen : (a.take (j + 1) ++ m).length = a.length := by simp; omega
  obtain ⟨s1, s2⟩ := ten_step hc hy
  refine ⟨(j, (c * 4294967296 + (a[j]'hja).toNat) % 10, w32 ((c * 4294967296 + (a[j]'hja).toNat) / 10) :: m), ⟨by simp only; omega, s2, by simp [hm]; omega, ?_⟩, Nat.lt_succ_self j, ?_⟩
  ·simp only
   rw [hd, val_cons, hv, val_cons, w32_of_lt s1]
   generalize (a[j]'hja).toNat = w at *
   omega
  ·have m1 : c * 4294967296 % 18446744073709551616 = c * 4294967296 := Nat.mod_eq_of_lt (by omega)
   have m2 : (a[j]'hja).toNat % 18446744073709551616 = (a[j]'hja).toNat := Nat.mod_eq_of_lt (by omega)
   have m3 : (c * 4294967296 + (a[j]'hja).toNat) % 18446744073709551616 = c * 4294967296 + (a[j]'hja).toNat := Nat.mod_eq_of_lt (by omega)
   have m4 : (c * 4294967296 + (a[j]'hja).toNat) / 10 % 18446744073709551616 = (c * 4294967296 + (a[j]'hja).toNat) / 10 := Nat.mod_eq_of_lt (by omega)
   have m5 : (c * 4294967296 + (a[j]'hja).toNat) / 10 % 4294967296 = (c * 4294967296 + (a[j]'hja).toNat) / 10 := Nat.mod_eq_of_lt (by omega)
   simp -implicitDefEqProofs [l105_0, stTen, hja, hw, hg, hset, m1, m2, m3, m4, m5, u32s_set _ _ _ s1]
end
section
variable {T : Tbl} [CRef07 T]
theorem ref07_ten (a : List UInt32) (hl : a.length ≤ 1000000) : ∃ m : List UInt32, m.length = a.length ∧ val m = val a / 10 ∧
  callH T 105 [.bs (.bor 0) 0 1 0 a.length] [(.bor 0, ⟨0, .own, 1, u32s a⟩)] = some (u64 (val a % 10), [(.bor 0, ⟨0, .own, 1, u32s m⟩)]) := by
 obtain ⟨_, ⟨c, m, rfl, hc, hm, hv⟩, hr⟩ := ten_loop (T := T) a hl (a.length, 0, []) ⟨Nat.le_refl _, (by decide : 0 < 10), by simp, by simp⟩
 have e1 : val a % 10 = c := by omega
 have hw : IntKind.wrap .i64 ((a.length : Int) - 1) = (a.length : Int) - 1 := wrap_i64 _ (by omega)
 refine ⟨m, hm, by omega, ?_⟩
 unfold stTen at hr
 simp at hr
 rw [e1, f105 _ _ rfl, b105]
 simp -implicitDefEqProofs [hw, hr]
def stTx (b : BId) (x : List UInt32) (s : List UInt8) : St := ⟨[(3, .bs b 1 1 0 x.length), (4, .s s)], [(b, ⟨1, .own, 1, u32s x⟩)], 3⟩
theorem tx_loop (K : Nat) (hK : 1 ≤ K ∧ K ≤ 100000) (res : List UInt8) : ∀ y : BId × Nat × List UInt8, ((y.1 = .fld (.loc 7) 22 ∨ y.1 = .fld (.loc 24) 22) ∧ (ofN y.2.1).length ≤ 1000 ∧ y.2.2.length ≤ K ∧ y.2.1 < 10 ^ (K - y.2.2.length) ∧ txN y.2.1 y.2.2 = res) →
  loopN T 0 0 (.norm false [4]) l69_0 (stTx y.1 (ofN y.2.1) y.2.2) = some (.n, ⟨[(4, .s res)], [], 2⟩) := by
 refine loopN_eq (fun y : BId × Nat × List UInt8 => stTx y.1 (ofN y.2.1) y.2.2) _ (fun y => y.2.1 + if y.2.2 = [] then 1 else 0) _ ?_
 rintro ⟨b, n, s⟩ ⟨hb, hl, hs, hn, hres⟩
 simp only at hb hl hs hn hres
 by_cases h0 : n = 0 ∧ s ≠ []
 ·right
  obtain ⟨rfl, hs0⟩ := h0
  have hr : res = s := by rw [← hres]; unfold txN; rw [if_pos ⟨rfl, hs0⟩]
  subst hr
  constructor <;> simp -implicitDefEqProofs [l69_0, stTx, hs0]
 ·left
  have hor : n = 0 → s = [] := fun h => Classical.byContradiction fun h2 => h0 ⟨h, h2⟩
  obtain ⟨m, hm, hvm, hten⟩ := ref07_ten (T := T) (ofN n) (by omega)
  rw [val_ofN] at hvm hten
  have hno := ref02_norm_own (T := T) m (by omega)
  rw [hvm] at hno
  have hd10 : n % 10 < 10 := Nat.mod_lt _ (by decide)
  have hdig := digit_at (n % 10) hd10
  have hstep := txN_step n s ((Nat.eq_zero_or_pos n).elim (fun h => .inr (hor h)) (fun h => .inl (by omega)))
  have hol : (ofN (n / 10)).length ≤ (ofN n).length := ofN_len_le (Nat.div_le_self _ _)
  have hk1 : s.length < K := by
   rcases Nat.lt_or_ge s.length K with h | h
   ·exact h
   ·rw [show K - s.length = 0 by omega, Nat.pow_zero] at hn
    rw [hor (by omega)] at h
    simp at h
    omega
  have hk2 : n / 10 < 10 ^ (K - (s.length + 1)) := by
   refine Nat.div_lt_of_lt_mul ?_
   rw [Nat.mul_comm, ← Nat.pow_succ, show (K - (s.length + 1)).succ = K - s.length by omega]
   exact hn
  have hgo : ¬ 0 < (ofN n).length → s = [] := by
   intro h
   exact hor (ofN_eq_nil.1 (List.eq_nil_of_length_eq_zero (by omega)))
  obtain ⟨d, hd⟩ : ∃ d, d = n % 10 := ⟨_, rfl⟩
  obtain ⟨q, hq⟩ : ∃ q, q = n / 10 := ⟨_, rfl⟩
  rw [← hd] at hten hd10 hdig hstep
  rw [← hq] at hno hstep hol hk2
  refine ⟨(.fld (.loc 24) 22, q, UInt8.ofNat (48 + d) :: s), ⟨.inr rfl, by simp only; omega, by simp only [List.length_cons]; omega, hk2, hstep.trans hres⟩, ?_, ?_, rfl⟩
  ·simp only [reduceCtorEq, if_false]
   rcases Nat.eq_zero_or_pos n with h1 | h1
   ·rw [if_pos (hor h1)]; omega
   ·split <;> omega
  ·have m1 : (d + 1) % 18446744073709551616 = d + 1 := Nat.mod_eq_of_lt (by omega)
   have m2 : (d : Int) + 1 ≤ 10 := by omega
   have m3 : 1 + s.length ≤ 9223372036854775807 := by omega
   have m4 : List.take (ofN n).length m = m := List.take_of_length_le (by omega)
   simp at hdig
   clear hd hq hn hk2 hvm
   rcases hb with rfl | rfl <;> by_cases hl0 : 0 < (ofN n).length
   ·simp -implicitDefEqProofs [l69_0, stTx, hten, hno, hdig, m1, m2, m3, m4, hm, hl0]
   ·have := hgo hl0
    subst this
    simp -implicitDefEqProofs [l69_0, stTx, hten, hno, hdig, m1, m2, m4, hm, hl0]
   ·simp -implicitDefEqProofs [l69_0, stTx, hten, hno, hdig, m1, m2, m3, m4, hm, hl0]
   ·have := hgo hl0
    subst this
    simp -implicitDefEqProofs [l69_0, stTx, hten, hno, hdig, m1, m2, m4, hm, hl0]
theorem ref07_text (a : List UInt32) (hl : a.length ≤ 1000) : callF T 69 [.sl (u32s a) .an] = some (.s (textN (val a))) := by
 have hno := ref02_norm_own (T := T) a (by omega)
 have hla := ofN_length_le a
 obtain ⟨K, hK⟩ : ∃ K, K = 10000 := ⟨_, rfl⟩
 have hv : val a < 10 ^ (K - 0) := by
  have h1 := val_lt a
  have h2 : 4294967296 ^ a.length ≤ (10 ^ 10) ^ a.length := Nat.pow_le_pow_left (by decide) _
  rw [← Nat.pow_mul] at h2
  have h3 : 10 ^ (10 * a.length) ≤ 10 ^ (K - 0) := Nat.pow_le_pow_right (by decide) (by omega)
  exact Nat.lt_of_lt_of_le h1 (Nat.le_trans h2 h3)
 have h := tx_loop (T := T) K ⟨by omega, by omega⟩ (textN (val a)) (.fld (.loc 7) 22, val a, []) ⟨.inl rfl, by simp only; omega, Nat.zero_le _, hv, by unfold txN; simp⟩
 unfold stTx at h
 simp at h
 rw [f69 _ rfl, b69]
 simp -implicitDefEqProofs [hno, h]
end
end Go.Ab
end

section
namespace Go.Ab
section
variable {T : Tbl}
def stDw (Q : List UInt32) (o n s i : Nat) : St := ⟨[(0, .bs (.bor 0) 0 1 o n), (1, .i .i64 s), (5, .i .i64 i)], [(.bor 0, ⟨0, .own, 1, u32s Q⟩)], 4⟩
end
section
variable {T : Tbl} [CRef02 T] [CRef04 T] [CRef05 T] [CRef07 T] [CRef06 T]
def stLw (Q R : List UInt32) (o n o2 n2 c i : Nat) : St := ⟨[(0, .bs (.bor 0) 0 1 o n), (1, .bs (.bor 1) 1 1 o2 n2), (4, u64 c), (5, .i .i64 i)], [(.bor 0, ⟨0, .own, 1, u32s Q⟩), (.bor 1, ⟨1, .own, 1, u32s R⟩)], 6⟩
def nmX : BId := .fld (.loc 12) 22
def nmY : BId := .fld (.loc 14) 22
def nm2 (f : Bool) : BId × BId := if f then (nmX, nmY) else (nmY, nmX)
def stGc (f : Bool) (P a S P2 b S2 : List UInt32) (m n : Nat) : St :=
 ⟨[(5, .bs (nm2 f).1 1 1 P.length a.length), (6, .bs (nm2 f).2 2 1 P2.length b.length), (7, .i .i64 m), (8, .i .i64 n)], [((nm2 f).1, ⟨1, .own, 1, u32s (P ++ (a ++ S))⟩), ((nm2 f).2, ⟨2, .own, 1, u32s (P2 ++ (b ++ S2))⟩)], 4⟩
structure Gc where
 f : Bool
 P : List UInt32
 S : List UInt32
 P2 : List UInt32
 S2 : List UInt32
 X : Nat
 Y : Nat
end
end Go.Ab
end

section
namespace Go.Ab
def b39 : AX :=
 (.seq
 (.reg [⟨(some 1), none, .xop (.box 2) [(.t 0)]⟩,
 ⟨(some 2), none, .alloc [(.b false), (.sl [] .nl)]⟩])
 (.seq
 (.reg [⟨(some 4), none, .fad 1 (.t 1)⟩,
 ⟨(some 5), none, .load none (.t 4)⟩,
 ⟨(some 6), none, .call 43 [(.t 5)]⟩,
 ⟨(some 3), none, .mov (.t 6)⟩])
 (.seq
 (.reg [⟨(some 7), none, .fad 0 (.t 1)⟩,
 ⟨(some 8), none, .load none (.t 7)⟩,
 ⟨(some 9), none, .mov (.t 8)⟩,
 ⟨(some 10), (some (9, true)), .mov (.t 3)⟩,
 ⟨(some 11), (some (9, true)), .len (.t 10)⟩,
 ⟨(some 12), (some (9, true)), .bin .gtr (.t 11) (.c (.i .i64 0))⟩,
 ⟨(some 13), none, .pick (.t 9) (.t 12) (.c (.b false))⟩,
 ⟨(some 14), none, .mov (.t 3)⟩,
 ⟨(some 15), none, .build [(.b false), (.sl [] .nl)] [(0, 1, (.t 13)), (1, 1, (.t 14))]⟩,
 ⟨none, none, .store 2 (.t 2) (.t 15)⟩])
 (.pre (.norm false [2]) .ret))))
def b21 : AX :=
 (.seq
 (.reg [⟨(some 2), none, .xop (.box 2) [(.t 0)]⟩,
 ⟨(some 3), none, .xop (.box 2) [(.t 1)]⟩,
 ⟨(some 4), none, .mov (.c (.b false))⟩])
 (.seq
 (.reg [⟨(some 5), none, .fad 0 (.t 2)⟩,
 ⟨(some 6), none, .load none (.t 5)⟩,
 ⟨(some 7), none, .fad 0 (.t 3)⟩,
 ⟨(some 8), none, .load none (.t 7)⟩,
 ⟨(some 9), none, .eqb false (.t 6) (.t 8)⟩,
 ⟨(some 10), none, .mov (.t 9)⟩,
 ⟨(some 11), (some (10, true)), .fad 1 (.t 2)⟩,
 ⟨(some 12), (some (10, true)), .load none (.t 11)⟩,
 ⟨(some 13), (some (10, true)), .fad 1 (.t 3)⟩,
 ⟨(some 14), (some (10, true)), .load none (.t 13)⟩,
 ⟨(some 15), (some (10, true)), .call 54 [(.t 12), (.t 14)]⟩,
 ⟨(some 16), none, .pick (.t 10) (.t 15) (.c (.b false))⟩,
 ⟨(some 4), none, .mov (.t 16)⟩])
 (.pre (.norm false [4]) .ret)))
def b30 : AX :=
 (.seq
 (.reg [⟨(some 1), none, .xop (.box 2) [(.t 0)]⟩,
 ⟨(some 2), none, .mov (.c (.i .i64 0))⟩])
 (.seq
 (.reg [⟨(some 4), none, .load (some 2) (.t 1)⟩,
 ⟨(some 5), none, .call 39 [(.t 4)]⟩,
 ⟨(some 3), none, .alloc [(.b false), (.sl [] .nl)]⟩,
 ⟨none, none, .store 2 (.t 3) (.t 5)⟩])
 (.seq
 (.seq
 (.reg [⟨(some 6), none, .fad 1 (.t 3)⟩,
 ⟨(some 7), none, .load none (.t 6)⟩,
 ⟨(some 8), none, .len (.t 7)⟩,
 ⟨(some 9), none, .bin .eql (.t 8) (.c (.i .i64 0))⟩])
 (.cond (.t 9)
 (.seq
 (.reg [⟨(some 2), none, .mov (.c (.i .i64 0))⟩])
 (.pre (.norm false [2]) .ret))
 .skip))
 (.seq
 (.seq
 (.reg [⟨(some 10), none, .fad 0 (.t 3)⟩,
 ⟨(some 11), none, .load none (.t 10)⟩])
 (.cond (.t 11)
 (.seq
 (.reg [⟨(some 2), none, .mov (.c (.i .i64 (-1)))⟩])
 (.pre (.norm false [2]) .ret))
 .skip))
 (.seq
 (.reg [⟨(some 2), none, .mov (.c (.i .i64 1))⟩])
 (.pre (.norm false [2]) .ret))))))
def b26 : AX :=
 (.seq
 (.reg [⟨(some 1), none, .xop (.box 2) [(.t 0)]⟩,
 ⟨(some 2), none, .alloc [(.b false), (.sl [] .nl)]⟩])
 (.seq
 (.reg [⟨(some 3), none, .fad 0 (.t 1)⟩,
 ⟨(some 4), none, .load none (.t 3)⟩,
 ⟨(some 5), none, .un .not (.t 4)⟩,
 ⟨(some 6), none, .fad 1 (.t 1)⟩,
 ⟨(some 7), none, .load none (.t 6)⟩,
 ⟨(some 8), none, .build [(.b false), (.sl [] .nl)] [(0, 1, (.t 5)), (1, 1, (.t 7))]⟩,
 ⟨(some 9), none, .call 39 [(.t 8)]⟩,
 ⟨none, none, .store 2 (.t 2) (.t 9)⟩])
 (.pre (.norm false [2]) .ret)))
def b24 : AX :=
 (.seq
 (.reg [⟨(some 2), none, .xop (.box 2) [(.t 0)]⟩,
 ⟨(some 3), none, .xop (.box 2) [(.t 1)]⟩,
 ⟨(some 4), none, .alloc [(.b false), (.sl [] .nl)]⟩])
 (.seq
 (.seq
 (.reg [⟨(some 5), none, .fad 0 (.t 2)⟩,
 ⟨(some 6), none, .load none (.t 5)⟩,
 ⟨(some 7), none, .fad 0 (.t 3)⟩,
 ⟨(some 8), none, .load none (.t 7)⟩,
 ⟨(some 9), none, .eqb false (.t 6) (.t 8)⟩])
 (.cond (.t 9)
 (.seq
 (.drawT [⟨(some 10), none, .fad 0 (.t 2)⟩,
 ⟨(some 11), none, .load none (.t 10)⟩,
 ⟨(some 12), none, .fad 1 (.t 2)⟩,
 ⟨(some 13), none, .load none (.t 12)⟩,
 ⟨(some 14), none, .fad 1 (.t 3)⟩,
 ⟨(some 15), none, .load none (.t 14)⟩,
 ⟨(some 16), none, .call 58 [(.t 13), (.t 15)]⟩]
 [⟨(some 17), none, .build [(.b false), (.sl [] .nl)] [(0, 1, (.t 11)), (1, 1, (.t 16))]⟩,
 ⟨(some 18), none, .call 39 [(.t 17)]⟩,
 ⟨none, none, .store 2 (.t 4) (.t 18)⟩])
 (.pre (.norm false [4]) .ret))
 .skip))
 (.seq
 (.seq
 (.reg [⟨(some 19), none, .fad 1 (.t 2)⟩,
 ⟨(some 20), none, .load none (.t 19)⟩,
 ⟨(some 21), none, .fad 1 (.t 3)⟩,
 ⟨(some 22), none, .load none (.t 21)⟩,
 ⟨(some 23), none, .call 52 [(.t 20), (.t 22)]⟩,
 ⟨(some 24), none, .bin .lss (.t 23) (.c (.i .i64 0))⟩])
 (.cond (.t 24)
 (.seq
 (.drawT [⟨(some 25), none, .fad 0 (.t 3)⟩,
 ⟨(some 26), none, .load none (.t 25)⟩,
 ⟨(some 27), none, .fad 1 (.t 3)⟩,
 ⟨(some 28), none, .load none (.t 27)⟩,
 ⟨(some 29), none, .fad 1 (.t 2)⟩,
 ⟨(some 30), none, .load none (.t 29)⟩,
 ⟨(some 31), none, .call 59 [(.t 28), (.t 30)]⟩]
 [⟨(some 32), none, .build [(.b false), (.sl [] .nl)] [(0, 1, (.t 26)), (1, 1, (.t 31))]⟩,
 ⟨(some 33), none, .call 39 [(.t 32)]⟩,
 ⟨none, none, .store 2 (.t 4) (.t 33)⟩])
 (.pre (.norm false [4]) .ret))
 .skip))
 (.seq
 (.drawT [⟨(some 34), none, .fad 0 (.t 2)⟩,
 ⟨(some 35), none, .load none (.t 34)⟩,
 ⟨(some 36), none, .fad 1 (.t 2)⟩,
 ⟨(some 37), none, .load none (.t 36)⟩,
 ⟨(some 38), none, .fad 1 (.t 3)⟩,
 ⟨(some 39), none, .load none (.t 38)⟩,
 ⟨(some 40), none, .call 59 [(.t 37), (.t 39)]⟩]
 [⟨(some 41), none, .build [(.b false), (.sl [] .nl)] [(0, 1, (.t 35)), (1, 1, (.t 40))]⟩,
 ⟨(some 42), none, .call 39 [(.t 41)]⟩,
 ⟨none, none, .store 2 (.t 4) (.t 42)⟩])
 (.pre (.norm false [4]) .ret)))))
def b28 : AX :=
 (.seq
 (.reg [⟨(some 2), none, .xop (.box 2) [(.t 0)]⟩,
 ⟨(some 3), none, .xop (.box 2) [(.t 1)]⟩,
 ⟨(some 4), none, .alloc [(.b false), (.sl [] .nl)]⟩])
 (.seq
 (.drawT [⟨(some 5), none, .fad 0 (.t 2)⟩,
 ⟨(some 6), none, .load none (.t 5)⟩,
 ⟨(some 7), none, .fad 0 (.t 3)⟩,
 ⟨(some 8), none, .load none (.t 7)⟩,
 ⟨(some 9), none, .eqb true (.t 6) (.t 8)⟩,
 ⟨(some 10), none, .fad 1 (.t 2)⟩,
 ⟨(some 11), none, .load none (.t 10)⟩,
 ⟨(some 12), none, .fad 1 (.t 3)⟩,
 ⟨(some 13), none, .load none (.t 12)⟩,
 ⟨(some 14), none, .call 61 [(.t 11), (.t 13)]⟩]
 [⟨(some 15), none, .build [(.b false), (.sl [] .nl)] [(0, 1, (.t 9)), (1, 1, (.t 14))]⟩,
 ⟨(some 16), none, .call 39 [(.t 15)]⟩,
 ⟨none, none, .store 2 (.t 4) (.t 16)⟩])
 (.pre (.norm false [4]) .ret)))
def b31 : AX :=
 (.seq
 (.reg [⟨(some 2), none, .xop (.box 2) [(.t 0)]⟩,
 ⟨(some 3), none, .xop (.box 2) [(.t 1)]⟩,
 ⟨(some 4), none, .alloc [(.b false), (.sl [] .nl)]⟩,
 ⟨(some 5), none, .alloc [(.b false), (.sl [] .nl)]⟩])
 (.seq
 (.reg [⟨(some 10), none, .fad 1 (.t 2)⟩,
 ⟨(some 11), none, .load none (.t 10)⟩,
 ⟨(some 12), none, .fad 1 (.t 3)⟩,
 ⟨(some 13), none, .load none (.t 12)⟩,
 ⟨(some 14), none, .call 63 [(.t 11), (.t 13)]⟩,
 ⟨(some 9), none, .mov (.t 14)⟩,
 ⟨(some 15), none, .ext (.t 9) 0⟩,
 ⟨(some 16), none, .ext (.t 9) 1⟩,
 ⟨(some 6), none, .mov (.t 15)⟩,
 ⟨(some 7), none, .mov (.t 16)⟩])
 (.seq
 (.seq
 (.reg [⟨(some 17), none, .fad 0 (.t 2)⟩,
 ⟨(some 18), none, .load none (.t 17)⟩,
 ⟨(some 19), none, .fad 0 (.t 3)⟩,
 ⟨(some 20), none, .load none (.t 19)⟩,
 ⟨(some 21), none, .eqb true (.t 18) (.t 20)⟩,
 ⟨(some 22), none, .mov (.t 21)⟩,
 ⟨(some 23), (some (22, true)), .mov (.t 7)⟩,
 ⟨(some 24), (some (22, true)), .len (.t 23)⟩,
 ⟨(some 25), (some (22, true)), .bin .gtr (.t 24) (.c (.i .i64 0))⟩,
 ⟨(some 26), none, .pick (.t 22) (.t 25) (.c (.b false))⟩])
 (.cond (.t 26)
 (.reg [⟨(some 27), none, .mov (.t 6)⟩,
 ⟨(some 28), none, .bsl 1 [(u32 0)] 1 [(0, (.c (u32 1)))]⟩,
 ⟨(some 29), none, .call 58 [(.t 27), (.t 28)]⟩,
 ⟨(some 6), none, .mov (.t 29)⟩])
 .skip))
 (.seq
 (.reg [⟨(some 30), none, .fad 0 (.t 2)⟩,
 ⟨(some 31), none, .load none (.t 30)⟩,
 ⟨(some 32), none, .fad 0 (.t 3)⟩,
 ⟨(some 33), none, .load none (.t 32)⟩,
 ⟨(some 34), none, .eqb true (.t 31) (.t 33)⟩,
 ⟨(some 35), none, .mov (.t 6)⟩,
 ⟨(some 36), none, .build [(.b false), (.sl [] .nl)] [(0, 1, (.t 34)), (1, 1, (.t 35))]⟩,
 ⟨(some 37), none, .call 39 [(.t 36)]⟩,
 ⟨(some 8), none, .alloc [(.b false), (.sl [] .nl)]⟩,
 ⟨none, none, .store 2 (.t 8) (.t 37)⟩])
 (.seq
 (.drawT [⟨(some 38), none, .load (some 2) (.t 8)⟩,
 ⟨(some 39), none, .load (some 2) (.t 2)⟩,
 ⟨(some 40), none, .load (some 2) (.t 8)⟩,
 ⟨(some 41), none, .load (some 2) (.t 3)⟩,
 ⟨(some 42), none, .call 28 [(.t 40), (.t 41)]⟩,
 ⟨(some 43), none, .call 26 [(.t 42)]⟩,
 ⟨(some 44), none, .call 24 [(.t 39), (.t 43)]⟩]
 [⟨none, none, .store 2 (.t 4) (.t 38)⟩,
 ⟨none, none, .store 2 (.t 5) (.t 44)⟩])
 (.pre (.norm false [4, 5]) .ret))))))
def b35 : AX :=
 (.seq
 (.reg [⟨(some 1), none, .xop (.box 2) [(.t 0)]⟩,
 ⟨(some 2), none, .mov (.c (.s []))⟩])
 (.seq
 (.reg [⟨(some 4), none, .fad 1 (.t 1)⟩,
 ⟨(some 5), none, .load none (.t 4)⟩,
 ⟨(some 6), none, .call 69 [(.t 5)]⟩,
 ⟨(some 3), none, .mov (.t 6)⟩])
 (.seq
 (.seq
 (.reg [⟨(some 7), none, .load (some 2) (.t 1)⟩,
 ⟨(some 8), none, .call 30 [(.t 7)]⟩,
 ⟨(some 9), none, .bin .lss (.t 8) (.c (.i .i64 0))⟩])
 (.cond (.t 9)
 (.reg [⟨(some 10), none, .mov (.t 3)⟩,
 ⟨(some 11), none, .bin .add (.c (.s [45])) (.t 10)⟩,
 ⟨(some 3), none, .mov (.t 11)⟩])
 .skip))
 (.seq
 (.reg [⟨(some 12), none, .mov (.t 3)⟩,
 ⟨(some 2), none, .mov (.t 12)⟩])
 (.pre (.norm false [2]) .ret)))))
def b33 : AX :=
 (.seq
 (.reg [⟨(some 2), none, .alloc [(.b false), (.sl [] .nl)]⟩,
 ⟨(some 3), none, .mov (.c (.i .i64 0))⟩])
 (.seq
 (.reg [⟨(some 7), none, .mov (.t 0)⟩,
 ⟨(some 8), none, .lens (.t 7)⟩,
 ⟨(some 9), none, .bin .gtr (.t 8) (.c (.i .i64 0))⟩,
 ⟨(some 10), none, .mov (.t 9)⟩,
 ⟨(some 11), (some (10, true)), .mov (.t 0)⟩,
 ⟨(some 12), (some (10, true)), .ixs (.t 11) (.c (.i .i64 0))⟩,
 ⟨(some 13), (some (10, true)), .bin .eql (.t 12) (.c (u8 45))⟩,
 ⟨(some 14), none, .pick (.t 10) (.t 13) (.c (.b false))⟩,
 ⟨(some 4), none, .mov (.t 14)⟩])
 (.seq
 (.reg [⟨(some 5), none, .mov (.c (.i .i64 0))⟩])
 (.seq
 (.seq
 (.reg [⟨(some 15), none, .mov (.t 4)⟩])
 (.cond (.t 15)
 (.reg [⟨(some 5), none, .mov (.c (.i .i64 1))⟩])
 .skip))
 (.seq
 (.reg [⟨(some 16), none, .mov (.t 0)⟩,
 ⟨(some 17), none, .mov (.t 5)⟩,
 ⟨(some 18), none, .slstr (.t 16) (some (.t 17)) none⟩,
 ⟨(some 19), none, .call 66 [(.t 18)]⟩,
 ⟨(some 6), none, .mov (.t 19)⟩])
 (.seq
 (.seq
 (.reg [⟨(some 20), none, .mov (.t 6)⟩,
 ⟨(some 21), none, .bin .geq (.t 20) (.c (.i .i64 0))⟩])
 (.cond (.t 21)
 (.seq
 (.reg [⟨(some 22), none, .build [(.b false), (.sl [] .nl)] []⟩,
 ⟨(some 23), none, .mov (.t 5)⟩,
 ⟨(some 24), none, .mov (.t 6)⟩,
 ⟨(some 25), none, .bin .add (.t 23) (.t 24)⟩,
 ⟨none, none, .store 2 (.t 2) (.t 22)⟩,
 ⟨(some 3), none, .mov (.t 25)⟩])
 (.pre (.norm false [2, 3]) .ret))
 .skip))
 (.seq
 (.reg [⟨(some 26), none, .mov (.t 4)⟩,
 ⟨(some 27), none, .mov (.t 0)⟩,
 ⟨(some 28), none, .mov (.t 5)⟩,
 ⟨(some 29), none, .slstr (.t 27) (some (.t 28)) none⟩,
 ⟨(some 30), none, .call 67 [(.t 29)]⟩,
 ⟨(some 31), none, .build [(.b false), (.sl [] .nl)] [(0, 1, (.t 26)), (1, 1, (.t 30))]⟩,
 ⟨(some 32), none, .call 39 [(.t 31)]⟩,
 ⟨none, none, .store 2 (.t 2) (.t 32)⟩,
 ⟨(some 3), none, .mov (.c (.i .i64 (-1)))⟩])
 (.pre (.norm false [2, 3]) .ret))))))))
class CRef08 (T : Tbl) : Prop extends CRef07 T where
 h39 : T 39 = some ⟨1, 16, [.cell 2 (some 2)], b39, none, false⟩
 h21 : T 21 = some ⟨2, 17, [.t 4], b21, none, false⟩
 h30 : T 30 = some ⟨1, 12, [.t 2], b30, none, false⟩
 h26 : T 26 = some ⟨1, 10, [.cell 2 (some 2)], b26, none, false⟩
 h24 : T 24 = some ⟨2, 43, [.cell 4 (some 2)], b24, none, false⟩
 h28 : T 28 = some ⟨2, 17, [.cell 4 (some 2)], b28, none, false⟩
 h31 : T 31 = some ⟨2, 45, [.cell 4 (some 2), .cell 5 (some 2)], b31, none, false⟩
 h35 : T 35 = some ⟨1, 13, [.t 2], b35, none, false⟩
 h33 : T 33 = some ⟨1, 33, [.cell 2 (some 2), .t 3], b33, none, false⟩
section
variable {T : Tbl} [CRef08 T] {d : Option Nat} {st : St}
@[simp] theorem x39 (xs : List AV) : callX (orc T) T 39 xs d st = bL (frzL st.heap xs) fun ys => cR (callF T 39 (ys.map (wkIf false))) xs d st := callX_pure CRef08.h39
@[simp] theorem x21 (xs : List AV) : callX (orc T) T 21 xs d st = bL (frzL st.heap xs) fun ys => cR (callF T 21 (ys.map (wkIf false))) xs d st := callX_pure CRef08.h21
@[simp] theorem x30 (xs : List AV) : callX (orc T) T 30 xs d st = bL (frzL st.heap xs) fun ys => cR (callF T 30 (ys.map (wkIf false))) xs d st := callX_pure CRef08.h30
@[simp] theorem x26 (xs : List AV) : callX (orc T) T 26 xs d st = bL (frzL st.heap xs) fun ys => cR (callF T 26 (ys.map (wkIf false))) xs d st := callX_pure CRef08.h26
@[simp] theorem x24 (xs : List AV) : callX (orc T) T 24 xs d st = bL (frzL st.heap xs) fun ys => cR (callF T 24 (ys.map (wkIf false))) xs d st := callX_pure CRef08.h24
@[simp] theorem x28 (xs : List AV) : callX (orc T) T 28 xs d st = bL (frzL st.heap xs) fun ys => cR (callF T 28 (ys.map (wkIf false))) xs d st := callX_pure CRef08.h28
@[simp] theorem x31 (xs : List AV) : callX (orc T) T 31 xs d st = bL (frzL st.heap xs) fun ys => cR (callF T 31 (ys.map (wkIf false))) xs d st := callX_pure CRef08.h31
@[simp] theorem x35 (xs : List AV) : callX (orc T) T 35 xs d st = bL (frzL st.heap xs) fun ys => cR (callF T 35 (ys.map (wkIf false))) xs d st := callX_pure CRef08.h35
@[simp] theorem x33 (xs : List AV) : callX (orc T) T 33 xs d st = bL (frzL st.heap xs) fun ys => cR (callF T 33 (ys.map (wkIf false))) xs d st := callX_pure CRef08.h33
end
end Go.Ab
end

section
namespace Go.Ab
end Go.Ab
end

section
namespace Go.Ab
end Go.Ab
end

section
namespace Go.Ab
section
variable {T : Tbl} [CRef02 T] [CRef04 T] [CRef05 T] [CRef07 T] [CRef06 T] [CRef08 T] [CRef09 T] [CRef11 T]
def stZ1 (n i : Nat) : St := ⟨[(0, .i .i64 n), (3, .bs (.loc 3) 1 3 0 i), (4, .i .i64 i)], [(.loc 3, ⟨1, .own, 3, rowF (List.replicate i (fz 0))⟩)], 3⟩
def stN1 (l : List Fz) (i : Nat) : St := ⟨[(0, .sl (rowF l) .an), (3, .bs (.loc 3) 1 3 0 i), (4, .i .i64 i)], [(.loc 3, ⟨1, .own, 3, rowF (nrm (l.take i))⟩)], 3⟩
def stS1 (a b : List Fz) (i : Nat) : St := ⟨[(0, .sl (rowF a) .an), (1, .sl (rowF b) .an), (5, .i .i64 i)], [], 2⟩
def stA1 (p q : List Rat) (i : Nat) : St := ⟨[(0, .sl (rowF (fzs p)) .an), (1, .sl (rowF (fzs q)) .an), (5, .bs (.loc 5) 1 3 0 i), (6, .i .i64 i)], [(.loc 5, ⟨1, .own, 3, rowF (fzs ((addP p (fzs q)).take i))⟩)], 3⟩
def stD1 (p q : List Rat) (i : Nat) : St := ⟨[(0, .sl (rowF (fzs p)) .an), (1, .sl (rowF (fzs q)) .an), (4, .ptr (.loc 4) 1 3 0 0), (5, .ptr (.loc 5) 2 3 0 0), (6, .i .i64 i)],
 [(.loc 4, ⟨1, .str, 3, [nocell]⟩), (.loc 5, ⟨2, .str, 3, [celF (fz (dotK (fzs p) (fzs q) i))]⟩)], 4⟩
def longB (l : List Fz) (many words : Nat) : Bool := decide (many < l.length) || l.any fun x => decide (words < fsz x)
def stL1 (l : List Fz) (many words : Nat) (i : Nat) : St := ⟨[(0, .sl (rowF l) .an), (1, .i .i64 many), (2, .i .i64 words), (7, .i .i64 i)], [], 2⟩
end
end Go.Ab
end

section
namespace Go.Ab
def cap300 (n : Int) : Nat := (min (max n 0) 300).toNat
section
variable {T : Tbl} [CNat T] [CProd T] [CTwos T] [CQuot T] [CQuotD T] [CText T] [CWhole T] [CCommon T] [CFrac T] [CJoin T] [CRow T]
def unitR (n i : Int) : List Rat := if 0 ≤ i ∧ i < cap300 n then (List.replicate (cap300 n) 0).set i.toNat 1 else List.replicate (cap300 n) 0
end
section
variable {T : Tbl} [CRef02 T] [CRef04 T] [CRef05 T] [CRef07 T] [CRef06 T] [CRef08 T] [CRef09 T] [CRef11 T]
def stZ1x (n : Int) (i : Nat) : St := ⟨[(0, .i .i64 n), (3, .bs (.loc 3) 1 3 0 i), (4, .i .i64 i)], [(.loc 3, ⟨1, .own, 3, rowF (List.replicate i (fz 0))⟩)], 3⟩
end
end Go.Ab
end

section
namespace Go.Ab
class CGrid (T : Tbl) : Prop where
end Go.Ab
end

section
namespace Go.Ab
class CLaw09 (T : Tbl) : Prop where
end Go.Ab
end

section
namespace Go.Ab
class CLaw11 (T : Tbl) : Prop where
end Go.Ab
end

section
namespace Go.Ab
section
variable {T : Tbl} [CRef02 T] [CRef04 T] [CRef05 T] [CRef07 T] [CRef06 T] [CRef08 T] [CRef09 T] [CRef11 T] [CLaw09 T] [CLaw11 T]
def stTo11 (l : List Fz) (i : Nat) : St := ⟨[(0, .sl (rowF l) .an), (3, .bs (.loc 3) 1 3 0 i), (4, .i .i64 i)], [((.loc 3), ⟨1, .own, 3, rowF (l.take i)⟩)], 3⟩
def stOf11 (l : List Fz) (i : Nat) : St := ⟨[(0, .sl (rowF l) .an), (3, .bs (.loc 3) 1 3 0 i), (4, .i .i64 i)], [((.loc 3), ⟨1, .own, 3, rowF (l.take i)⟩)], 3⟩
end
end Go.Ab
end

section
namespace Go.Ab
def widthM : List (List Fz) → Nat
 | [] => 0
 | r :: _ => r.length
def rightM (m : List (List Fz)) : Bool := m.all fun r => decide (r.length = widthM m)
def colM (m : List (List Fz)) (j : Nat) : List Fz := m.map fun r => r.getD j (false, [], [])
def turnM (m : List (List Fz)) (k : Nat) : List (List Fz) := (List.range k).map fun j => nrm (colM m j)
def scM (r : List Fz) (m : List (List Fz)) : List (List Fz) := List.zipWith (fun x row => scl (fv x) row) r m
def sumM : List (List Fz) → List Rat
 | [] => []
 | r :: m => m.foldl addP (r.map fv)
def leftQ (r : List Fz) (m : List (List Fz)) : List Rat := sumM (scM r m)
def applyQ (m : List (List Fz)) (c : List Fz) : List Rat := m.map fun r => dotQ r c
section
variable {T : Tbl} [CNat T] [CProd T] [CTwos T] [CQuot T] [CQuotD T] [CText T] [CWhole T] [CCommon T] [CFrac T] [CJoin T] [CRow T] [CGrid T]
def stGrR (m : List (List Fz)) (i : Nat) : St := ⟨[(0, .sl (matF m) .an), (5, .sl (matF m) .an), (6, .i .i64 m.length), (7, .i .i64 i)], [], 2⟩
def stGrS (a b : List (List Fz)) (i : Nat) : St := ⟨[(1, .sl (matF b) .an), (12, .sl (matF a) .an), (13, .i .i64 a.length), (14, .i .i64 i)], [], 2⟩
def idQ (k : Nat) (i : Nat) : List (List Fz) := (List.range i).map fun j => fzs ((List.replicate k 0).set j 1)
def stGrI (k : Nat) (i : Nat) : St := ⟨[(0, .i .i64 k), (3, .bs (.loc 3) 1 1 0 i), (8, .i .i64 k), (9, .i .i64 i)], [((.loc 3), ⟨1, .own, 1, matF (idQ k i)⟩)], 3⟩
def stGrT (m R : List (List Fz)) (k j : Nat) (i : Nat) : St := ⟨[(0, .sl (matF m) .an), (3, .bs (.loc 3) 1 1 0 j), (4, .i .i64 j), (5, .bs (.loc 5) 2 3 0 i), (12, .i .i64 k), (13, .i .i64 j), (16, .sl (matF m) .an), (17, .i .i64 m.length), (18, .i .i64 i)], [(.loc 3, ⟨1, .own, 1, matF R⟩), ((.loc 5), ⟨2, .own, 3, rowF (nrm (colM (m.take i) j))⟩)], 4⟩
def stTo12t (m : List (List Fz)) (k : Nat) (i : Nat) : St := ⟨[(0, .sl (matF m) .an), (3, .bs (.loc 3) 1 1 0 i), (12, .i .i64 k), (13, .i .i64 i)], [((.loc 3), ⟨1, .own, 1, matF (turnM m i)⟩)], 3⟩
end
end Go.Ab
end

section
namespace Go.Ab
section
variable {T : Tbl} [CNat T] [CProd T] [CTwos T] [CQuot T] [CQuotD T] [CText T] [CWhole T] [CCommon T] [CFrac T] [CJoin T] [CRow T] [CGrid T]
def stGrL (r : List Fz) (m : List (List Fz)) (i : Nat) : St := ⟨[(0, .sl (rowF r) .an), (6, .bs (.loc 6) 1 1 0 i), (19, .sl (matF m) .an), (20, .i .i64 m.length), (21, .i .i64 i)], [((.loc 6), ⟨1, .own, 1, matF (scM (r.take i) (m.take i))⟩)], 3⟩
def stGrA (m : List (List Fz)) (c : List Fz) (i : Nat) : St := ⟨[(1, .sl (rowF c) .an), (6, .bs (.loc 6) 1 3 0 i), (21, .sl (matF m) .an), (22, .i .i64 m.length), (23, .i .i64 i)], [((.loc 6), ⟨1, .own, 3, rowF (fzs (applyQ (m.take i) c))⟩)], 3⟩
def mulM (a b : List (List Fz)) : List (List Fz) := a.map fun r => fzs (leftQ r b)
def stGrM (a m : List (List Fz)) (i : Nat) : St := ⟨[(1, .sl (matF m) .an), (6, .bs (.loc 6) 1 1 0 i), (26, .sl (matF a) .an), (27, .i .i64 a.length), (28, .i .i64 i)], [((.loc 6), ⟨1, .own, 1, matF (mulM (a.take i) m)⟩)], 3⟩
def addM (a b : List (List Fz)) : List (List Fz) := List.zipWith (fun r s => fzs (addP (r.map fv) s)) a b
def stGrP (a m : List (List Fz)) (i : Nat) : St := ⟨[(1, .sl (matF m) .an), (6, .bs (.loc 6) 1 1 0 i), (33, .sl (matF a) .an), (34, .i .i64 a.length), (35, .i .i64 i)], [((.loc 6), ⟨1, .own, 1, matF (addM (a.take i) (m.take i))⟩)], 3⟩
end
end Go.Ab
end

section
namespace Go.Ab
def dotR : List Rat → List Rat → Rat
 | x :: a, y :: b => x * y + dotR a b
 | _, _ => 0
def valM (m : List (List Fz)) : List (List Rat) := m.map fun r => r.map fv
def fzM (L : List (List Rat)) : List (List Fz) := L.map fzs
@[simp] theorem fzM_length (L : List (List Rat)) : (fzM L).length = L.length := by simp [fzM]
@[simp] theorem valM_length (m : List (List Fz)) : (valM m).length = m.length := by simp [valM]
@[simp] theorem valM_fzM (L : List (List Rat)) : valM (fzM L) = L := by
 unfold valM fzM
 rw [List.map_map]
 simp [Function.comp_def]
def widthQ : List (List Rat) → Nat
 | [] => 0
 | r :: _ => r.length
def rightQ (L : List (List Rat)) : Bool := L.all fun r => decide (r.length = widthQ L)
def colQ (L : List (List Rat)) (j : Nat) : List Rat := L.map fun p => p.getD j 0
def turnQ (L : List (List Rat)) : List (List Rat) := (List.range (widthQ L)).map (colQ L)
def applyR (L : List (List Rat)) (c : List Rat) : List Rat := L.map fun p => dotR p c
def leftR (r : List Rat) (L : List (List Rat)) : List Rat := applyR (turnQ L) r
end Go.Ab
end

section
namespace Go.Ab
class CFrac2 (T : Tbl) : Prop where
end Go.Ab
end

section
namespace Go.Ab
def absQ (q : Rat) : Rat := if q < 0 then -q else q
end Go.Ab
end

section
namespace Go.Ab
def sclR (c : Rat) (l : List Rat) : List Rat := l.map fun x => c * x
def addR (a b : List Rat) : List Rat := List.zipWith (· + ·) a b
def maxStep (b x : Rat) : Rat := if b < absQ x then absQ x else b
def normR (l : List Rat) : Rat := l.foldl maxStep 0
def mixR : List (Rat × List Rat) → List Rat → List Rat
 | [], acc => acc
 | p :: l, acc => mixR l (addR acc (sclR p.1 p.2))
end Go.Ab
end

section
namespace Go.Ab
class CPow (T : Tbl) : Prop where
end Go.Ab
end

section
namespace Go.Ab
def sqC : List UInt32 → Nat
 | [] => 0
 | x :: r => 4294967296 * (x.toNat * val r) + 4294967296 * 4294967296 * sqC r
def sqD : List UInt32 → Nat
 | [] => 0
 | x :: r => x.toNat * x.toNat + 4294967296 * 4294967296 * sqD r
section
variable {T : Tbl} [CLimb T] [CNat T] [CProd T] [CTwos T] [CPow T]
def stSqA (a X : List UInt32) (i : Nat) : St :=
 ⟨[(0, .sl (u32s a) .an), (3, .bs (.loc 14) 1 1 0 (2 * a.length + 1)), (15, .sl (u32s a) .an), (16, .i .i64 a.length), (17, .i .i64 i)], [(.loc 14, ⟨1, .own, 1, u32s (X ++ List.replicate (a.length + 1 - i) 0)⟩)], 3⟩
def stSqD (a X : List UInt32) (U : List (List AV)) (i : Nat) : St :=
 ⟨[(6, .sl U .an), (7, .bs (.loc 38) 1 1 0 (2 * a.length)), (39, .sl (u32s a) .an), (40, .i .i64 a.length), (41, .i .i64 i)], [(.loc 38, ⟨1, .own, 1, u32s (X ++ List.replicate (2 * a.length - 2 * i) 0)⟩)], 3⟩
end
end Go.Ab
end

section
namespace Go.Ab
class CLaw12 (T : Tbl) : Prop where
end Go.Ab
end

section
namespace Go.Ab
class CRef12 (T : Tbl) : Prop where
end Go.Ab
end

section
namespace Go.Ab
section
variable {T : Tbl} [CRef02 T] [CRef04 T] [CRef05 T] [CRef07 T] [CRef06 T] [CRef08 T] [CRef09 T] [CRef11 T] [CRef12 T]
def stR12 (m : List (List Fz)) (i : Nat) : St := ⟨[(0, .sl (matF m) .an), (3, .i .i64 i)], [], 2⟩
def stN12 (m : List (List Fz)) (i : Nat) : St := ⟨[(0, .sl (matF m) .an), (3, .bs (.loc 3) 1 1 0 i), (4, .i .i64 i)], [((.loc 3), ⟨1, .own, 1, matF (fzM (valM (m.take i)))⟩)], 3⟩
def stS12 (a b : List (List Fz)) (i : Nat) : St := ⟨[(0, .sl (matF a) .an), (1, .sl (matF b) .an), (5, .i .i64 i)], [], 2⟩
def stI12 (n : Int) (k : Nat) (i : Nat) : St := ⟨[(0, .i .i64 n), (3, .bs (.loc 3) 1 1 0 i), (4, .i .i64 i)], [((.loc 3), ⟨1, .own, 1, matF (idQ k i)⟩)], 3⟩
def stT12i (L : List (List Rat)) (R : List (List Fz)) (j : Nat) (i : Nat) : St := ⟨[(0, .sl (matF (fzM L)) .an), (3, .bs (.loc 3) 1 1 0 j), (4, .i .i64 j), (5, .bs (.loc 5) 2 3 0 i), (6, .i .i64 i)], [(.loc 3, ⟨1, .own, 1, matF R⟩), ((.loc 5), ⟨2, .own, 3, rowF (fzs (colQ (L.take i) j))⟩)], 4⟩
def stT12o (L : List (List Rat)) (i : Nat) : St := ⟨[(0, .sl (matF (fzM L)) .an), (3, .bs (.loc 3) 1 1 0 i), (4, .i .i64 i)], [((.loc 3), ⟨1, .own, 1, matF (fzM ((List.range i).map (colQ L)))⟩)], 3⟩
def stA12 (L : List (List Rat)) (c : List Rat) (i : Nat) : St := ⟨[(0, .sl (matF (fzM L)) .an), (1, .sl (rowF (fzs c)) .an), (5, .bs (.loc 5) 1 3 0 i), (6, .i .i64 i)], [((.loc 5), ⟨1, .own, 3, rowF (fzs (applyR (L.take i) c))⟩)], 3⟩
def longM (m : List (List Fz)) (many words : Nat) : Bool := decide (many < m.length) || m.any fun r => longB r many words
def stL12 (m : List (List Fz)) (many words : Nat) (i : Nat) : St := ⟨[(0, .sl (matF m) .an), (1, .i .i64 many), (2, .i .i64 words), (7, .i .i64 i)], [], 2⟩
end
end Go.Ab
end

section
namespace Go.Ab
section
variable {T : Tbl} [CNat T] [CProd T] [CTwos T] [CQuot T] [CQuotD T] [CText T] [CWhole T] [CCommon T] [CFrac T] [CJoin T] [CRow T] [CGrid T] [CRef02 T] [CRef04 T] [CRef05 T] [CRef07 T] [CRef06 T] [CRef08 T] [CRef09 T] [CRef11 T] [CRef12 T] [CLaw09 T] [CLaw11 T] [CLaw12 T]
def stTo12 (m : List (List Fz)) (i : Nat) : St := ⟨[(0, .sl (matF m) .an), (3, .bs (.loc 3) 1 1 0 i), (4, .i .i64 i)], [((.loc 3), ⟨1, .own, 1, matF (m.take i)⟩)], 3⟩
def stI12s (a b : List (List Fz)) (i : Nat) : St := ⟨[(0, .sl (matF a) .an), (1, .sl (matF b) .an), (5, .i .i64 i)], [], 2⟩
end
end Go.Ab
end

section
namespace Go.Ab
class CPoly (T : Tbl) : Prop where
end Go.Ab
end

section
namespace Go.Ab
def tlen (l : List Rat) : Nat → Nat
 | 0 => 0
 | n + 1 => if l.getD n 0 = 0 then tlen l n else n + 1
def trimR (l : List Rat) : List Rat := l.take (tlen l l.length)
section
variable {T : Tbl} [CNat T] [CProd T] [CTwos T] [CQuot T] [CQuotD T] [CText T] [CWhole T] [CCommon T] [CFrac T] [CJoin T] [CRow T] [CPoly T]
def evlR : List Rat → Rat → Rat
 | [], _ => 0
 | a :: l, x => evlR l x * x + a
def dif (l : List Rat) : List Rat := (List.range (l.length - 1)).map fun (i : Nat) => (((i : Int) + 1 : Int) : Rat) * l.getD (i + 1) 0
def stDf (l : List Fz) (i : Nat) : St := ⟨[(0, .sl (rowF l) .an), (3, .bs (.loc 3) 1 3 0 i), (4, .i .i64 ((i : Int) + 1))], [((.loc 3), ⟨1, .own, 3, rowF (fzs ((dif (l.map fv)).take i))⟩)], 3⟩
end
end Go.Ab
end

section
namespace Go.Ab
def sizF (x : Fz) : Nat := blen (val x.2.1) + blen (val x.2.2)
def sizL (l : List Fz) : Nat := l.foldl (fun n x => max n (sizF x)) 0
section
variable {T : Tbl} [CLimb T] [CNat T] [CProd T] [CTwos T] [CQuot T] [CQuotD T] [CText T] [CWhole T] [CCommon T] [CFrac T] [CFrac2 T] [CFrac5 T] [CPow T] [CJoin T] [CRow T] [CRow5 T]
def bestI (b c : Rat) (i : Nat) : Rat := if i = 0 then 0 else if i = 1 then b else (if b < c then c else b)
def stMx (b c : Rat) (i : Nat) : St := ⟨[(2, .ptr (.loc 2) 1 3 0 0), (3, .ptr (.loc 3) 2 3 0 0), (7, .sl [celF (fz b), celF (fz c)] .an), (8, .i .i64 2), (9, .i .i64 i)],
 [(.loc 2, ⟨1, .str, 3, [nocell]⟩), (.loc 3, ⟨2, .str, 3, [celF (fz (bestI b c i))]⟩)], 4⟩
def stRn (l : List Fz) (i : Nat) : St := ⟨[(2, .ptr (.loc 2) 1 3 0 0), (3, .ptr (.loc 3) 2 3 0 0), (7, .sl (rowF l) .an), (8, .i .i64 l.length), (9, .i .i64 i)],
 [(.loc 2, ⟨1, .str, 3, [nocell]⟩), (.loc 3, ⟨2, .str, 3, [celF (fz (normR ((l.map fv).take i)))]⟩)], 4⟩
def stRs (l : List Fz) (i : Nat) : St := ⟨[(3, .i .i64 (sizL (l.take i))), (6, .sl (rowF l) .an), (7, .i .i64 l.length), (8, .i .i64 i)], [], 2⟩
end
section
variable {T : Tbl} [CRef02 T] [CRef04 T] [CRef05 T] [CRef07 T] [CRef06 T] [CRef08 T] [CRef09 T] [CRef11 T] [CRef5 T]
def stSc (c : Rat) (p : List Rat) (i : Nat) : St := ⟨[(1, .sl (rowF (fzs p)) .an), (2, .ptr (.loc 2) 1 3 0 0), (5, .bs (.loc 5) 2 3 0 i), (6, .i .i64 i)],
 [(.loc 2, ⟨1, .str, 3, [celF (fz c)]⟩), (.loc 5, ⟨2, .own, 3, rowF (fzs ((sclR c p).take i))⟩)], 4⟩
def stRx (p : List Rat) (i : Nat) : St := ⟨[(0, .sl (rowF (fzs p)) .an), (2, .ptr (.loc 2) 1 3 0 0), (3, .ptr (.loc 3) 2 3 0 0), (4, .i .i64 i)],
 [(.loc 2, ⟨1, .str, 3, [nocell]⟩), (.loc 3, ⟨2, .str, 3, [celF (fz (normR (p.take i)))]⟩)], 4⟩
end
end Go.Ab
end

section
namespace Go.Ab
structure Ins where
 op : Int
 a : Int
 b : Int
 n : Fz
abbrev celI (i : Ins) : List AV := [.i .i64 i.op, .i .i64 i.a, .i .i64 i.b, .b i.n.1, .sl (u32s i.n.2.1) .an, .sl (u32s i.n.2.2) .an]
def rowI (l : List Ins) : List (List AV) := l.map celI
@[simp] theorem rowI_length (l : List Ins) : (rowI l).length = l.length := by simp [rowI]
@[simp] theorem rowI_wk (l : List Ins) : wkL (rowI l) = rowI l := by rw [wkL_map]; simp [rowI, wkR, wkA]
@[simp] theorem rowI_get? (l : List Ins) (i : Nat) : (rowI l)[i]? = (l[i]?).map celI := by simp [rowI]
@[simp] theorem rowI_get (l : List Ins) (i : Nat) (h : i < (rowI l).length) : (rowI l)[i] = celI (l[i]'(by simpa using h)) := by simp [rowI]
@[simp] theorem rowI_take (l : List Ins) (n : Nat) : (rowI l).take n = rowI (l.take n) := by simp [rowI]
@[simp] theorem rowI_drop (l : List Ins) (n : Nat) : (rowI l).drop n = rowI (l.drop n) := by simp [rowI]
@[simp] theorem rowI_nil : rowI [] = [] := rfl
structure Tp where
 code : List Ins
 outs : List Int
 dim : Int
 par : Int
abbrev etp (t : Tp) : AV := .agg [.sl (rowI t.code) .an, .sl (ints t.outs) .an, .i .i64 t.dim, .i .i64 t.par]
def rightF (x : Fz) : Bool := decide (x = fz (fv x))
def blankF (x : Fz) : Bool := !x.1 && x.2.1.isEmpty && x.2.2.isEmpty
def readsI (i : Ins) : List Int := if i.op = 6 ∨ i.op = 11 then [i.a] else if 7 ≤ i.op ∧ i.op ≤ 10 then [i.a, i.b] else []
def belowB (i m : Int) : Bool := decide (0 ≤ i) && decide (i < m)
def mayI (dim par p : Int) (i : Ins) : Bool :=
 if i.op = 1 then decide (i.a = 0) && decide (i.b = 0) && rightF i.n
 else blankF i.n && (readsI i).all (fun r => belowB r p) &&
  (if i.op = 2 then decide (i.a = 0) && decide (i.b = 0)
   else if i.op = 3 then belowB i.a dim && decide (i.b = 0)
   else if i.op = 4 then belowB i.a par && decide (i.b = 0)
   else if i.op = 6 then decide (i.b = 0)
   else if i.op = 11 then decide (-8 ≤ i.b) && decide (i.b ≤ 8)
   else decide ((readsI i).length = 2))
def firstI (dim par : Int) : Nat → List Ins → Int
 | _, [] => -1
 | p, i :: r => if mayI dim par p i then firstI dim par (p + 1) r else p
def wholeT (t : Tp) : Bool := belowB (t.dim - 1) 6 && belowB t.par 7 && decide ((t.outs.length : Int) = t.dim) && decide (t.code.length ≤ 300)
def wrongT (t : Tp) : Int :=
 if wholeT t = false then -2 else if firstI t.dim t.par 0 t.code ≠ -1 then firstI t.dim t.par 0 t.code
 else if (t.outs.all fun o => belowB o t.code.length) = false then t.code.length else -1
def okT (t : Tp) : Bool := decide (wrongT t = -1)
structure OkTp (t : Tp) : Prop where
 d1 : 1 ≤ t.dim
 d2 : t.dim ≤ 6
 p1 : 0 ≤ t.par
 p2 : t.par ≤ 6
 ol : (t.outs.length : Int) = t.dim
 cl : t.code.length ≤ 300
 may : ∀ (k : Nat) (i : Ins), t.code[k]? = some i → mayI t.dim t.par k i = true
 outs : ∀ o ∈ t.outs, 0 ≤ o ∧ o < t.code.length
structure Po where
 t : Rat
 y : List Rat
 p : List Rat
structure PoF where
 t : Fz
 y : List Fz
 p : List Fz
def PoF.v (x : PoF) : Po := ⟨fv x.t, x.y.map fv, x.p.map fv⟩
def Po.f (x : Po) : PoF := ⟨fz x.t, fzs x.y, fzs x.p⟩
abbrev ept (x : PoF) : AV := .agg [.b x.t.1, .sl (u32s x.t.2.1) .an, .sl (u32s x.t.2.2) .an, .sl (rowF x.y) .an, .sl (rowF x.p) .an]
def gI (l : List Rat) (i : Int) : Rat := l.getD i.toNat 0
def powZ (x : Rat) (e : Int) : Rat := x ^ e
def valI (P : Po) (D : List Rat) (i : Ins) : Rat × Bool :=
 if i.op = 1 then (fv i.n, true)
 else if i.op = 3 then (gI P.y i.a, true)
 else if i.op = 4 then (gI P.p i.a, true)
 else if i.op = 6 then (-gI D i.a, true)
 else if i.op = 7 then (gI D i.a + gI D i.b, true)
 else if i.op = 8 then (gI D i.a - gI D i.b, true)
 else if i.op = 9 then (gI D i.a * gI D i.b, true)
 else if i.op = 10 then (gI D i.a / gI D i.b, decide (gI D i.b ≠ 0))
 else if i.op = 11 then (if i.b < 0 ∧ gI D i.a = 0 then (0, false) else (powZ (gI D i.a) i.b, true))
 else (P.t, true)
def sizQ (q : Rat) : Nat := sizF (fz q)
def runR (lim : Nat) (P : Po) : List Ins → List Rat → List Rat × Nat × Nat
 | [], D => (D, 0, 0)
 | i :: r, D => if (valI P D i).2 = false then ([], 3, D.length) else if lim < sizQ (valI P D i).1 then ([], 6, D.length) else runR lim P r (D ++ [(valI P D i).1])
end Go.Ab
end

section
namespace Go.Ab
abbrev tyI : Ty := .cons (.int .i64) (.cons (.int .i64) (.cons (.int .i64) (.cons tyF .nil)))
abbrev tyT : Ty := .cons (.sl tyI) (.cons (.sl (.int .i64)) (.cons (.int .i64) (.cons (.int .i64) .nil)))
abbrev tyP : Ty := .cons tyF (.cons (.sl tyF) (.cons (.sl tyF) .nil))
end Go.Ab
end

section
namespace Go.Ab
structure Nd where
 op : Int
 i : Int
 n : List UInt32
 deriving DecidableEq
abbrev celN (x : Nd) : List AV := [.i .i64 x.op, .i .i64 x.i, .sl (u32s x.n) .an]
def rowN (l : List Nd) : List (List AV) := l.map celN
@[simp] theorem rowN_length (l : List Nd) : (rowN l).length = l.length := by simp [rowN]
@[simp] theorem rowN_wk (l : List Nd) : wkL (rowN l) = rowN l := by rw [wkL_map]; simp [rowN, wkR, wkA]
@[simp] theorem rowN_get? (l : List Nd) (i : Nat) : (rowN l)[i]? = (l[i]?).map celN := by simp [rowN]
@[simp] theorem rowN_get (l : List Nd) (i : Nat) (h : i < (rowN l).length) : (rowN l)[i] = celN (l[i]'(by simpa using h)) := by simp [rowN]
theorem rowN_snoc (l : List Nd) (x : Nd) : rowN l ++ [celN x] = rowN (l ++ [x]) := by simp [rowN]
theorem rowN_append (l m : List Nd) : rowN l ++ rowN m = rowN (l ++ m) := by simp [rowN]
@[simp] theorem rowN_take (l : List Nd) (n : Nat) : (rowN l).take n = rowN (l.take n) := by simp [rowN]
@[simp] theorem rowN_drop (l : List Nd) (n : Nat) : (rowN l).drop n = rowN (l.drop n) := by simp [rowN]
@[simp] theorem rowN_nil : rowN [] = [] := rfl
theorem rowN_push {m : List Nd} {n : Nat} (h : m.length = n) (x : Nd) : wkL (rowN (List.take n m) ++ [celN x]) = rowN (m ++ [x]) := by
 rw [List.take_of_length_le (by omega), rowN_snoc, rowN_wk]
@[simp] theorem rowN_head (l : List Nd) : Option.all (fun r : List AV => decide (r.length = 3)) (rowN l).head? = true := by cases l <;> rfl
@[simp] theorem rowN_rowZ (l : List Nd) : rowZ 3 (rowN l) = true := by cases l <;> rfl
@[simp] theorem rowN_isEmpty (l : List Nd) : (rowN l).isEmpty = l.isEmpty := by cases l <;> rfl
def rowC (l : List (List Nd)) : List (List AV) := l.map fun c => [.sl (rowN c) .an]
@[simp] theorem rowC_length (l : List (List Nd)) : (rowC l).length = l.length := by simp [rowC]
@[simp] theorem rowC_wk (l : List (List Nd)) : wkL (rowC l) = rowC l := by rw [wkL_map]; simp [rowC, wkR, wkA]
@[simp] theorem rowC_get? (l : List (List Nd)) (i : Nat) : (rowC l)[i]? = (l[i]?).map fun c => [.sl (rowN c) .an] := by simp [rowC]
@[simp] theorem rowC_get (l : List (List Nd)) (i : Nat) (h : i < (rowC l).length) : (rowC l)[i] = [.sl (rowN (l[i]'(by simpa using h))) .an] := by simp [rowC]
@[simp] theorem rowC_nil : rowC [] = [] := rfl
def arN (op : Int) : Int := if 1 ≤ op ∧ op ≤ 5 then 0 else if op = 6 ∨ op = 11 then 1 else if 7 ≤ op ∧ op ≤ 10 then 2 else -1
theorem arN_cases (op : Int) : (arN op = 0 ∧ 1 ≤ op ∧ op ≤ 5) ∨ (arN op = 1 ∧ (op = 6 ∨ op = 11)) ∨ (arN op = 2 ∧ 7 ≤ op ∧ op ≤ 10) ∨ (arN op = -1 ∧ (op < 1 ∨ 11 < op)) := by
 unfold arN
 split
 ·left; omega
 ·split
  ·right; left; omega
  ·split
   ·right; right; left; omega
   ·right; right; right; omega
def wrongL : Nat → Int → List Nd → Int
 | i, o, [] => if o = 1 then -1 else i
 | i, o, x :: r => if arN x.op < 0 ∨ o < arN x.op then i else wrongL (i + 1) (o + 1 - arN x.op) r
def wrongN (l : List Nd) : Int := wrongL 0 0 l
def openN (o : Int) (l : List Nd) : Int := l.foldl (fun o x => o + 1 - arN x.op) o
def goL : Nat → Int → List Nd → Option Nat × Int
 | _, o, [] => (none, o)
 | i, o, x :: r => if arN x.op < 0 ∨ o < arN x.op then (some i, o) else goL (i + 1) (o + 1 - arN x.op) r
theorem wrongL_go : ∀ (l : List Nd) (i : Nat) (o : Int), wrongL i o l = match goL i o l with
  | (some k, _) => (k : Int)
  | (none, p) => if p = 1 then -1 else i + l.length
 | [], i, o => by simp [wrongL, goL]
 | x :: r, i, o => by
  unfold wrongL goL
  by_cases h : arN x.op < 0 ∨ o < arN x.op
  ·rw [if_pos h, if_pos h]
  ·rw [if_neg h, if_neg h, wrongL_go r (i + 1) (o + 1 - arN x.op)]
   generalize goL (i + 1) (o + 1 - arN x.op) r = G
   obtain ⟨_ | k, p⟩ := G
   ·dsimp only
    by_cases hp : p = 1
    ·rw [if_pos hp, if_pos hp]
    ·rw [if_neg hp, if_neg hp, List.length_cons]; omega
   ·rfl
def wordsB (n : List UInt32) : Bool := decide (n = ofN (val n)) && decide ((textN (val n)).length ≤ 60)
def belB (i m : Int) : Bool := decide (0 ≤ i) && decide (i < m)
def okN (dim pars lets : Int) (x : Nd) : Bool :=
 if x.op = 1 then decide (x.i = 0) && wordsB x.n
 else if x.n ≠ [] ∨ x.op < 1 ∨ 11 < x.op then false
 else if x.op = 3 then belB x.i dim else if x.op = 4 then belB x.i pars else if x.op = 5 then belB x.i lets
 else if x.op = 11 then decide (-8 ≤ x.i) && decide (x.i ≤ 8)
 else decide (x.i = 0)
def placeL (dim pars lets w : Int) : Nat → List Nd → Int
 | _, [] => w
 | i, x :: r => if (i : Int) = w ∨ okN dim pars lets x = false then i else placeL dim pars lets w (i + 1) r
def findL (dim pars lets w : Int) : Nat → List Nd → Option Nat
 | _, [] => none
 | i, x :: r => if (i : Int) = w ∨ okN dim pars lets x = false then some i else findL dim pars lets w (i + 1) r
theorem placeL_find (dim pars lets w : Int) : ∀ (l : List Nd) (i : Nat), placeL dim pars lets w i l = match findL dim pars lets w i l with
  | some k => (k : Int)
  | none => w
 | [], i => rfl
 | x :: r, i => by
  unfold placeL findL
  by_cases h : (i : Int) = w ∨ okN dim pars lets x = false
  ·rw [if_pos h, if_pos h]
  ·rw [if_neg h, if_neg h, placeL_find dim pars lets w r (i + 1)]
def placeN (dim pars lets : Int) (l : List Nd) : Int := placeL dim pars lets (wrongN l) 0 l
inductive Tre where
 | leaf (x : Nd)
 | un (x : Nd) (a : Tre)
 | bin (x : Nd) (a b : Tre)
def Tre.flat : Tre → List Nd
 | .leaf x => [x]
 | .un x a => a.flat ++ [x]
 | .bin x a b => a.flat ++ (b.flat ++ [x])
def Tre.ok : Tre → Prop
 | .leaf x => arN x.op = 0
 | .un x a => arN x.op = 1 ∧ a.ok
 | .bin x a b => arN x.op = 2 ∧ a.ok ∧ b.ok
def Tre.deep : Tre → Nat
 | .leaf _ => 1
 | .un _ a => a.deep + 1
 | .bin _ a b => max a.deep b.deep + 1
theorem Tre.flat_ne (t : Tre) : t.flat ≠ [] := by cases t <;> simp [Tre.flat]
theorem Tre.flat_pos (t : Tre) : 0 < t.flat.length := List.length_pos_iff.2 t.flat_ne
theorem Tre.deep_le : ∀ t : Tre, t.deep ≤ t.flat.length
 | .leaf _ => Nat.le_refl _
 | .un x a => by
  have := a.deep_le
  simp only [Tre.deep, Tre.flat, List.length_append, List.length_cons, List.length_nil]; omega
 | .bin x a b => by
  have := a.deep_le
  have := b.deep_le
  simp only [Tre.deep, Tre.flat, List.length_append, List.length_cons, List.length_nil]; omega
def flats (s : List Tre) : List Nd := s.flatMap Tre.flat
theorem wrongL_tree : ∀ (l : List Nd) (i : Nat) (s : List Tre), (∀ t ∈ s, t.ok) → wrongL i s.length l = -1 → ∃ t : Tre, t.ok ∧ t.flat = flats s ++ l
 | [], i, s, hs, h => by
  unfold wrongL at h
  by_cases h1 : (s.length : Int) = 1
  ·obtain ⟨t, rfl⟩ := List.length_eq_one_iff.1 (show s.length = 1 by omega)
   exact ⟨t, hs t (by simp), by simp [flats]⟩
  ·rw [if_neg h1] at h; omega
 | x :: r, i, s, hs, h => by
  unfold wrongL at h
  by_cases h1 : arN x.op < 0 ∨ (s.length : Int) < arN x.op
  ·rw [if_pos h1] at h; omega
  ·rw [if_neg h1] at h
   rcases arN_cases x.op with ⟨e, _⟩ | ⟨e, _⟩ | ⟨e, _⟩ | ⟨e, _⟩
   ·rw [e] at h
    obtain ⟨t, h2, h3⟩ := wrongL_tree r (i + 1) (s ++ [.leaf x]) (by
     intro t ht
     rcases List.mem_append.1 ht with ht | ht
     ·exact hs t ht
     ·rw [List.mem_singleton.1 ht]; exact e) (by rw [← h]; congr 1; simp)
    exact ⟨t, h2, by rw [h3]; simp [flats, Tre.flat]⟩
   ·rw [e] at h h1
    obtain ⟨s', a, rfl⟩ := List.eq_nil_or_concat s |>.resolve_left (by rintro rfl; simp at h1)
    rw [List.concat_eq_append] at *
    obtain ⟨t, h2, h3⟩ := wrongL_tree r (i + 1) (s' ++ [.un x a]) (by
     intro t ht
     rcases List.mem_append.1 ht with ht | ht
     ·exact hs t (by simp [ht])
     ·rw [List.mem_singleton.1 ht]; exact ⟨e, hs a (by simp)⟩) (by rw [← h]; congr 1; simp)
    exact ⟨t, h2, by rw [h3]; simp [flats, Tre.flat]⟩
   ·rw [e] at h h1
    obtain ⟨s1, b, rfl⟩ := List.eq_nil_or_concat s |>.resolve_left (by rintro rfl; simp at h1)
    rw [List.concat_eq_append] at *
    obtain ⟨s2, a, rfl⟩ := List.eq_nil_or_concat s1 |>.resolve_left (by rintro rfl; simp at h1)
    rw [List.concat_eq_append] at *
    obtain ⟨t, h2, h3⟩ := wrongL_tree r (i + 1) (s2 ++ [.bin x a b]) (by
     intro t ht
     rcases List.mem_append.1 ht with ht | ht
     ·exact hs t (by simp [ht])
     ·rw [List.mem_singleton.1 ht]; exact ⟨e, hs a (by simp), hs b (by simp)⟩) (by rw [← h]; congr 1; simp; omega)
    exact ⟨t, h2, by rw [h3]; simp [flats, Tre.flat]⟩
   ·omega
theorem wrongN_tree {l : List Nd} (h : wrongN l = -1) : ∃ t : Tre, t.ok ∧ t.flat = l := by
 obtain ⟨t, h1, h2⟩ := wrongL_tree l 0 [] (by simp) h
 exact ⟨t, h1, by simpa [flats] using h2⟩
theorem wrongL_flat : ∀ (t : Tre), t.ok → ∀ (i : Nat) (o : Int) (r : List Nd), 0 ≤ o → wrongL i o (t.flat ++ r) = wrongL (i + t.flat.length) (o + 1) r
 | .leaf x, h, i, o, r, ho => by
  have e : arN x.op = 0 := h
  show wrongL i o (x :: r) = _
  rw [wrongL, if_neg (by omega), e]
  simp [Tre.flat]
 | .un x a, h, i, o, r, ho => by
  have e : arN x.op = 1 := h.1
  rw [Tre.flat, List.append_assoc, wrongL_flat a h.2 i o _ ho]
  show wrongL _ _ (x :: r) = _
  rw [wrongL, if_neg (by omega), e]
  congr 1
  ·simp; omega
  ·omega
 | .bin x a b, h, i, o, r, ho => by
  have e : arN x.op = 2 := h.1
  rw [Tre.flat, List.append_assoc, wrongL_flat a h.2.1 i o _ ho, List.append_assoc, wrongL_flat b h.2.2 _ _ _ (by omega)]
  show wrongL _ _ (x :: r) = _
  rw [wrongL, if_neg (by omega), e]
  congr 1
  ·simp; omega
  ·omega
theorem wrongN_flat {t : Tre} (h : t.ok) : wrongN t.flat = -1 := by
 have := wrongL_flat t h 0 0 [] (by decide)
 rw [List.append_nil] at this
 unfold wrongN
 rw [this]; rfl
theorem wrongL_ge : ∀ (l : List Nd) (i : Nat) (o : Int), wrongL i o l = -1 ∨ (i ≤ wrongL i o l ∧ wrongL i o l ≤ i + l.length)
 | [], i, o => by
  unfold wrongL
  split
  ·left; rfl
  ·right; simp
 | x :: r, i, o => by
  unfold wrongL
  split
  ·right; simp; omega
  ·rcases wrongL_ge r (i + 1) (o + 1 - arN x.op) with h | h
   ·left; exact h
   ·right; simp only [List.length_cons]; omega
theorem placeL_spec (dim pars lets w : Int) : ∀ (l : List Nd) (i : Nat), placeL dim pars lets w i l < 0 → w < 0 ∧ ∀ x ∈ l, okN dim pars lets x = true
 | [], i, h => ⟨h, by simp⟩
 | x :: r, i, h => by
  unfold placeL at h
  split at h
  ·omega
  ·next h1 =>
   obtain ⟨h2, h3⟩ := placeL_spec dim pars lets w r (i + 1) h
   refine ⟨h2, fun y hy => ?_⟩
   rcases List.mem_cons.1 hy with rfl | hy
   ·cases hk : okN dim pars lets y with
    | true => rfl
    | false => exact absurd (.inr hk) h1
   ·exact h3 y hy
theorem placeL_ok (dim pars lets : Int) : ∀ (l : List Nd) (i : Nat), (∀ x ∈ l, okN dim pars lets x = true) → placeL dim pars lets (-1) i l = -1
 | [], i, h => rfl
 | x :: r, i, h => by
  unfold placeL
  have hc : ¬ ((i : Int) = -1 ∨ okN dim pars lets x = false) := by
   rw [h x (by simp)]
   rintro (h1 | h1)
   ·omega
   ·cases h1
  rw [if_neg hc]
  exact placeL_ok dim pars lets r (i + 1) fun y hy => h y (by simp [hy])
theorem placeN_tree {dim pars lets : Int} {l : List Nd} (h : placeN dim pars lets l < 0) : ∃ t : Tre, t.ok ∧ t.flat = l ∧ ∀ x ∈ l, okN dim pars lets x = true := by
 obtain ⟨h1, h2⟩ := placeL_spec dim pars lets _ l 0 h
 have h3 : wrongN l = -1 := by
  rcases wrongL_ge l 0 0 with h | h
  ·exact h
  ·unfold wrongN at h1; omega
 obtain ⟨t, h4, h5⟩ := wrongN_tree h3
 exact ⟨t, h4, h5, h2⟩
theorem placeN_flat {dim pars lets : Int} {t : Tre} (h : t.ok) (h2 : ∀ x ∈ t.flat, okN dim pars lets x = true) : placeN dim pars lets t.flat = -1 := by
 unfold placeN
 rw [wrongN_flat h]
 exact placeL_ok dim pars lets _ 0 h2
theorem ofN_len_eq {a : List UInt32} : (ofN (val a)).length = a.length ↔ a = ofN (val a) := by
 constructor
 ·intro h
  obtain ⟨n, h1, h2, _⟩ := ofN_take a
  have h3 : n = a.length := by
   have := congrArg List.length h2
   rw [List.length_take, h] at this
   omega
  rw [h3, List.take_length] at h2
  exact h2
 ·intro h; exact (congrArg List.length h).symm
end Go.Ab
end

section
namespace Go.Ab
structure Lt where
 name : List UInt8
 code : List Nd
abbrev celLt (x : Lt) : List AV := [.s x.name, .sl (rowN x.code) .an]
def rowLt (l : List Lt) : List (List AV) := l.map celLt
@[simp] theorem rowLt_length (l : List Lt) : (rowLt l).length = l.length := by simp [rowLt]
@[simp] theorem rowLt_wk (l : List Lt) : wkL (rowLt l) = rowLt l := by rw [wkL_map]; simp [rowLt, wkR, wkA]
@[simp] theorem rowLt_get? (l : List Lt) (i : Nat) : (rowLt l)[i]? = (l[i]?).map celLt := by simp [rowLt]
@[simp] theorem rowLt_get (l : List Lt) (i : Nat) (h : i < (rowLt l).length) : (rowLt l)[i] = celLt (l[i]'(by simpa using h)) := by simp [rowLt]
@[simp] theorem rowLt_nil : rowLt [] = [] := rfl
structure Fd where
 lets : List Lt
 outs : List (List Nd)
abbrev efd (f : Fd) : AV := .agg [.sl (rowLt f.lets) .an, .sl (rowC f.outs) .an]
def codesD (f : Fd) : List (List Nd) := f.lets.map (·.code) ++ f.outs
end Go.Ab
end

section
namespace Go.Ab
abbrev tyN : Ty := .cons (.int .i64) (.cons (.int .i64) (.cons (.sl (.int .u32)) .nil))
abbrev tyL : Ty := .cons .str (.cons (.sl tyN) .nil)
abbrev tyD : Ty := .cons (.sl tyL) (.cons (.sl (.sl tyN)) .nil)
theorem ncells {cs : List AV} (h : Ok tyN cs) : ∃ x : Nd, wkR cs = celN x := by
 obtain ⟨c1, c1', rfl, ⟨a, rfl, _⟩, c2, c2', rfl, ⟨b, rfl, _⟩, c3, c3', rfl, ⟨els, f, rfl, _, _, he⟩, rfl⟩ := h
 obtain ⟨l, rfl⟩ := words_of els he
 exact ⟨⟨a, b, l⟩, by simp [wkA, wkR]⟩
theorem node_arg {x : AV} (h : OkArg (true, tyN) x) : ∃ u : Nd, wkA x = .agg (celN u) := by
 obtain ⟨cs, rfl, h⟩ := h
 obtain ⟨u, hu⟩ := ncells h
 exact ⟨u, by rw [wkA, hu]⟩
theorem node_rows : ∀ (els : List (List AV)), (∀ r ∈ els, Ok tyN r) → ∃ l : List Nd, wkL els = rowN l
 | [], _ => ⟨[], rfl⟩
 | r :: els, h => by
  obtain ⟨l, hl⟩ := node_rows els fun r hr => h r (List.mem_cons_of_mem _ hr)
  obtain ⟨x, hx⟩ := ncells (h r List.mem_cons_self)
  refine ⟨x :: l, ?_⟩
  simp only [wkL, hx, hl]
  rfl
theorem ncode_cell {cs : List AV} (h : Ok (.sl tyN) cs) : ∃ l : List Nd, wkR cs = [.sl (rowN l) .an] := by
 obtain ⟨els, f, rfl, _, _, he⟩ := h
 obtain ⟨l, hl⟩ := node_rows els he
 exact ⟨l, by simp [wkR, wkA, hl]⟩
theorem code_arg {x : AV} (h : OkArg (false, .sl tyN) x) : ∃ l : List Nd, wkA x = .sl (rowN l) .an := by
 obtain ⟨l, hl⟩ := ncode_cell h
 exact ⟨l, by simpa [wkR] using hl⟩
end Go.Ab
end

section
namespace Go.Proofs.YtegcbhlfmmgmhaaDoor
open Go Go.Ab Go.ChangeShapes Go.WideShapes Go.ChangeAt Go.RowKit
theorem Tryd.own : ownKnob Tryd.prog.godebug = none := by kernel_rfl
theorem Tryd.laidOut : laidOutB Tryd.prog = true := by kernel_rfl
theorem Tryd.mixed : Tryd.prog.follows .mixedOrders = true := by kernel_rfl
theorem Tryd.rowed : mapsRowed Tryd.prog = true := by kernel_rfl
theorem Tryd.heard : Tryd.prog.stopsHeard = true := by kernel_rfl
theorem Tryd.enters : Tryd.prog.mayEnter = true := by kernel_rfl
theorem Tryd.keys : Tryd.prog.plainKeys = Rows.diffWritesRow.plainKeys := by kernel_rfl
theorem Tryd.lifts : Tryd.prog.liftsFinal = Rows.diffWritesRow.lifted := by kernel_rfl
theorem Tryd.makes : Tryd.prog.make = some Rows.diffWritesRow.make := by kernel_rfl
def laid2 : List (String × DataW Unit) := [("unicode/utf8.acceptRanges", Rows.laid_unicode_utf8_acceptRanges), ("unicode/utf8.first", Rows.laid_unicode_utf8_first)]
noncomputable def laidWorld (os : Os) : World :=
 let put (h : Array Obj) (g : Nat) (cs : Array Value) : Array Obj := h.modify g fun
  | .cells _ t frozen => .cells cs t frozen
  | o => o
 let w0 := World.holding Tryd.prog os ⟨#[], #[], []⟩
 let h1 := put w0.heap 0 (Lib.firstTab.map fun z => Value.int .u8 z).toArray
 let h2 := put h1 1 ((List.range 16).flatMap fun i => [Value.int .u8 (Lib.accLo i), Value.int .u8 (Lib.accHi i)]).toArray
 { w0 with heap := h2 }
theorem laid_met (os : Os) (args : Array Value) : laidMetH Tryd.prog laid2 ((laidWorld os).forCall (fun _ _ => 0) ⟨#[], args, []⟩).memory :=
 laidMetH_of_parts3 (fuel := 8) (laidMet_of_run' 8 (by kernel_rfl) (by kernel_rfl)) (by kernel_rfl) (by kernel_rfl)
theorem laid_shaped (os : Os) : (laidWorld os).Shaped Tryd.prog := World.shaped_of_RefB (by kernel_rfl) (by kernel_rfl)
theorem tab_all : TOk Tryd.prog nu (fun u => lTab.lookup u) := lTab_ok (text_ok Tryd.mixed)
end Go.Proofs.YtegcbhlfmmgmhaaDoor
end

section
namespace Go.Ab
section
variable {T : Tbl} [CRef17 T]
theorem ref17_arity (op : Int) : callF T 113 [.i .i64 op] = some (.i .i64 (arN op)) := by
 rw [f113 _ rfl, b113]
 rcases arN_cases op with ⟨e, h1, h2⟩ | ⟨e, rfl | rfl⟩ | ⟨e, h1, h2⟩ | ⟨e, h⟩
 ·rw [e]
  simp -implicitDefEqProofs [h1, h2]
 ·rw [e]
  simp -implicitDefEqProofs
 ·rw [e]
  simp -implicitDefEqProofs
 ·rw [e]
  have g1 : 1 ≤ op := by omega
  have g2 : ¬ op ≤ 5 := by omega
  have g3 : op ≠ 6 := by omega
  have g4 : op ≠ 11 := by omega
  simp -implicitDefEqProofs [h1, h2, g1, g2, g3, g4]
 ·rw [e]
  have g3 : op ≠ 6 := by omega
  have g4 : op ≠ 11 := by omega
  rcases h with h | h
  ·have g1 : ¬ 1 ≤ op := by omega
   have g2 : ¬ 7 ≤ op := by omega
   simp -implicitDefEqProofs [g1, g2, g3, g4]
  ·have g1 : 1 ≤ op := by omega
   have g2 : 7 ≤ op := by omega
   have g5 : ¬ op ≤ 5 := by omega
   have g6 : ¬ op ≤ 10 := by omega
   simp -implicitDefEqProofs [g1, g2, g3, g4, g5, g6]
def stWq (l : List Nd) (p : Nat × Int) : St := ⟨[(0, .sl (rowN l) .an), (3, .i .i64 p.2), (4, .i .i64 p.1)], [], 2⟩
theorem ref17_wrong_loop (l : List Nd) (hl : l.length ≤ 4294967296) : ∀ p : Nat × Int, (p.1 ≤ l.length ∧ 0 ≤ p.2 ∧ p.2 ≤ p.1) → loopN T 0 0 (.norm false [0, 3]) l80_0 (stWq l p) =
  match goL p.1 p.2 (l.drop p.1) with
  | (some k, _) => some (.r, ⟨[(2, .i .i64 (k : Nat))], [], 2⟩)
  | (none, o) => some (.n, ⟨[(0, .sl (rowN l) .an), (3, .i .i64 o)], [], 2⟩) := by
 refine loopN_eq (stWq l) _ (fun p => l.length - p.1) _ ?_
 rintro ⟨i, o⟩ ⟨hi, ho, ho2⟩
 dsimp only at *
 by_cases h : i < l.length
 ·have hg : l[i]? = some (l[i]'h) := List.getElem?_eq_getElem h
  have hd : l.drop i = l[i]'h :: l.drop (i + 1) := List.drop_eq_getElem_cons h
  have ca := ref17_arity (T := T) (l[i]'h).op
  have h' : (i : Int) < l.length := by omega
  have hws := wrapS h (by omega)
  rw [hd, goL]
  generalize hx : l[i]'h = x at *
  clear hd
  have hw0 : IntKind.wrap .i64 o = o := wrap_i64 _ (by omega)
  have hw1 : IntKind.wrap .i64 (o - 1) = o - 1 := wrap_i64 _ (by omega)
  have hw2 : IntKind.wrap .i64 (o - 2) = o - 2 := wrap_i64 _ (by omega)
  have hw3 : IntKind.wrap .i64 (o + 1) = o + 1 := wrap_i64 _ (by omega)
  have hw4 : IntKind.wrap .i64 (o - 1 + 1) = o := by rw [wrap_i64 _ (by omega)]; omega
  have hw5 : IntKind.wrap .i64 (o - 2 + 1) = o - 1 := by rw [wrap_i64 _ (by omega)]; omega
  rcases arN_cases x.op with ⟨e, _⟩ | ⟨e, _⟩ | ⟨e, _⟩ | ⟨e, _⟩
  ·left
   rw [e] at ca ⊢
   have hc : ¬ o < 0 := by omega
   refine ⟨(i + 1, o + 1), ⟨by omega, by omega, by dsimp only; omega⟩, by dsimp only; omega, ?_, ?_⟩
   ·unfold stWq
    simp -implicitDefEqProofs [l80_0, h, h', hg, hx, hws, ca, hw0, hw3, hc]
   ·rw [if_neg (by omega)]
    simp
  ·rw [e] at ca ⊢
   by_cases hc : o < 1
   ·right
    rw [if_pos (by omega)]
    unfold stWq
    constructor <;> simp -implicitDefEqProofs [l80_0, h, h', hg, hx, ca, hc]
   ·left
    refine ⟨(i + 1, o), ⟨by omega, by omega, by dsimp only; omega⟩, by dsimp only; omega, ?_, ?_⟩
    ·unfold stWq
     simp -implicitDefEqProofs [l80_0, h, h', hg, hx, hws, ca, hw0, hw1, hw4, hc]
    ·rw [if_neg (by omega)]
     simp
  ·rw [e] at ca ⊢
   by_cases hc : o < 2
   ·right
    rw [if_pos (by omega)]
    unfold stWq
    constructor <;> simp -implicitDefEqProofs [l80_0, h, h', hg, hx, ca, hc]
   ·left
    refine ⟨(i + 1, o - 1), ⟨by omega, by omega, by dsimp only; omega⟩, by dsimp only; omega, ?_, ?_⟩
    ·unfold stWq
     simp -implicitDefEqProofs [l80_0, h, h', hg, hx, hws, ca, hw2, hw5, hc]
    ·rw [if_neg (by omega)]
     dsimp only
     rw [show o + 1 - 2 = o - 1 by omega]
  ·right
   rw [e] at ca ⊢
   rw [if_pos (by omega)]
   unfold stWq
   constructor <;> simp -implicitDefEqProofs [l80_0, h, h', hg, hx, ca]
 ·have : i = l.length := by omega
  subst this
  right
  rw [List.drop_length, goL]
  unfold stWq
  constructor <;> simp -implicitDefEqProofs [l80_0]
theorem ref17_wrong (l : List Nd) (hl : l.length ≤ 4294967296) : callF T 80 [.sl (rowN l) .an] = some (.i .i64 (wrongN l)) := by
 have hlo := ref17_wrong_loop (T := T) l hl (0, 0) ⟨Nat.zero_le _, by decide, by decide⟩
 have hw := wrongL_go l 0 0
 unfold wrongN
 rw [hw]
 unfold stWq at hlo
 simp only [List.drop_zero, Int.natCast_zero] at hlo
 rw [f80 _ rfl, b80]
 generalize goL 0 0 l = G at *
 obtain ⟨_ | k, o⟩ := G
 ·dsimp only at hlo ⊢
  by_cases h : o = 1
  ·subst h
   simp -implicitDefEqProofs [hlo]
  ·simp -implicitDefEqProofs [hlo, h]
 ·dsimp only at hlo ⊢
  simp -implicitDefEqProofs [hlo]
def longN (l : List Nd) (many words : Int) : Bool := decide (many < l.length) || (l.take many.toNat).any fun x => decide (words < x.n.length)
theorem ref17_long (l : List Nd) (many words : Nat) (hl : l.length ≤ 4294967296 ∨ many ≤ 4294967295) (hm : many ≤ 4294967295) : callF T 10 [.sl (rowN l) .an, .i .i64 many, .i .i64 words] = some (.b (decide (many < l.length) || (l.take many).any fun x => decide (words < x.n.length))) := by
 have hlo : loopN T 0 0 (.norm false [0, 1]) l10_0 ⟨[(0, .sl (rowN l) .an), (1, .i .i64 many), (2, .i .i64 words), (7, .i .i64 ((0 : Nat) : Int))], [], 2⟩ =
   if ((l.take many).drop 0).any (fun x => decide (words < x.n.length)) = true then some (.r, ⟨[(6, .b true)], [], 2⟩) else some (.n, ⟨[(0, .sl (rowN l) .an), (1, .i .i64 many)], [], 2⟩) := by
  refine until_loop (fun i => ⟨[(0, .sl (rowN l) .an), (1, .i .i64 many), (2, .i .i64 words), (7, .i .i64 ((i : Nat) : Int))], [], 2⟩) (l.take many).length
   (fun i => if ((l.take many).drop i).any (fun x => decide (words < x.n.length)) = true then some (.r, _) else some (.n, _)) (fun i hi => ?_) ?_
  ·have hi1 := hi
   rw [List.length_take] at hi1
   have h : i < l.length := by omega
   have h' : (i : Int) < l.length := by omega
   have h2 : i < many := by omega
   have h2' : (i : Int) < many := by omega
   have hg : l[i]? = some (l[i]'h) := List.getElem?_eq_getElem h
   have hd : (l.take many).drop i = (l.take many)[i]'hi :: (l.take many).drop (i + 1) := List.drop_eq_getElem_cons hi
   have hx2 : (l.take many)[i]'hi = l[i]'h := by simp
   rw [hx2] at hd
   have hws := wrapS h2 (by omega)
   generalize hx : l[i]'h = x at *
   by_cases hc : words < x.n.length
   ·right
    rw [if_pos (by rw [hd]; simp [hc])]
    have hc' : (words : Int) < x.n.length := by omega
    clear hd
    constructor <;> simp -implicitDefEqProofs [l10_0, h, h', h2, h2', hg, hx, hc, hc']
   ·left
    have hc' : ¬ (words : Int) < x.n.length := by omega
    refine ⟨?_, by rw [hd]; simp [hc]⟩
    clear hd
    simp -implicitDefEqProofs [l10_0, h, h', h2, h2', hg, hx, hc, hc', hws]
  ·rw [List.drop_length, List.length_take]
   simp only [List.any_nil, Bool.false_eq_true, if_false]
   by_cases h : l.length ≤ many
   ·rw [Nat.min_eq_right h]
    constructor <;> simp -implicitDefEqProofs [l10_0]
   ·rw [Nat.min_eq_left (by omega)]
    have h2 : many < l.length := by omega
    have h2' : (many : Int) < l.length := by omega
    constructor <;> simp -implicitDefEqProofs [l10_0, h2, h2']
 rw [List.drop_zero] at hlo
 simp only [Int.natCast_zero] at hlo
 rw [f10 _ rfl, b10]
 generalize (l.take many).any (fun x => decide (words < x.n.length)) = B at *
 cases B with
 | true =>
  rw [if_pos rfl] at hlo
  simp -implicitDefEqProofs [hlo]
 | false =>
  rw [if_neg (by decide)] at hlo
  by_cases h : many < l.length
  ·have h' : (many : Int) < l.length := by omega
   simp -implicitDefEqProofs [hlo, h, h']
  ·have h' : ¬ (many : Int) < l.length := by omega
   simp -implicitDefEqProofs [hlo, h, h']
variable [CRef02 T] [CRef04 T] [CRef05 T] [CRef07 T]
theorem ref19_node (x : Nd) (dim pars lets : Int) (hn : x.n.length ≤ 1000) : callF T 79 [.agg (celN x), .i .i64 dim, .i .i64 pars, .i .i64 lets] = some (.b (okN dim pars lets x)) := by
 have c1 := ref02_norm (T := T) x.n (by omega)
 have c2 := ref02_same (T := T) (ofN (val x.n)) x.n (by have := ofN_length_le x.n; omega)
 have c3 := ref07_text (T := T) x.n hn
 have e : decide (ofN (val x.n) = x.n) = decide (x.n = ofN (val x.n)) := by
  rw [decide_eq_decide]; exact eq_comm
 rw [e] at c2
 obtain ⟨op, i, n⟩ := x
 dsimp only at *
 rw [f79 _ rfl, b79]
 unfold okN wordsB
 dsimp only
 generalize hB : decide (n = ofN (val n)) = B at *
 clear e
 generalize ofN (val n) = N at *
 generalize hL : textN (val n) = TX at *
 by_cases h1 : op = 1
 ·subst h1
  by_cases hi : i = 0
  ·subst hi
   cases B with
   | false => simp -implicitDefEqProofs [c1, c2]
   | true =>
    by_cases h2 : TX.length ≤ 60
    ·have h2' : (TX.length : Int) ≤ 60 := by omega
     simp -implicitDefEqProofs [c1, c2, c3, h2, h2']
    ·have h2' : ¬ (TX.length : Int) ≤ 60 := by omega
     simp -implicitDefEqProofs [c1, c2, c3, h2, h2']
  ·simp -implicitDefEqProofs [hi]
 rw [if_neg h1]
 by_cases hne : n = []
 ·subst hne
  by_cases hr : op < 1
  ·rw [if_pos (.inr (.inl hr))]
   simp -implicitDefEqProofs [h1, hr]
  by_cases hr2 : 11 < op
  ·rw [if_pos (.inr (.inr hr2))]
   simp -implicitDefEqProofs [h1, hr, hr2]
  rw [if_neg (by rintro (h | h | h) <;> first | exact h rfl | exact hr h | exact hr2 h)]
  unfold belB
  by_cases h3 : op = 3
  ·subst h3
   by_cases ha : 0 ≤ i
   ·by_cases hb : i < dim <;> simp -implicitDefEqProofs [ha, hb]
   ·simp -implicitDefEqProofs [ha]
  by_cases h4 : op = 4
  ·subst h4
   by_cases ha : 0 ≤ i
   ·by_cases hb : i < pars <;> simp -implicitDefEqProofs [ha, hb]
   ·simp -implicitDefEqProofs [ha]
  by_cases h5 : op = 5
  ·subst h5
   by_cases ha : 0 ≤ i
   ·by_cases hb : i < lets <;> simp -implicitDefEqProofs [ha, hb]
   ·simp -implicitDefEqProofs [ha]
  by_cases h11 : op = 11
  ·subst h11
   by_cases ha : -8 ≤ i
   ·by_cases hb : i ≤ 8 <;> simp -implicitDefEqProofs [ha, hb]
   ·simp -implicitDefEqProofs [ha]
  by_cases hi : i = 0 <;> simp -implicitDefEqProofs [h1, hr, hr2, h3, h4, h5, h11, hi]
 ·have hp : 0 < n.length := List.length_pos_iff.2 hne
  rw [if_pos (.inl hne)]
  simp -implicitDefEqProofs [h1, hp, hne]
def stPq (l : List Nd) (dim pars lets w : Int) (i : Nat) : St := ⟨[(0, .sl (rowN l) .an), (1, .i .i64 dim), (2, .i .i64 pars), (3, .i .i64 lets), (9, .i .i64 w), (10, .i .i64 i)], [], 2⟩
theorem ref19_place_loop (l : List Nd) (dim pars lets w : Int) (hl : l.length ≤ 4294967296) (hn : ∀ x ∈ l, x.n.length ≤ 1000) : loopN T 0 0 (.norm false [9]) l50_0 (stPq l dim pars lets w 0) =
  match findL dim pars lets w 0 l with
  | some k => some (.r, ⟨[(8, .i .i64 (k : Nat))], [], 2⟩)
  | none => some (.n, ⟨[(9, .i .i64 w)], [], 2⟩) := by
 have e0 : l.drop 0 = l := rfl
 rw [← e0]
 refine until_loop (stPq l dim pars lets w) l.length (fun i => match findL dim pars lets w i (l.drop i) with
  | some k => some (.r, ⟨[(8, .i .i64 (k : Nat))], [], 2⟩)
  | none => some (.n, ⟨[(9, .i .i64 w)], [], 2⟩)) (fun i hi => ?_) ?_
 ·have hg : l[i]? = some (l[i]'hi) := List.getElem?_eq_getElem hi
  have hd : l.drop i = l[i]'hi :: l.drop (i + 1) := List.drop_eq_getElem_cons hi
  have cn := ref19_node (T := T) (l[i]'hi) dim pars lets (hn _ (List.getElem_mem hi))
  have hi' : (i : Int) < l.length := by omega
  have hws := wrapS hi (by omega)
  generalize hx : l[i]'hi = x at *
  rw [hd, findL]
  clear hd
  by_cases h1 : (i : Int) = w
  ·right
   rw [if_pos (.inl h1)]
   subst h1
   unfold stPq
   constructor <;> simp -implicitDefEqProofs [l50_0, hi, hi', hg, hx]
  ·generalize okN dim pars lets x = B at *
   cases B with
   | false =>
    right
    rw [if_pos (.inr rfl)]
    unfold stPq
    constructor <;> simp -implicitDefEqProofs [l50_0, hi, hi', hg, hx, h1, cn]
   | true =>
    left
    refine ⟨?_, by rw [if_neg (by simp [h1])]⟩
    unfold stPq
    simp -implicitDefEqProofs [l50_0, hi, hi', hg, hx, h1, cn, hws]
 ·rw [List.drop_length, findL]
  unfold stPq
  constructor <;> simp -implicitDefEqProofs [l50_0]
theorem ref19_place (l : List Nd) (dim pars lets : Int) (hl : l.length ≤ 4294967296) (hn : ∀ x ∈ l, x.n.length ≤ 1000) : callF T 50 [.sl (rowN l) .an, .i .i64 dim, .i .i64 pars, .i .i64 lets] = some (.i .i64 (placeN dim pars lets l)) := by
 have cw := ref17_wrong (T := T) l hl
 have hlo := ref19_place_loop (T := T) l dim pars lets (wrongN l) hl hn
 unfold stPq at hlo
 simp only [Int.natCast_zero] at hlo
 have hf := placeL_find dim pars lets (wrongN l) l 0
 unfold placeN
 rw [hf]
 rw [f50 _ rfl, b50]
 generalize wrongN l = w at *
 generalize findL dim pars lets w 0 l = F at *
 cases F with
 | none =>
  dsimp only at hlo ⊢
  simp -implicitDefEqProofs [cw, hlo]
 | some k =>
  dsimp only at hlo ⊢
  simp -implicitDefEqProofs [cw, hlo]
theorem ref17_same (l : List Nd) (hl : l.length ≤ 4294967296) (hn : ∀ x ∈ l, x.n.length ≤ 1000) : callF T 16 [.sl (rowN l) .an, .sl (rowN l) .an] = some (.b true) := by
 have hlo : loopN T 0 0 (.norm false []) l16_0 ⟨[(0, .sl (rowN l) .an), (1, .sl (rowN l) .an), (5, .i .i64 ((0 : Nat) : Int))], [], 2⟩ = some (.n, ⟨[], [], 2⟩) := by
  refine range_loop (fun i => ⟨[(0, .sl (rowN l) .an), (1, .sl (rowN l) .an), (5, .i .i64 ((i : Nat) : Int))], [], 2⟩) l.length _ (fun i hi => ?_) ?_
  ·have hg : l[i]? = some (l[i]'hi) := List.getElem?_eq_getElem hi
   have hi' : (i : Int) < l.length := by omega
   have hws := wrapS hi (by omega)
   have hnx := hn _ (List.getElem_mem hi)
   have cc := ref02_cmp (T := T) (l[i]'hi).n (l[i]'hi).n (by omega) (by omega)
   have e0 : cmpN (val (l[i]'hi).n) (val (l[i]'hi).n) = 0 := by simp [cmpN]
   rw [e0] at cc
   generalize hx : l[i]'hi = x at *
   simp -implicitDefEqProofs [l16_0, hi, hi', hg, hx, hws, cc]
  ·constructor <;> simp -implicitDefEqProofs [l16_0]
 simp only [Int.natCast_zero] at hlo
 rw [f16 _ rfl, b16]
 simp -implicitDefEqProofs [hlo]
end
end Go.Ab
end

section
namespace Go.Ab
section
variable {T : Tbl} {k : Nat}
theorem loop_0 {id : Nat} {g2 : Gh} {c : AX} {S0 : St} {G : Option (Ex × St)} (fin : isEx (evX (orc T) T k c S0) = true ∧ finX k id g2 (evX (orc T) T k c S0) = G) : loopN T k id g2 c S0 = G :=
 range_loop (fun _ => S0) 0 G (fun j hj => absurd hj (Nat.not_lt_zero j)) fin
theorem loop_1 {id : Nat} {g2 : Gh} {c : AX} {S0 S1 : St} {G : Option (Ex × St)} (h0 : evX (orc T) T k c S0 = some (.n, S1)) (fin : isEx (evX (orc T) T k c S1) = true ∧ finX k id g2 (evX (orc T) T k c S1) = G) : loopN T k id g2 c S0 = G :=
 range_loop (fun j => if j = 0 then S0 else S1) 1 G (fun j hj => by
  obtain rfl : j = 0 := by omega
  exact h0) fin
theorem loop_2 {id : Nat} {g2 : Gh} {c : AX} {S0 S1 S2 : St} {G : Option (Ex × St)} (h0 : evX (orc T) T k c S0 = some (.n, S1)) (h1 : evX (orc T) T k c S1 = some (.n, S2)) (fin : isEx (evX (orc T) T k c S2) = true ∧ finX k id g2 (evX (orc T) T k c S2) = G) : loopN T k id g2 c S0 = G :=
 range_loop (fun j => if j = 0 then S0 else if j = 1 then S1 else S2) 2 G (fun j hj => by
  rcases (show j = 0 ∨ j = 1 by omega) with rfl | rfl
  ·exact h0
  ·exact h1) fin
end
section
variable {T : Tbl} [CRef17 T]
theorem ref17_deep : ∀ (t : Tre), t.ok → ∀ (p q code : List Nd), p ++ t.flat ++ q = code → code.length ≤ 4294967290 → callF T 114 [.sl (rowN code) .an, .i .i64 ((p.length + t.flat.length - 1 : Nat) : Int)] = some (.tup [.i .i64 t.deep, .i .i64 p.length])
 | .leaf x, ht, p, q, code, hc, hl => by
  have e : arN x.op = 0 := ht
  have hx : code[p.length]? = some x := by rw [← hc]; simp [Tre.flat]
  obtain ⟨hlt, hge⟩ := List.getElem?_eq_some_iff.1 hx
  have hlt' : (p.length : Int) < code.length := by omega
  have ca := ref17_arity (T := T) x.op
  rw [e] at ca
  have e2 : p.length + (Tre.leaf x).flat.length - 1 = p.length := by simp [Tre.flat]
  rw [e2]
  have hlo : loopN T 0 0 (.norm false [6, 7]) l114_0 ⟨[(0, .sl (rowN code) .an), (6, .i .i64 0), (7, .i .i64 p.length), (8, .i .i64 0)], [], 2⟩ = some (.n, ⟨[(6, .i .i64 0), (7, .i .i64 p.length)], [], 2⟩) :=
   loop_0 (by constructor <;> simp -implicitDefEqProofs [l114_0])
  rw [f114 _ rfl, b114]
  obtain ⟨op, xi, n⟩ := x
  simp -implicitDefEqProofs [hlt, hlt', hx, hge, ca, hlo, Tre.deep]
 | .un x a, ht, p, q, code, hc, hl => by
  have e : arN x.op = 1 := ht.1
  have hc2 : p ++ a.flat ++ (x :: q) = code := by rw [← hc]; simp [Tre.flat]
  have ih := ref17_deep a ht.2 p (x :: q) code hc2 hl
  have ha := a.flat_pos
  have hx : code[p.length + a.flat.length]? = some x := by rw [← hc2, ← List.length_append]; simp
  obtain ⟨hlt, hge⟩ := List.getElem?_eq_some_iff.1 hx
  have hlt' : (p.length : Int) + a.flat.length < code.length := by omega
  have ca := ref17_arity (T := T) x.op
  rw [e] at ca
  have e2 : p.length + (Tre.un x a).flat.length - 1 = p.length + a.flat.length := by simp [Tre.flat]
  rw [e2]
  have hw : IntKind.wrap .i64 ((p.length + a.flat.length : Nat) - 1 : Int) = ((p.length + a.flat.length - 1 : Nat) : Int) := by rw [wrap_i64 _ (by omega)]; omega
  have hd : (a.deep : Int) < 4294967296 := by
   have := a.deep_le
   omega
  have hwd : IntKind.wrap .i64 ((a.deep : Int) + 1) = (a.deep : Int) + 1 := wrap_i64 _ (by omega)
  have hw0 : IntKind.wrap .i64 0 = 0 := by decide
  have hmx : (if (a.deep : Int) > 0 then (a.deep : Int) else 0) = a.deep := by split <;> omega
  have hdp : (Tre.un x a).deep = a.deep + 1 := rfl
  have hcs : ((p.length + a.flat.length : Nat) : Int) = (p.length : Int) + a.flat.length := by omega
  generalize hN : p.length + a.flat.length = N at *
  generalize hM : N - 1 = M at *
  have hlo : loopN T 0 0 (.norm false [6, 7]) l114_0 ⟨[(0, .sl (rowN code) .an), (6, .i .i64 0), (7, .i .i64 (N : Int)), (8, .i .i64 1)], [], 2⟩ = some (.n, ⟨[(6, .i .i64 a.deep), (7, .i .i64 p.length)], [], 2⟩) :=
   loop_1 (S1 := ⟨[(0, .sl (rowN code) .an), (6, .i .i64 a.deep), (7, .i .i64 p.length), (8, .i .i64 0)], [], 2⟩)
    (by simp -implicitDefEqProofs [l114_0, hw, hw0, ih]; first | done | omega) (by constructor <;> simp -implicitDefEqProofs [l114_0])
  rw [f114 _ rfl, b114]
  obtain ⟨op, xi, n⟩ := x
  simp -implicitDefEqProofs [hlt, hlt', hx, hge, ca, hlo, hdp, hwd]
 | .bin x a b, ht, p, q, code, hc, hl => by
  have e : arN x.op = 2 := ht.1
  have hcb : (p ++ a.flat) ++ b.flat ++ (x :: q) = code := by rw [← hc]; simp [Tre.flat]
  have hca : p ++ a.flat ++ (b.flat ++ x :: q) = code := by rw [← hc]; simp [Tre.flat]
  have ihb := ref17_deep b ht.2.2 (p ++ a.flat) (x :: q) code hcb hl
  have iha := ref17_deep a ht.2.1 p (b.flat ++ x :: q) code hca hl
  have ha := a.flat_pos
  have hb := b.flat_pos
  have hla : a.flat.length ≤ code.length := by rw [← hca]; simp only [List.length_append]; omega
  have hlb : b.flat.length ≤ code.length := by rw [← hcb]; simp only [List.length_append]; omega
  have hx : code[(p ++ a.flat ++ b.flat).length]? = some x := by rw [← hcb]; simp
  obtain ⟨hlt, hge⟩ := List.getElem?_eq_some_iff.1 hx
  have ca := ref17_arity (T := T) x.op
  rw [e] at ca
  rw [List.length_append] at ihb
  have e2 : p.length + (Tre.bin x a b).flat.length - 1 = p.length + a.flat.length + b.flat.length := by simp only [Tre.flat, List.length_append, List.length_cons, List.length_nil]; omega
  have e3 : (p ++ a.flat ++ b.flat).length = p.length + a.flat.length + b.flat.length := by rw [List.length_append, List.length_append]
  rw [e2]
  simp only [e3] at hx hlt hge
  have hda := a.deep_le
  have hdb := b.deep_le
  have hdp : (Tre.bin x a b).deep = max a.deep b.deep + 1 := rfl
  have hwd : IntKind.wrap .i64 (((max a.deep b.deep : Nat) : Int) + 1) = ((max a.deep b.deep : Nat) : Int) + 1 := wrap_i64 _ (by omega)
  have hw0 : IntKind.wrap .i64 0 = 0 := by decide
  generalize hK : p.length + a.flat.length = K at *
  generalize hN : K + b.flat.length = N at *
  have hw1 : IntKind.wrap .i64 ((N : Int) - 1) = ((N - 1 : Nat) : Int) := by rw [wrap_i64 _ (by omega)]; omega
  have hw2 : IntKind.wrap .i64 ((K : Int) - 1) = ((K - 1 : Nat) : Int) := by rw [wrap_i64 _ (by omega)]; omega
  have hlt' : (N : Int) < code.length := by omega
  generalize hM : N - 1 = M at *
  generalize hM2 : K - 1 = M2 at *
  generalize hMX : max a.deep b.deep = MX at *
  have hlo : loopN T 0 0 (.norm false [6, 7]) l114_0 ⟨[(0, .sl (rowN code) .an), (6, .i .i64 0), (7, .i .i64 (N : Int)), (8, .i .i64 2)], [], 2⟩ = some (.n, ⟨[(6, .i .i64 MX), (7, .i .i64 p.length)], [], 2⟩) :=
   loop_2 (S1 := ⟨[(0, .sl (rowN code) .an), (6, .i .i64 b.deep), (7, .i .i64 K), (8, .i .i64 1)], [], 2⟩) (S2 := ⟨[(0, .sl (rowN code) .an), (6, .i .i64 MX), (7, .i .i64 p.length), (8, .i .i64 0)], [], 2⟩)
    (by simp -implicitDefEqProofs [l114_0, hw1, hw0, ihb]; first | done | omega) (by simp -implicitDefEqProofs [l114_0, hw2, hw0, iha]; first | done | (split <;> omega) | omega) (by constructor <;> simp -implicitDefEqProofs [l114_0])
  rw [f114 _ rfl, b114]
  obtain ⟨op, xi, n⟩ := x
  simp -implicitDefEqProofs [hlt, hlt', hx, hge, ca, hlo, hdp, hwd]
def Tre.parts : Tre → List (List Nd)
 | .leaf _ => []
 | .un _ a => [a.flat]
 | .bin _ a b => [a.flat, b.flat]
theorem ref17_parts (t : Tre) (ht : t.ok) (hl : t.flat.length ≤ 4294967290) : callF T 81 [.sl (rowN t.flat) .an] = some (.sl (rowC t.parts) .an) := by
 rw [f81 _ rfl, b81]
 cases t with
 | leaf x =>
  have e : arN x.op = 0 := ht
  have ca := ref17_arity (T := T) x.op
  rw [e] at ca
  obtain ⟨op, xi, n⟩ := x
  have hw0 : IntKind.wrap .i64 (1 - 1) = 0 := by decide
  simp -implicitDefEqProofs [Tre.flat, Tre.parts, rowN, rowC, ca, hw0]
 | un x a =>
  have e : arN x.op = 1 := ht.1
  have ca := ref17_arity (T := T) x.op
  rw [e] at ca
  have cd := ref17_deep (T := T) a ht.2 [] [x] (Tre.un x a).flat rfl hl
  have ha := a.flat_pos
  have hx : (Tre.un x a).flat[a.flat.length]? = some x := by simp [Tre.flat]
  obtain ⟨hlt, hge⟩ := List.getElem?_eq_some_iff.1 hx
  have hlen : (Tre.un x a).flat.length = a.flat.length + 1 := by simp [Tre.flat]
  have htk : (Tre.un x a).flat.take a.flat.length = a.flat := by simp [Tre.flat]
  have hp : (Tre.un x a).parts = [a.flat] := rfl
  rw [List.length_nil, Nat.zero_add] at cd
  simp only [Int.natCast_zero] at cd
  rw [hp]
  generalize (Tre.un x a).flat = code at *
  generalize a.flat = A at *
  generalize a.deep = D at *
  have hw1 : IntKind.wrap .i64 ((A.length : Int) + 1 - 1) = A.length := by rw [wrap_i64 _ (by omega)]; omega
  have hw2 : IntKind.wrap .i64 ((A.length : Int) - 1) = ((A.length - 1 : Nat) : Int) := by rw [wrap_i64 _ (by omega)]; omega
  have hw3 : IntKind.wrap .i64 (A.length : Int) = A.length := wrap_i64 _ (by omega)
  have hlt' : (A.length : Int) < code.length := by omega
  have hle : A.length ≤ code.length := by omega
  have hle2 : (A.length : Int) ≤ (A.length : Int) + 1 := by omega
  have hle9 : (A.length : Int) < (A.length : Int) + 1 := by omega
  generalize hM : A.length - 1 = M at *
  obtain ⟨op, xi, n⟩ := x
  simp -implicitDefEqProofs [hlen, hlt, hlt', hx, hge, ca, cd, hw1, hw2, hw3, htk, hle, hle2, hle9, rowC]
 | bin x a b =>
  have e : arN x.op = 2 := ht.1
  have ca := ref17_arity (T := T) x.op
  rw [e] at ca
  have cd := ref17_deep (T := T) b ht.2.2 a.flat [x] (Tre.bin x a b).flat (by simp [Tre.flat]) hl
  have ha := a.flat_pos
  have hb := b.flat_pos
  have hx : (Tre.bin x a b).flat[a.flat.length + b.flat.length]? = some x := by rw [← List.length_append, Tre.flat, ← List.append_assoc]; simp
  obtain ⟨hlt, hge⟩ := List.getElem?_eq_some_iff.1 hx
  have hlen : (Tre.bin x a b).flat.length = a.flat.length + b.flat.length + 1 := by simp [Tre.flat, Nat.add_assoc]
  have htk : (Tre.bin x a b).flat.take a.flat.length = a.flat := by simp [Tre.flat]
  have htk2 : ((Tre.bin x a b).flat.take (a.flat.length + b.flat.length)).drop a.flat.length = b.flat := by
   rw [← List.length_append, Tre.flat, ← List.append_assoc, List.take_left, List.drop_left]
  have hp : (Tre.bin x a b).parts = [a.flat, b.flat] := rfl
  rw [hp]
  generalize (Tre.bin x a b).flat = code at *
  generalize hA : a.flat = A at *
  generalize hB : b.flat = B at *
  generalize b.deep = D at *
  generalize hN : A.length + B.length = N at *
  have hAN : A.length ≤ N := by omega
  have hw1 : IntKind.wrap .i64 ((N : Int) + 1 - 1) = N := by rw [wrap_i64 _ (by omega)]; omega
  have hw2 : IntKind.wrap .i64 ((N : Int) - 1) = ((N - 1 : Nat) : Int) := by rw [wrap_i64 _ (by omega)]; omega
  have hw3 : IntKind.wrap .i64 (N : Int) = N := wrap_i64 _ (by omega)
  have hlt' : (N : Int) < code.length := by omega
  have hle : N ≤ code.length := by omega
  have hle2 : (N : Int) ≤ (N : Int) + 1 := by omega
  have hle9 : (N : Int) < (N : Int) + 1 := by omega
  have hle3 : (A.length : Int) ≤ (N : Int) := by omega
  have hle4 : (A.length : Int) ≤ (N : Int) + 1 := by omega
  generalize hM : N - 1 = M at *
  obtain ⟨op, xi, n⟩ := x
  simp -implicitDefEqProofs [hlen, hlt, hlt', hx, hge, ca, cd, hw1, hw2, hw3, htk, htk2, hle, hle2, hle9, hle3, hle4, hAN, rowC]
end
end Go.Ab
end

section
namespace Go.Ab
section
variable {T : Tbl} [CTree T]
theorem tree_arity (op : Int) : callF T 76 [.i .i64 op] = some (.i .i64 (arN op)) := by
 rw [f76 _ rfl, b76]
 by_cases h : 1 ≤ op ∧ op ≤ 11
 ·rcases (show op = 1 ∨ op = 2 ∨ op = 3 ∨ op = 4 ∨ op = 5 ∨ op = 6 ∨ op = 7 ∨ op = 8 ∨ op = 9 ∨ op = 10 ∨ op = 11 by omega) with rfl | rfl | rfl | rfl | rfl | rfl | rfl | rfl | rfl | rfl | rfl <;> simp -implicitDefEqProofs [arN]
 ·have e : arN op = -1 := by rcases arN_cases op with h1 | h1 | h1 | h1 <;> omega
  have h1 : op ≠ 1 := by omega
  have h2 : op ≠ 2 := by omega
  have h3 : op ≠ 3 := by omega
  have h4 : op ≠ 4 := by omega
  have h5 : op ≠ 5 := by omega
  have h6 : op ≠ 6 := by omega
  have h7 : op ≠ 7 := by omega
  have h8 : op ≠ 8 := by omega
  have h9 : op ≠ 9 := by omega
  have h10 : op ≠ 10 := by omega
  have h11 : op ≠ 11 := by omega
  rw [e]
  simp -implicitDefEqProofs [h1, h2, h3, h4, h5, h6, h7, h8, h9, h10, h11]
def stWr (l : List Nd) (p : Nat × Int) : St := ⟨[(0, .sl (rowN l) .an), (3, .i .i64 p.2), (7, .sl (rowN l) .an), (8, .i .i64 l.length), (9, .i .i64 p.1)], [], 2⟩
theorem tree_wrong_loop (l : List Nd) (hl : l.length ≤ 4294967296) : ∀ p : Nat × Int, (p.1 ≤ l.length ∧ 0 ≤ p.2 ∧ p.2 ≤ p.1) → loopN T 0 0 (.norm false [0, 3]) l74_0 (stWr l p) =
  match goL p.1 p.2 (l.drop p.1) with
  | (some k, _) => some (.r, ⟨[(2, .i .i64 (k : Nat))], [], 2⟩)
  | (none, o) => some (.n, ⟨[(0, .sl (rowN l) .an), (3, .i .i64 o)], [], 2⟩) := by
 refine loopN_eq (stWr l) _ (fun p => l.length - p.1) _ ?_
 rintro ⟨i, o⟩ ⟨hi, ho, ho2⟩
 dsimp only at *
 by_cases h : i < l.length
 ·have hg : l[i]? = some (l[i]'h) := List.getElem?_eq_getElem h
  have hd : l.drop i = l[i]'h :: l.drop (i + 1) := List.drop_eq_getElem_cons h
  have ca := tree_arity (T := T) (l[i]'h).op
  have h' : (i : Int) < l.length := by omega
  have hws := wrapS h (by omega)
  rw [hd, goL]
  generalize hx : l[i]'h = x at *
  clear hd
  rcases arN_cases x.op with ⟨e, _⟩ | ⟨e, _⟩ | ⟨e, _⟩ | ⟨e, _⟩
  ·left
   rw [e] at ca ⊢
   have hw : IntKind.wrap .i64 (o + 1) = o + 1 := wrap_i64 _ (by omega)
   refine ⟨(i + 1, o + 1), ⟨by omega, by omega, by dsimp only; omega⟩, by dsimp only; omega, ?_, ?_⟩
   ·unfold stWr
    simp -implicitDefEqProofs [l74_0, h, h', hg, hx, hws, ca, hw, ho]
   ·rw [if_neg (by omega)]
    simp
  ·rw [e] at ca ⊢
   by_cases hc : o < 1
   ·right
    rw [if_pos (by omega)]
    unfold stWr
    constructor <;> simp -implicitDefEqProofs [l74_0, h, h', hg, hx, ca, hc]
   ·left
    have hw : IntKind.wrap .i64 o = o := wrap_i64 _ (by omega)
    refine ⟨(i + 1, o), ⟨by omega, by omega, by dsimp only; omega⟩, by dsimp only; omega, ?_, ?_⟩
    ·unfold stWr
     simp -implicitDefEqProofs [l74_0, h, h', hg, hx, hws, ca, hw, hc]
    ·rw [if_neg (by omega)]
     simp
  ·rw [e] at ca ⊢
   by_cases hc : o < 2
   ·right
    rw [if_pos (by omega)]
    unfold stWr
    constructor <;> simp -implicitDefEqProofs [l74_0, h, h', hg, hx, ca, hc]
   ·left
    have hw : IntKind.wrap .i64 (o + -1) = o - 1 := wrap_i64 _ (by omega)
    refine ⟨(i + 1, o - 1), ⟨by omega, by omega, by dsimp only; omega⟩, by dsimp only; omega, ?_, ?_⟩
    ·unfold stWr
     simp -implicitDefEqProofs [l74_0, h, h', hg, hx, hws, ca, hw, hc]
    ·rw [if_neg (by omega)]
     dsimp only
     rw [show o + 1 - 2 = o - 1 by omega]
  ·right
   rw [e] at ca ⊢
   rw [if_pos (by omega)]
   unfold stWr
   constructor <;> simp -implicitDefEqProofs [l74_0, h, h', hg, hx, ca]
 ·have : i = l.length := by omega
  subst this
  right
  rw [List.drop_length, goL]
  unfold stWr
  constructor <;> simp -implicitDefEqProofs [l74_0]
theorem tree_wrong (l : List Nd) (hl : l.length ≤ 4294967296) : callF T 74 [.sl (rowN l) .an] = some (.i .i64 (wrongN l)) := by
 have hlo := tree_wrong_loop (T := T) l hl (0, 0) ⟨Nat.zero_le _, by decide, by decide⟩
 have hw := wrongL_go l 0 0
 unfold wrongN
 rw [hw]
 unfold stWr at hlo
 simp only [List.drop_zero, Int.natCast_zero] at hlo
 rw [f74 _ rfl, b74]
 generalize goL 0 0 l = G at *
 obtain ⟨_ | k, o⟩ := G
 ·dsimp only at hlo ⊢
  by_cases h : o = 1
  ·subst h
   simp -implicitDefEqProofs [hlo]
  ·simp -implicitDefEqProofs [hlo, h]
 ·dsimp only at hlo ⊢
  simp -implicitDefEqProofs [hlo]
theorem tree_right (l : List Nd) (hl : l.length ≤ 4294967296) : callF T 44 [.sl (rowN l) .an] = some (.b (decide (wrongN l = -1))) := by
 have c := tree_wrong (T := T) l hl
 have e : decide (wrongN l < 0) = decide (wrongN l = -1) := by
  rcases wrongL_ge l 0 0 with h | h
  ·unfold wrongN; rw [h]; rfl
  ·have : ¬ wrongN l < 0 := by unfold wrongN; omega
   have h2 : ¬ wrongN l = -1 := by omega
   rw [decide_eq_false this, decide_eq_false h2]
 rw [f44 _ rfl, b44, ← e]
 generalize wrongN l = w at *
 simp -implicitDefEqProofs [c]
theorem check_below (i m : Int) : callF T 108 [.i .i64 i, .i .i64 m] = some (.b (belB i m)) := by
 rw [f108 _ rfl, b108]
 unfold belB
 by_cases h : 0 ≤ i
 ·by_cases h2 : i < m <;> simp -implicitDefEqProofs [h, h2]
 ·simp -implicitDefEqProofs [h]
variable [CLimb T] [CNat T] [CText T] [CLenD T]
theorem lenD (n : Nat) (h : (ofN n).length ≤ 1000) : callF T 129 [.sl (u32s (ofN n)) .an] = some (.i .i64 (textN n).length) := by
 have c : callF T 68 [.sl (u32s (ofN n)) .an] = some (.s (textN n)) := by
  rw [p68, prim68_eq _ (by omega), val_ofN]
 rw [f129 _ rfl, b129]
 generalize ofN n = N at *
 simp -implicitDefEqProofs [c]
theorem check_number (n : List UInt32) (hn : n.length ≤ 1000) : callF T 107 [.sl (u32s n) .an] = some (.b (wordsB n)) := by
 have c1 := nat_norm (T := T) n (by omega)
 unfold wordsB
 by_cases h : n = ofN (val n)
 ·have c2 := lenD (T := T) (val n) (by rw [← h]; exact hn)
  rw [← h] at c1 c2
  rw [decide_eq_true h]
  rw [f107 _ rfl, b107]
  generalize (textN (val n)).length = L at *
  by_cases h2 : L ≤ 60
  ·have h2' : (L : Int) ≤ 60 := by omega
   simp -implicitDefEqProofs [c1, c2, h2, h2']
  ·have h2' : ¬ (L : Int) ≤ 60 := by omega
   simp -implicitDefEqProofs [c1, c2, h2, h2']
 ·have h2 : ¬ ((ofN (val n)).length : Int) = n.length := fun hh => h (ofN_len_eq.1 (by omega))
  have h3 : ¬ (ofN (val n)).length = n.length := fun hh => h (ofN_len_eq.1 hh)
  rw [decide_eq_false h]
  rw [f107 _ rfl, b107]
  generalize ofN (val n) = N at *
  simp -implicitDefEqProofs [c1, h2, h3]
theorem check_node (x : Nd) (dim pars lets : Int) (hn : x.n.length ≤ 1000) : callF T 75 [.agg (celN x), .i .i64 dim, .i .i64 pars, .i .i64 lets] = some (.b (okN dim pars lets x)) := by
 have c1 := check_number (T := T) x.n hn
 have c3 := check_below (T := T) x.i dim
 have c4 := check_below (T := T) x.i pars
 have c5 := check_below (T := T) x.i lets
 have ca := tree_arity (T := T) x.op
 obtain ⟨op, i, n⟩ := x
 dsimp only at *
 rw [f75 _ rfl, b75]
 unfold okN
 dsimp only
 generalize wordsB n = W at *
 generalize belB i dim = B3 at *
 generalize belB i pars = B4 at *
 generalize belB i lets = B5 at *
 by_cases h1 : op = 1
 ·subst h1
  by_cases hi : i = 0
  ·subst hi
   simp -implicitDefEqProofs [c1]
  ·simp -implicitDefEqProofs [hi]
 rw [if_neg h1]
 by_cases hne : n = []
 ·subst hne
  by_cases h3 : op = 3
  ·subst h3; simp -implicitDefEqProofs [c3]
  by_cases h4 : op = 4
  ·subst h4; simp -implicitDefEqProofs [c4]
  by_cases h5 : op = 5
  ·subst h5; simp -implicitDefEqProofs [c5]
  by_cases h11 : op = 11
  ·subst h11
   by_cases ha : -8 ≤ i
   ·by_cases hb : i ≤ 8 <;> simp -implicitDefEqProofs [ha, hb]
   ·simp -implicitDefEqProofs [ha]
  by_cases hi : i = 0
  ·subst hi
   rcases arN_cases op with ⟨e, h⟩ | ⟨e, h⟩ | ⟨e, h⟩ | ⟨e, h⟩
   ·rw [e] at ca
    have g1 : ¬ op < 1 := by omega
    have g2 : ¬ 11 < op := by omega
    simp -implicitDefEqProofs [h1, h3, h4, h5, h11, ca, g1, g2]
   ·rw [e] at ca
    have g1 : ¬ op < 1 := by omega
    have g2 : ¬ 11 < op := by omega
    simp -implicitDefEqProofs [h1, h3, h4, h5, h11, ca, g1, g2]
   ·rw [e] at ca
    have g1 : ¬ op < 1 := by omega
    have g2 : ¬ 11 < op := by omega
    simp -implicitDefEqProofs [h1, h3, h4, h5, h11, ca, g1, g2]
   ·rw [e] at ca
    simp -implicitDefEqProofs [h1, h3, h4, h5, h11, ca, h]
  ·have hb : (if (([] : List UInt32) ≠ [] ∨ op < 1 ∨ 11 < op) then false else if op = 3 then B3 else if op = 4 then B4 else if op = 5 then B5 else if op = 11 then decide (-8 ≤ i) && decide (i ≤ 8) else decide (i = 0)) = false := by
    split
    ·rfl
    ·exact decide_eq_false hi
   rw [hb]
   simp -implicitDefEqProofs [h1, h3, h4, h5, h11, hi]
 ·have hp : 0 < n.length := List.length_pos_iff.2 hne
  rw [if_pos (.inl hne)]
  simp -implicitDefEqProofs [h1, hp, hne]
def stPl (l : List Nd) (dim pars lets w : Int) (i : Nat) : St := ⟨[(1, .i .i64 dim), (2, .i .i64 pars), (3, .i .i64 lets), (9, .i .i64 w), (14, .sl (rowN l) .an), (15, .i .i64 l.length), (16, .i .i64 i)], [], 2⟩
theorem check_place_loop (l : List Nd) (dim pars lets w : Int) (hl : l.length ≤ 4294967296) (hn : ∀ x ∈ l, x.n.length ≤ 1000) (hw : w < 0 ∨ (w : Int) ≤ l.length) : loopN T 0 0 (.norm false [9]) l46_0 (stPl l dim pars lets w 0) =
  match findL dim pars lets w 0 l with
  | some k => some (.r, ⟨[(8, .i .i64 (k : Nat))], [], 2⟩)
  | none => some (.n, ⟨[(9, .i .i64 w)], [], 2⟩) := by
 have e0 : l.drop 0 = l := rfl
 rw [← e0]
 refine until_loop (stPl l dim pars lets w) l.length (fun i => match findL dim pars lets w i (l.drop i) with
  | some k => some (.r, ⟨[(8, .i .i64 (k : Nat))], [], 2⟩)
  | none => some (.n, ⟨[(9, .i .i64 w)], [], 2⟩)) (fun i hi => ?_) ?_
 ·have hg : l[i]? = some (l[i]'hi) := List.getElem?_eq_getElem hi
  have hd : l.drop i = l[i]'hi :: l.drop (i + 1) := List.drop_eq_getElem_cons hi
  have cn := check_node (T := T) (l[i]'hi) dim pars lets (hn _ (List.getElem_mem hi))
  have hi' : (i : Int) < l.length := by omega
  have hws := wrapS hi (by omega)
  generalize hx : l[i]'hi = x at *
  rw [hd, findL]
  clear hd
  by_cases h1 : (i : Int) = w
  ·right
   rw [if_pos (.inl h1)]
   subst h1
   unfold stPl
   constructor <;> simp -implicitDefEqProofs [l46_0, hi, hi', hg, hx]
  ·generalize okN dim pars lets x = B at *
   cases B with
   | false =>
    right
    rw [if_pos (.inr rfl)]
    unfold stPl
    constructor <;> simp -implicitDefEqProofs [l46_0, hi, hi', hg, hx, h1, cn]
   | true =>
    left
    refine ⟨?_, by rw [if_neg (by simp [h1])]⟩
    unfold stPl
    simp -implicitDefEqProofs [l46_0, hi, hi', hg, hx, h1, cn, hws]
 ·rw [List.drop_length, findL]
  unfold stPl
  constructor <;> simp -implicitDefEqProofs [l46_0]
theorem check_place (l : List Nd) (dim pars lets : Int) (hl : l.length ≤ 4294967296) (hn : ∀ x ∈ l, x.n.length ≤ 1000) : callF T 46 [.sl (rowN l) .an, .i .i64 dim, .i .i64 pars, .i .i64 lets] = some (.i .i64 (placeN dim pars lets l)) := by
 have cw := tree_wrong (T := T) l hl
 have hlo := check_place_loop (T := T) l dim pars lets (wrongN l) hl hn (by
  rcases wrongL_ge l 0 0 with h | h
  ·left; unfold wrongN; omega
  ·right; unfold wrongN; omega)
 unfold stPl at hlo
 simp only [Int.natCast_zero] at hlo
 have hf := placeL_find dim pars lets (wrongN l) l 0
 unfold placeN
 rw [hf]
 rw [f46 _ rfl, b46]
 generalize wrongN l = w at *
 generalize findL dim pars lets w 0 l = F at *
 cases F with
 | none =>
  dsimp only at hlo ⊢
  simp -implicitDefEqProofs [cw, hlo]
 | some k =>
  dsimp only at hlo ⊢
  simp -implicitDefEqProofs [cw, hlo]
end
end Go.Ab
end

section
namespace Go.Ab
def joinN (op : Int) (l : List (List Nd)) : List Nd := l.flatten ++ [⟨op, 0, []⟩]
def kN (n : Int) : List Nd := [⟨1, 0, if n = 0 then [] else [w32 n.toNat]⟩]
def powN (a : List Nd) (e : Int) : List Nd := a ++ [⟨11, e, []⟩]
def timesN (op : Int) (d o : List Nd) (first : Bool) : List Nd := if d = [] then [] else if first then joinN op [d, o] else joinN op [o, d]
def bothN (op : Int) (a b : List Nd) : List Nd := if b = [] then a else if a ≠ [] then joinN op [a, b] else if op = 8 then joinN 6 [b] else b
def oneN (x : Nd) (a da : List Nd) : List Nd :=
 if da = [] ∨ (x.op = 11 ∧ x.i = 0) then [] else if x.op = 6 then joinN 6 [da]
 else if 0 < x.i then joinN 9 [joinN 9 [kN x.i, powN a (x.i - 1)], da]
 else joinN 6 [joinN 10 [joinN 9 [joinN 9 [kN (-x.i), powN a x.i], da], a]]
def lowN (d b o : List Nd) : List Nd := if timesN 9 d o false = [] then [] else joinN 10 [timesN 9 d o false, joinN 9 [b, b]]
def twoN (op : Int) (a da b db : List Nd) : List Nd :=
 if op = 9 then bothN 7 (timesN 9 da b true) (timesN 9 db a false)
 else if op = 10 then bothN 8 (timesN 10 da b true) (lowN db b a)
 else bothN op da db
def Tre.der (u : Nd) : Tre → List Nd
 | .leaf x => if x.op = u.op ∧ x.i = u.i then kN 1 else []
 | .un x a => oneN x a.flat (a.der u)
 | .bin x a b => twoN x.op a.flat (a.der u) b.flat (b.der u)
@[simp] theorem joinN_ne (op : Int) (l : List (List Nd)) : joinN op l ≠ [] := by simp [joinN]
theorem joinN1 (op : Int) (a : List Nd) : (joinN op [a]).length = a.length + 1 := by simp [joinN]
theorem joinN2 (op : Int) (a b : List Nd) : (joinN op [a, b]).length = a.length + b.length + 1 := by simp [joinN]; omega
theorem kN_len (n : Int) : (kN n).length = 1 := rfl
theorem powN_len (a : List Nd) (e : Int) : (powN a e).length = a.length + 1 := by simp [powN]
theorem timesN_le (op : Int) (d o : List Nd) (f : Bool) : (timesN op d o f).length ≤ d.length + o.length + 1 := by
 unfold timesN
 split
 ·simp
 ·split <;> rw [joinN2] <;> omega
theorem bothN_le (op : Int) (a b : List Nd) : (bothN op a b).length ≤ a.length + b.length + 1 := by
 unfold bothN
 split
 ·omega
 ·split
  ·rw [joinN2]; omega
  ·split
   ·rw [joinN1]; omega
   ·omega
theorem oneN_le (x : Nd) (a da : List Nd) : (oneN x a da).length ≤ da.length + 2 * a.length + 7 := by
 unfold oneN
 split
 ·simp
 ·split
  ·rw [joinN1]; omega
  ·split
   ·rw [joinN2, joinN2, kN_len, powN_len]; omega
   ·rw [joinN1, joinN2, joinN2, joinN2, kN_len, powN_len]; omega
theorem lowN_le (d b o : List Nd) : (lowN d b o).length ≤ d.length + o.length + 2 * b.length + 3 := by
 unfold lowN
 have := timesN_le 9 d o false
 split
 ·simp
 ·rw [joinN2, joinN2]; omega
theorem twoN_le (op : Int) (a da b db : List Nd) : (twoN op a da b db).length ≤ da.length + db.length + a.length + 3 * b.length + 6 := by
 unfold twoN
 split
 ·have := bothN_le 7 (timesN 9 da b true) (timesN 9 db a false)
  have := timesN_le 9 da b true
  have := timesN_le 9 db a false
  omega
 ·split
  ·have := bothN_le 8 (timesN 10 da b true) (lowN db b a)
   have := timesN_le 10 da b true
   have := lowN_le db b a
   omega
  ·have := bothN_le op da db
   omega
theorem der_le (u : Nd) : ∀ t : Tre, (t.der u).length ≤ 10 * (t.flat.length * t.flat.length)
 | .leaf x => by
  unfold Tre.der
  split
  ·simp [kN_len, Tre.flat]
  ·simp
 | .un x a => by
  have h1 := der_le u a
  have h2 := oneN_le x a.flat (a.der u)
  have h3 : (Tre.un x a).flat.length = a.flat.length + 1 := by simp [Tre.flat]
  show (oneN x a.flat (a.der u)).length ≤ _
  rw [h3]
  generalize a.flat.length = n at *
  have : (n + 1) * (n + 1) = n * n + 2 * n + 1 := by rw [Nat.add_mul, Nat.mul_add]; omega
  rw [this]
  omega
 | .bin x a b => by
  have h1 := der_le u a
  have h1' := der_le u b
  have h2 := twoN_le x.op a.flat (a.der u) b.flat (b.der u)
  have h3 : (Tre.bin x a b).flat.length = a.flat.length + b.flat.length + 1 := by simp [Tre.flat]; omega
  show (twoN x.op a.flat (a.der u) b.flat (b.der u)).length ≤ _
  rw [h3]
  generalize a.flat.length = n at *
  generalize b.flat.length = m at *
  have : (n + m + 1) * (n + m + 1) = n * n + m * m + 2 * (n * m) + 2 * n + 2 * m + 1 := by
   rw [Nat.add_mul, Nat.mul_add, Nat.add_mul, Nat.mul_add, Nat.mul_add, Nat.mul_comm m n]; omega
  rw [this]
  omega
def catN (a b : List Nd) (op i : Int) : List Nd := a ++ b ++ [⟨op, i, []⟩]
theorem join1 (op : Int) (a : List Nd) : joinN op [a] = catN a [] op 0 := by simp [joinN, catN]
theorem join2 (op : Int) (a b : List Nd) : joinN op [a, b] = catN a b op 0 := by simp [joinN, catN]
theorem powN_cat (a : List Nd) (e : Int) : powN a e = catN a [] 11 e := by simp [powN, catN]
theorem catN_ne (a b : List Nd) (op i : Int) : catN a b op i ≠ [] := by simp [catN]
def thin (w : Nat) (l : List Nd) : Prop := ∀ x ∈ l, x.n.length ≤ w
theorem thin_app {w : Nat} {a b : List Nd} (ha : thin w a) (hb : thin w b) : thin w (a ++ b) := fun x hx => (List.mem_append.1 hx).elim (ha x) (hb x)
theorem thin_cat {w : Nat} {a b : List Nd} {op i : Int} (ha : thin w a) (hb : thin w b) : thin w (catN a b op i) := by
 refine thin_app (thin_app ha hb) fun x hx => ?_
 rw [List.mem_singleton.1 hx]; exact Nat.zero_le _
theorem thin_nil (w : Nat) : thin w [] := by simp [thin]
theorem thin_k {w : Nat} (hw : 1 ≤ w) (n : Int) : thin w (kN n) := by
 intro x hx
 rw [List.mem_singleton.1 hx]
 dsimp only
 split
 ·exact Nat.zero_le _
 ·exact hw
theorem thin_times {w : Nat} {op : Int} {d o : List Nd} {f : Bool} (hd : thin w d) (ho : thin w o) : thin w (timesN op d o f) := by
 unfold timesN
 split
 ·exact thin_nil w
 ·split <;> rw [join2]
  ·exact thin_cat hd ho
  ·exact thin_cat ho hd
theorem thin_both {w : Nat} {op : Int} {a b : List Nd} (ha : thin w a) (hb : thin w b) : thin w (bothN op a b) := by
 unfold bothN
 split
 ·exact ha
 ·split
  ·rw [join2]; exact thin_cat ha hb
  ·split
   ·rw [join1]; exact thin_cat hb (thin_nil w)
   ·exact hb
theorem thin_one {w : Nat} (hw : 1 ≤ w) {x : Nd} {a da : List Nd} (ha : thin w a) (hd : thin w da) : thin w (oneN x a da) := by
 unfold oneN
 split
 ·exact thin_nil w
 ·split
  ·rw [join1]; exact thin_cat hd (thin_nil w)
  ·split
   ·rw [join2, join2, powN_cat]; exact thin_cat (thin_cat (thin_k hw _) (thin_cat ha (thin_nil w))) hd
   ·rw [join1, join2, join2, join2, powN_cat]; exact thin_cat (thin_cat (thin_cat (thin_cat (thin_k hw _) (thin_cat ha (thin_nil w))) hd) ha) (thin_nil w)
theorem thin_low {w : Nat} {d b o : List Nd} (hd : thin w d) (hb : thin w b) (ho : thin w o) : thin w (lowN d b o) := by
 unfold lowN
 split
 ·exact thin_nil w
 ·rw [join2, join2]; exact thin_cat (thin_times hd ho) (thin_cat hb hb)
theorem thin_two {w : Nat} {op : Int} {a da b db : List Nd} (ha : thin w a) (hda : thin w da) (hb : thin w b) (hdb : thin w db) : thin w (twoN op a da b db) := by
 unfold twoN
 split
 ·exact thin_both (thin_times hda hb) (thin_times hdb ha)
 ·split
  ·exact thin_both (thin_times hda hb) (thin_low hdb hb ha)
  ·exact thin_both hda hdb
theorem thin_der {w : Nat} (hw : 1 ≤ w) (u : Nd) : ∀ t : Tre, thin w t.flat → thin w (t.der u)
 | .leaf x, _ => by
  unfold Tre.der
  split
  ·exact thin_k hw _
  ·exact thin_nil w
 | .un x a, h => by
  have ha : thin w a.flat := fun y hy => h y (by simp [Tre.flat, hy])
  exact thin_one hw ha (thin_der hw u a ha)
 | .bin x a b, h => by
  have ha : thin w a.flat := fun y hy => h y (by simp [Tre.flat, hy])
  have hb : thin w b.flat := fun y hy => h y (by simp [Tre.flat, hy])
  exact thin_two ha (thin_der hw u a ha) hb (thin_der hw u b hb)
def pushT (s : List Tre) (x : Nd) : List Tre :=
 if arN x.op = 0 then .leaf x :: s else
  match s with
  | [] => []
  | a :: s1 => if arN x.op = 1 then .un x a :: s1 else
   match s1 with
   | [] => []
   | b :: s2 => .bin x b a :: s2
theorem fold_flat : ∀ (t : Tre), t.ok → ∀ (s : List Tre) (r : List Nd), (t.flat ++ r).foldl pushT s = r.foldl pushT (t :: s)
 | .leaf x, h, s, r => by
  have e : arN x.op = 0 := h
  show (x :: r).foldl pushT s = _
  rw [List.foldl_cons, show pushT s x = .leaf x :: s from by simp [pushT, e]]
 | .un x a, h, s, r => by
  have e : arN x.op = 1 := h.1
  rw [Tre.flat, List.append_assoc, fold_flat a h.2]
  show (x :: r).foldl pushT _ = _
  rw [List.foldl_cons, show pushT (a :: s) x = .un x a :: s from by simp [pushT, e]]
 | .bin x a b, h, s, r => by
  have e : arN x.op = 2 := h.1
  rw [Tre.flat, List.append_assoc, fold_flat a h.2.1, List.append_assoc, fold_flat b h.2.2]
  show (x :: r).foldl pushT _ = _
  rw [List.foldl_cons, show pushT (b :: a :: s) x = .bin x a b :: s from by simp [pushT, e]]
abbrev Pc := List Nd × List Nd
def pcs (u : Nd) (s : List Tre) : List Pc := s.reverse.map fun t => (t.flat, t.der u)
def lenP (l : List Pc) : Nat := (l.map fun p => p.1.length).sum
theorem lenP_nil : lenP [] = 0 := rfl
theorem lenP_snoc (l : List Pc) (p : Pc) : lenP (l ++ [p]) = lenP l + p.1.length := by simp [lenP]
theorem lenP_append (l m : List Pc) : lenP (l ++ m) = lenP l + lenP m := by simp [lenP]
theorem lenP_pcs (u : Nd) (s : List Tre) : lenP (pcs u s) = (flats s.reverse).length := by
 unfold lenP pcs flats
 rw [List.map_map, List.length_flatMap]
 rfl
theorem pcs_cons (u : Nd) (t : Tre) (s : List Tre) : pcs u (t :: s) = pcs u s ++ [(t.flat, t.der u)] := by simp [pcs]
theorem pcs_length (u : Nd) (s : List Tre) : (pcs u s).length = s.length := by simp [pcs]
theorem flats_snoc (s : List Tre) (t : Tre) : flats (s ++ [t]) = flats s ++ t.flat := by simp [flats]
end Go.Ab
end

section
namespace Go.Ab
def dv (l : List Nd) : AV := if l = [] then .sl [] .nl else .sl (rowN l) .an
def flg (l : List Nd) : Fl := if l = [] then .nl else .an
theorem dv_sl (l : List Nd) : dv l = .sl (rowN l) (flg l) := by
 unfold dv flg
 by_cases h : l = []
 ·rw [if_pos h, if_pos h, h]; rfl
 ·rw [if_neg h, if_neg h]
theorem eqnil_flg (l : List Nd) (g : Bool) : eqnilAV g (.sl (rowN l) (flg l)) = some (.b (if l = [] then !g else g)) := by
 unfold flg
 cases l <;> rfl
theorem dv_nil : dv [] = .sl [] .nl := rfl
theorem dv_ne {l : List Nd} (h : l ≠ []) : dv l = .sl (rowN l) .an := by rw [dv, if_neg h]
theorem eqnil_row {l : List Nd} (h : l ≠ []) (g : Bool) : eqnilAV g (.sl (rowN l) .an) = some (.b g) := by
 cases l with
 | nil => exact absurd rfl h
 | cons x l => rfl
theorem rowN_push1 (m : List Nd) (op i : Int) (n : List UInt32) : wkL (rowN m ++ [[.i .i64 op, .i .i64 i, .sl (u32s n) .an]]) = rowN (m ++ [⟨op, i, n⟩]) := by
 rw [wkL_map, List.map_append, ← wkL_map, rowN_wk]
 simp [rowN, wkR, wkA]
theorem takeS (m : List Nd) (x : Nd) : (m ++ [x]).take (m.length + 1) = m ++ [x] := List.take_of_length_le (by simp)
theorem eqnil_nil (g : Bool) : eqnilAV g (.sl [] .nl) = some (.b (!g)) := rfl
theorem rowN_push0 (m : List Nd) (op i : Int) : wkL (rowN m ++ [[.i .i64 op, .i .i64 i, .sl [] .nl]]) = rowN (m ++ [⟨op, i, []⟩]) := by
 rw [wkL_map, List.map_append, ← wkL_map, rowN_wk]
 simp [rowN, wkR, wkA]
section
variable {T : Tbl} [CDiff T]
def stJn (op : Int) (L : List (List Nd)) (i : Nat) (c : List Nd) (acc : List Nd) (j : Nat) : St :=
 ⟨[(0, .i .i64 op), (5, .bs (.loc 5) 1 3 0 acc.length), (10, .sl (rowC L) .an), (11, .i .i64 L.length), (12, .i .i64 i), (16, .sl (rowN c) .an), (17, .i .i64 c.length), (18, .i .i64 j)],
  [(.loc 5, ⟨1, .own, 3, rowN acc⟩)], 3⟩
theorem join_inner (op : Int) (L : List (List Nd)) (i : Nat) (c acc : List Nd) (hl : acc.length + c.length ≤ 4294967295) (hn : ∀ x ∈ c, x.n.length ≤ 4294967295) :
  loopN T 0 2 (.norm false [0, 5, 10, 11, 12]) l109_0 (stJn op L i c acc 0) =
  some (.n, ⟨[(0, .i .i64 op), (5, .bs (.loc 5) 1 3 0 (acc ++ c).length), (10, .sl (rowC L) .an), (11, .i .i64 L.length), (12, .i .i64 i)], [(.loc 5, ⟨1, .own, 3, rowN (acc ++ c)⟩)], 3⟩) := by
 have := range_loop (T := T) (k := 0) (id := 2) (g2 := .norm false [0, 5, 10, 11, 12]) (c := l109_0) (fun j => stJn op L i c (acc ++ c.take j) j) c.length
   (some (.n, ⟨[(0, .i .i64 op), (5, .bs (.loc 5) 1 3 0 (acc ++ c).length), (10, .sl (rowC L) .an), (11, .i .i64 L.length), (12, .i .i64 i)], [(.loc 5, ⟨1, .own, 3, rowN (acc ++ c)⟩)], 3⟩)) (fun j hj => ?_) ?_
 ·simpa using this
 ·have hg : c[j]? = some (c[j]'hj) := List.getElem?_eq_getElem hj
  have hj' : (j : Int) < c.length := by omega
  have hws := wrapS hj (by omega)
  have hs : c.take (j + 1) = c.take j ++ [c[j]'hj] := by rw [List.take_succ_eq_append_getElem hj]
  have hm : (acc ++ c.take j).length = acc.length + j := by rw [List.length_append, List.length_take]; omega
  rw [hs, ← List.append_assoc]
  have hnx := hn _ (List.getElem_mem hj)
  have hp := rowN_push1 (acc ++ c.take j) (c[j]'hj).op (c[j]'hj).i (c[j]'hj).n
  generalize hx : c[j]'hj = x at *
  generalize acc ++ c.take j = m at *
  obtain ⟨op', i', n⟩ := x
  clear hs
  dsimp only at *
  have h32 : m.length + 1 ≤ 4294967296 := by omega
  have h33 : n.length ≤ 4294967296 := by omega
  unfold stJn
  simp -implicitDefEqProofs [l109_0, hj, hj', hg, hx, hws, hp, h32, h33]
 ·rw [List.take_length]
  unfold stJn
  constructor <;> simp -implicitDefEqProofs [l109_0]
theorem flatten_take_succ {L : List (List Nd)} {i : Nat} (h : i < L.length) : (L.take (i + 1)).flatten = (L.take i).flatten ++ L[i]'h := by
 rw [List.take_succ_eq_append_getElem h, List.flatten_append]; simp only [List.flatten_cons, List.flatten_nil, List.append_nil]
theorem flatten_take_le (L : List (List Nd)) (i : Nat) : (L.take i).flatten.length ≤ L.flatten.length := by
 have : L.flatten = (L.take i).flatten ++ (L.drop i).flatten := by rw [← List.flatten_append, List.take_append_drop]
 rw [this, List.length_append]; omega
theorem diff_join (op : Int) (L : List (List Nd)) (hl : L.flatten.length ≤ 4294967295) (hL : L.length ≤ 1000) (hn : ∀ c ∈ L, ∀ x ∈ c, x.n.length ≤ 4294967295) : callF T 109 [.i .i64 op, .sl (rowC L) .an] = some (.sl (rowN (joinN op L)) .an) := by
 have hlo : loopN T 0 0 (.norm false [0, 5]) l109_1 ⟨[(0, .i .i64 op), (5, .bs (.loc 5) 1 3 0 0), (10, .sl (rowC L) .an), (11, .i .i64 L.length), (12, .i .i64 0)], [(.loc 5, ⟨1, .own, 3, []⟩)], 3⟩ =
   some (.n, ⟨[(0, .i .i64 op), (5, .bs (.loc 5) 1 3 0 L.flatten.length)], [(.loc 5, ⟨1, .own, 3, rowN L.flatten⟩)], 3⟩) := by
  have := range_loop (T := T) (k := 0) (id := 0) (g2 := .norm false [0, 5]) (c := l109_1) (fun i => ⟨[(0, .i .i64 op), (5, .bs (.loc 5) 1 3 0 (L.take i).flatten.length), (10, .sl (rowC L) .an), (11, .i .i64 L.length), (12, .i .i64 (i : Int))], [(.loc 5, ⟨1, .own, 3, rowN (L.take i).flatten⟩)], 3⟩) L.length
   (some (.n, ⟨[(0, .i .i64 op), (5, .bs (.loc 5) 1 3 0 L.flatten.length)], [(.loc 5, ⟨1, .own, 3, rowN L.flatten⟩)], 3⟩)) (fun i hi => ?_) ?_
  ·simpa using this
  ·have hg : L[i]? = some (L[i]'hi) := List.getElem?_eq_getElem hi
   have hi' : (i : Int) < L.length := by omega
   have hws := wrapS hi (by omega)
   have hf := flatten_take_succ hi
   have hle := flatten_take_le L (i + 1)
   rw [hf, List.length_append] at hle
   have hin := join_inner (T := T) op L i (L[i]'hi) (L.take i).flatten (by omega) (hn _ (List.getElem_mem hi))
   rw [hf]
   generalize hx : L[i]'hi = c at *
   generalize (L.take i).flatten = m at *
   clear hf hle
   unfold stJn at hin
   simp only [Int.natCast_zero] at hin
   simp -implicitDefEqProofs [l109_1, hi, hi', hg, hx, hws, hin]
  ·rw [List.take_length]
   constructor <;> simp -implicitDefEqProofs [l109_1]
 have hp := rowN_push0 L.flatten op 0
 have h32 : L.flatten.length + 1 ≤ 4294967296 := by omega
 rw [f109 _ rfl, b109]
 unfold joinN
 generalize L.flatten = m at *
 have ht := takeS m ⟨op, 0, []⟩
 simp -implicitDefEqProofs [hlo, hp, h32, ht]
theorem diff_join1 (op : Int) (a : List Nd) (hl : a.length ≤ 4294967295) (hn : thin 1000 a) : callF T 109 [.i .i64 op, .sl [[.sl (rowN a) .an]] .an] = some (.sl (rowN (joinN op [a])) .an) :=
 diff_join op [a] (by simpa using hl) (by simp) (fun c hc x hx => by rw [List.mem_singleton.1 hc] at hx; exact Nat.le_trans (hn x hx) (by decide))
theorem diff_join2 (op : Int) (a b : List Nd) (hl : a.length + b.length ≤ 4294967295) (ha : thin 1000 a) (hb : thin 1000 b) : callF T 109 [.i .i64 op, .sl [[.sl (rowN a) .an], [.sl (rowN b) .an]] .an] = some (.sl (rowN (joinN op [a, b])) .an) :=
 diff_join op [a, b] (by simpa using hl) (by simp) (fun c hc x hx => by
  simp only [List.mem_cons, List.not_mem_nil, or_false] at hc
  rcases hc with rfl | rfl
  ·exact Nat.le_trans (ha x hx) (by decide)
  ·exact Nat.le_trans (hb x hx) (by decide))
theorem diff_const (k : Nat) (hk : k < 1000) : callF T 48 [.i .i64 (k : Int)] = some (.sl (rowN (kN k)) .an) := by
 rw [f48 _ rfl, b48]
 unfold kN
 by_cases h : k = 0
 ·subst h
  simp -implicitDefEqProofs [rowN]
 ·have h' : ¬ (k : Int) = 0 := by omega
  have e : (w32 k).toNat = k := by rw [w32_toNat]; omega
  simp -implicitDefEqProofs [h, h', rowN, u32s, e]
  omega
theorem diff_power (a : List Nd) (e : Int) (hl : a.length ≤ 4294967295) : callF T 110 [.sl (rowN a) .an, .i .i64 e] = some (.sl (rowN (powN a e)) .an) := by
 have hp := rowN_push0 a 11 e
 have h32 : a.length + 1 ≤ 4294967296 := by omega
 have h33 : a.length ≤ 4294967296 := by omega
 rw [f110 _ rfl, b110]
 unfold powN
 have ht := takeS a ⟨11, e, []⟩
 simp -implicitDefEqProofs [hp, h32, h33, ht]
theorem diff_times (op : Int) (d o : List Nd) (f : Bool) (hl : d.length + o.length ≤ 4294967295) (hd : thin 1000 d) (ho : thin 1000 o) : callF T 112 [.i .i64 op, dv d, .sl (rowN o) .an, .b f] = some (dv (timesN op d o f)) := by
 have c1 := diff_join2 (T := T) op d o hl hd ho
 have c2 := diff_join2 (T := T) op o d (by omega) ho hd
 rw [f112 _ rfl, b112]
 unfold timesN
 by_cases h : d = []
 ·subst h
  simp -implicitDefEqProofs [dv_nil]
 ·have e1 := eqnil_row h
  rw [dv_ne h, if_neg h]
  cases f with
  | true =>
   rw [if_pos rfl, dv_ne (joinN_ne _ _)]
   generalize joinN op [d, o] = R at *
   simp -implicitDefEqProofs [-eqnilAV, eqnil_nil, e1, c1]
  | false =>
   rw [if_neg (by decide), dv_ne (joinN_ne _ _)]
   generalize joinN op [o, d] = R at *
   simp -implicitDefEqProofs [-eqnilAV, eqnil_nil, e1, c2]
theorem diff_both (op : Int) (a b : List Nd) (hl : a.length + b.length ≤ 4294967295) (ha : thin 1000 a) (hb : thin 1000 b) : callF T 111 [.i .i64 op, dv a, dv b] = some (dv (bothN op a b)) := by
 have c1 := diff_join2 (T := T) op a b hl ha hb
 have c2 := diff_join1 (T := T) 6 b (by omega) hb
 rw [f111 _ rfl, b111]
 unfold bothN
 by_cases h : b = []
 ·subst h
  rw [if_pos rfl]
  simp -implicitDefEqProofs [dv_nil]
  by_cases h2 : a = []
  ·subst h2; simp -implicitDefEqProofs [dv_nil]
  ·rw [dv_ne h2]; simp -implicitDefEqProofs
 ·have e1 := eqnil_row h
  rw [if_neg h, dv_ne h]
  by_cases h2 : a = []
  ·subst h2
   rw [if_neg (fun hh => hh rfl), dv_nil]
   by_cases h3 : op = 8
   ·subst h3
    rw [if_pos rfl, dv_ne (joinN_ne _ _)]
    generalize joinN 6 [b] = R at *
    simp -implicitDefEqProofs [-eqnilAV, eqnil_nil, e1, c2]
   ·rw [if_neg h3, dv_ne h]
    simp -implicitDefEqProofs [-eqnilAV, eqnil_nil, e1, h3]
  ·have e2 := eqnil_row h2
   rw [if_pos h2, dv_ne h2, dv_ne (joinN_ne _ _)]
   generalize joinN op [a, b] = R at *
   simp -implicitDefEqProofs [-eqnilAV, eqnil_nil, e1, e2, c1]
end
end Go.Ab
end

section
namespace Go.Ab
section
variable {T : Tbl} [CDiff T]
theorem diff_is (x u : Nd) : callF T 53 [.agg (celN x), .agg (celN u)] = some (.b (decide (x.op = u.op) && decide (x.i = u.i))) := by
 obtain ⟨op, i, n⟩ := x
 obtain ⟨op', i', n'⟩ := u
 rw [f53 _ rfl, b53]
 dsimp only
 by_cases h : op = op'
 ·subst h
  by_cases h2 : i = i' <;> simp -implicitDefEqProofs [h2]
 ·simp -implicitDefEqProofs [h]
abbrev celP (p : Pc) : List AV := [.sl (rowN p.1) .an, dv p.2]
theorem diff_two (op : Int) (a da b db : List Nd) (hl : a.length + da.length + 3 * b.length + db.length + 10 ≤ 4294967295) (ha : thin 1000 a) (hda : thin 1000 da) (hb : thin 1000 b) (hdb : thin 1000 db) :
  callF T 78 [.i .i64 op, .agg (celP (a, da)), .agg (celP (b, db))] = some (dv (twoN op a da b db)) := by
 rw [f78 _ rfl, b78]
 unfold twoN
 by_cases h9 : op = 9
 ·subst h9
  have c1 := diff_times (T := T) 9 da b true (by omega) hda hb
  have c2 := diff_times (T := T) 9 db a false (by omega) hdb ha
  have l1 := timesN_le 9 da b true
  have l2 := timesN_le 9 db a false
  have c3 := diff_both (T := T) 7 (timesN 9 da b true) (timesN 9 db a false) (by omega) (thin_times hda hb) (thin_times hdb ha)
  rw [if_pos rfl]
  simp only [celP, dv_sl] at c1 c2 c3 ⊢
  generalize bothN 7 (timesN 9 da b true) (timesN 9 db a false) = R at *
  generalize timesN 9 da b true = P1 at *
  generalize timesN 9 db a false = P2 at *
  generalize flg R = fR at *
  generalize flg P1 = f1 at *
  generalize flg P2 = f2 at *
  generalize flg da = fa at *
  generalize flg db = fb at *
  simp -implicitDefEqProofs [c1, c2, c3]
 rw [if_neg h9]
 by_cases h10 : op = 10
 ·subst h10
  have c1 := diff_times (T := T) 9 db a false (by omega) hdb ha
  have c2 := diff_join2 (T := T) 9 b b (by omega) hb hb
  have l1 := timesN_le 9 db a false
  have l2 := joinN2 9 b b
  have tb : thin 1000 (joinN 9 [b, b]) := by rw [join2]; exact thin_cat hb hb
  have c3 := diff_join2 (T := T) 10 (timesN 9 db a false) (joinN 9 [b, b]) (by omega) (thin_times hdb ha) tb
  have c4 := diff_times (T := T) 10 da b true (by omega) hda hb
  have l4 := timesN_le 10 da b true
  have l5 := lowN_le db b a
  have c5 := diff_both (T := T) 8 (timesN 10 da b true) (lowN db b a) (by omega) (thin_times hda hb) (thin_low hdb hb ha)
  have e1 := eqnil_flg (timesN 9 db a false) true
  rw [if_pos rfl]
  by_cases hz : timesN 9 db a false = []
  ·have hlow : lowN db b a = [] := by unfold lowN; rw [if_pos hz]
   rw [hlow] at c5 ⊢
   rw [if_pos hz] at e1
   rw [hz] at c1
   simp only [celP, dv_sl] at c1 c4 c5 ⊢
   generalize bothN 8 (timesN 10 da b true) [] = R at *
   generalize timesN 10 da b true = P1 at *
   generalize flg R = fR at *
   generalize flg P1 = f1 at *
   generalize flg da = fa at *
   generalize flg db = fb at *
   have e2 : flg [] = .nl := rfl
   rw [e2] at c1 c5
   simp -implicitDefEqProofs [-eqnilAV, eqnil_nil, c1, c4, c5] at c1 c5 ⊢
   simp -implicitDefEqProofs [-eqnilAV, eqnil_nil, c1, c4, c5]
  ·have hlow : lowN db b a = joinN 10 [timesN 9 db a false, joinN 9 [b, b]] := by unfold lowN; rw [if_neg hz]
   have hfz : flg (timesN 9 db a false) = .an := by unfold flg; rw [if_neg hz]
   have hfl : flg (joinN 10 [timesN 9 db a false, joinN 9 [b, b]]) = .an := by unfold flg; rw [if_neg (joinN_ne _ _)]
   rw [hlow] at c5 ⊢
   rw [if_neg hz, hfz] at e1
   simp only [celP, dv_sl, hfz, hfl] at c1 c4 c5 ⊢
   generalize bothN 8 (timesN 10 da b true) (joinN 10 [timesN 9 db a false, joinN 9 [b, b]]) = R at *
   generalize joinN 10 [timesN 9 db a false, joinN 9 [b, b]] = LO at *
   generalize joinN 9 [b, b] = BB at *
   generalize timesN 9 db a false = P2 at *
   generalize timesN 10 da b true = P1 at *
   generalize flg R = fR at *
   generalize flg P1 = f1 at *
   generalize flg da = fa at *
   generalize flg db = fb at *
   simp -implicitDefEqProofs [-eqnilAV, eqnil_nil, e1, c1, c2, c3, c4, c5]
 rw [if_neg h10]
 have c1 := diff_both (T := T) op da db (by omega) hda hdb
 simp only [celP, dv_sl] at c1 ⊢
 generalize bothN op da db = R at *
 generalize flg R = fR at *
 generalize flg da = fa at *
 generalize flg db = fb at *
 simp -implicitDefEqProofs [h9, h10, c1]
theorem diff_one (x : Nd) (a da : List Nd) (hx : x.op = 6 ∨ x.op = 11) (hi : -8 ≤ x.i ∧ x.i ≤ 8) (h6 : x.op = 6 → x.i = 0) (hl : 2 * a.length + da.length + 10 ≤ 4294967295) (ha : thin 1000 a) (hda : thin 1000 da) :
  callF T 77 [.agg (celN x), .agg (celP (a, da))] = some (dv (oneN x a da)) := by
 obtain ⟨op, i, n⟩ := x
 dsimp only at hx hi h6
 rw [f77 _ rfl, b77]
 unfold oneN
 simp only [celP]
 by_cases hz : da = []
 ·subst hz
  rw [if_pos (.inl rfl)]
  simp -implicitDefEqProofs [dv_nil]
 have e1 := eqnil_row hz
 rw [dv_ne hz]
 rcases hx with rfl | rfl
 ·have c1 := diff_join1 (T := T) 6 da (by omega) hda
  rw [if_neg (by simp [hz]), if_pos rfl, dv_ne (joinN_ne _ _)]
  generalize joinN 6 [da] = R at *
  simp -implicitDefEqProofs [-eqnilAV, eqnil_nil, e1, c1]
 by_cases h0 : i = 0
 ·subst h0
  rw [if_pos (.inr ⟨rfl, rfl⟩)]
  simp -implicitDefEqProofs [-eqnilAV, eqnil_nil, e1, dv_nil]
 rw [if_neg (by simp [hz, h0]), if_neg (by decide)]
 by_cases hp : 0 < i
 ·obtain ⟨k, rfl⟩ : ∃ k : Nat, i = k := ⟨i.toNat, by omega⟩
  have c1 := diff_const (T := T) k (by omega)
  have c2 := diff_power (T := T) a ((k : Int) - 1) (by omega)
  have l1 := kN_len (k : Int)
  have l2 := powN_len a ((k : Int) - 1)
  have tp : thin 1000 (powN a ((k : Int) - 1)) := by rw [powN_cat]; exact thin_cat ha (thin_nil _)
  have c3 := diff_join2 (T := T) 9 (kN k) (powN a ((k : Int) - 1)) (by omega) (thin_k (by decide) _) tp
  have l3 := joinN2 9 (kN k) (powN a ((k : Int) - 1))
  have t3 : thin 1000 (joinN 9 [kN k, powN a ((k : Int) - 1)]) := by rw [join2]; exact thin_cat (thin_k (by decide) _) tp
  have c4 := diff_join2 (T := T) 9 (joinN 9 [kN k, powN a ((k : Int) - 1)]) da (by omega) t3 hda
  have hw : IntKind.wrap .i64 ((k : Int) - 1) = (k : Int) - 1 := wrap_i64 _ (by omega)
  rw [if_pos hp, dv_ne (joinN_ne _ _)]
  have hp' : 0 < k := by omega
  have h0' : ¬ k = 0 := by omega
  generalize joinN 9 [joinN 9 [kN k, powN a ((k : Int) - 1)], da] = R at *
  generalize joinN 9 [kN k, powN a ((k : Int) - 1)] = R2 at *
  generalize powN a ((k : Int) - 1) = R3 at *
  generalize kN (k : Int) = R4 at *
  simp -implicitDefEqProofs [-eqnilAV, eqnil_nil, e1, c1, c2, c3, c4, hw, hp', h0, h0']
 ·obtain ⟨k, rfl⟩ : ∃ k : Nat, i = -(k : Int) := ⟨(-i).toNat, by omega⟩
  have en : -(-(k : Int)) = k := by omega
  rw [en]
  have c1 := diff_const (T := T) k (by omega)
  have c2 := diff_power (T := T) a (-(k : Int)) (by omega)
  have l1 := kN_len (k : Int)
  have l2 := powN_len a (-(k : Int))
  have tp : thin 1000 (powN a (-(k : Int))) := by rw [powN_cat]; exact thin_cat ha (thin_nil _)
  have c3 := diff_join2 (T := T) 9 (kN k) (powN a (-(k : Int))) (by omega) (thin_k (by decide) _) tp
  have l3 := joinN2 9 (kN k) (powN a (-(k : Int)))
  have t3 : thin 1000 (joinN 9 [kN k, powN a (-(k : Int))]) := by rw [join2]; exact thin_cat (thin_k (by decide) _) tp
  have c4 := diff_join2 (T := T) 9 (joinN 9 [kN k, powN a (-(k : Int))]) da (by omega) t3 hda
  have l4 := joinN2 9 (joinN 9 [kN k, powN a (-(k : Int))]) da
  have t4 : thin 1000 (joinN 9 [joinN 9 [kN k, powN a (-(k : Int))], da]) := by rw [join2]; exact thin_cat t3 hda
  have c5 := diff_join2 (T := T) 10 (joinN 9 [joinN 9 [kN k, powN a (-(k : Int))], da]) a (by omega) t4 ha
  have l5 := joinN2 10 (joinN 9 [joinN 9 [kN k, powN a (-(k : Int))], da]) a
  have t5 : thin 1000 (joinN 10 [joinN 9 [joinN 9 [kN k, powN a (-(k : Int))], da], a]) := by rw [join2]; exact thin_cat t4 ha
  have c6 := diff_join1 (T := T) 6 (joinN 10 [joinN 9 [joinN 9 [kN k, powN a (-(k : Int))], da], a]) (by omega) t5
  have hw : IntKind.wrap .i64 (k : Int) = (k : Int) := wrap_i64 _ (by omega)
  rw [if_neg hp, dv_ne (joinN_ne _ _)]
  have hp' : ¬ 0 < -(k : Int) := by omega
  have h0' : ¬ k = 0 := by omega
  generalize joinN 6 [joinN 10 [joinN 9 [joinN 9 [kN k, powN a (-(k : Int))], da], a]] = R6 at *
  generalize joinN 10 [joinN 9 [joinN 9 [kN k, powN a (-(k : Int))], da], a] = R5 at *
  generalize joinN 9 [joinN 9 [kN k, powN a (-(k : Int))], da] = R at *
  generalize joinN 9 [kN k, powN a (-(k : Int))] = R2 at *
  generalize powN a (-(k : Int)) = R3 at *
  generalize kN (k : Int) = R4 at *
  simp -implicitDefEqProofs [-eqnilAV, eqnil_nil, e1, c1, c2, c3, c4, c5, c6, hw, hp', h0, h0']
end
end Go.Ab
end

section
namespace Go.Ab
def rowP (l : List Pc) : List (List AV) := l.map celP
@[simp] theorem rowP_length (l : List Pc) : (rowP l).length = l.length := by simp [rowP]
@[simp] theorem rowP_get? (l : List Pc) (i : Nat) : (rowP l)[i]? = (l[i]?).map celP := by simp [rowP]
@[simp] theorem rowP_get (l : List Pc) (i : Nat) (h : i < (rowP l).length) : (rowP l)[i] = celP (l[i]'(by simpa using h)) := by simp [rowP]
theorem rowP_snoc (l : List Pc) (x : Pc) : rowP l ++ [celP x] = rowP (l ++ [x]) := by simp [rowP]
@[simp] theorem rowP_take (l : List Pc) (n : Nat) : (rowP l).take n = rowP (l.take n) := by simp [rowP]
@[simp] theorem rowP_drop (l : List Pc) (n : Nat) : (rowP l).drop n = rowP (l.drop n) := by simp [rowP]
@[simp] theorem rowP_nil : rowP [] = [] := rfl
theorem rowP_put (l : List Pc) (c d : List Nd) : rowP l ++ [[.sl (rowN c) .an, .sl (rowN d) (flg d)]] = rowP (l ++ [(c, d)]) := by
 rw [← rowP_snoc]
 simp only [celP, dv_sl]
section
variable {T : Tbl} [CDiff T]
abbrev hpBy (u x : Nd) (S : List Pc) : Heap := [(.loc 3, ⟨1, .str, 3, [celN u]⟩), (.loc 5, ⟨2, .own, 2, rowP S⟩), (.loc 7, ⟨3, .str, 3, [celN x]⟩)]
def stIn (u x : Nd) (code : List Nd) (S : List Pc) (i kk : Nat) (v : AV) (r : Nat) (from_ j : Nat) : St :=
 ⟨[(0, .sl (rowN code) .an), (3, .ptr (.loc 3) 1 3 0 0), (5, .bs (.loc 5) 2 2 0 S.length), (6, .i .i64 i), (7, .ptr (.loc 7) 3 3 0 0), (8, .i .i64 kk), (9, .i .i64 from_), (13, .sl (rowN code) .an), (14, .i .i64 code.length), (15, .i .i64 i),
  (29, v), (30, .i .i64 r), (31, .i .i64 j)], hpBy u x S, 5⟩
def stOut (u x : Nd) (code : List Nd) (S : List Pc) (i kk : Nat) (from_ : Nat) : St :=
 ⟨[(0, .sl (rowN code) .an), (3, .ptr (.loc 3) 1 3 0 0), (5, .bs (.loc 5) 2 2 0 S.length), (6, .i .i64 i), (7, .ptr (.loc 7) 3 3 0 0), (8, .i .i64 kk), (9, .i .i64 from_), (13, .sl (rowN code) .an), (14, .i .i64 code.length), (15, .i .i64 i)], hpBy u x S, 5⟩
theorem by_in0 (u x : Nd) (code : List Nd) (S : List Pc) (i kk f : Nat) (v : AV) (hv : v = .sl [] .an ∨ v = .bs (.loc 5) 2 2 0 0) :
  loopN T 0 2 (.norm true [0, 3, 5, 6, 7, 8, 9, 13, 14, 15]) l47_0 (stIn u x code S i kk v 0 f 0) = some (.n, stOut u x code S i kk f) := by
 refine range_loop (fun j => stIn u x code S i kk v 0 f j) 0 _ (fun j hj => absurd hj (Nat.not_lt_zero j)) ?_
 unfold stIn stOut
 rcases hv with rfl | rfl <;> (constructor <;> simp -implicitDefEqProofs [l47_0])
theorem lenP_take_le (l : List Pc) (j : Nat) : lenP (l.take j) ≤ lenP l := by
 have : lenP l = lenP (l.take j) + lenP (l.drop j) := by rw [← lenP_append, List.take_append_drop]
 omega
theorem lenP_drop_le (l : List Pc) (j : Nat) : lenP (l.drop j) ≤ lenP l := by
 have : lenP l = lenP (l.take j) + lenP (l.drop j) := by rw [← lenP_append, List.take_append_drop]
 omega
theorem by_in (u x : Nd) (code : List Nd) (S : List Pc) (i kk r : Nat) (hr : S.length = kk + r) (hS : S.length ≤ 4294967295) (hi : lenP S ≤ i) (hi2 : i ≤ 4294967295) :
  loopN T 0 2 (.norm true [0, 3, 5, 6, 7, 8, 9, 13, 14, 15]) l47_0 (stIn u x code S i kk (.bs (.loc 5) 2 2 kk r) r i 0) = some (.n, stOut u x code S i kk (i - lenP (S.drop kk))) := by
 have := range_loop (T := T) (k := 0) (id := 2) (g2 := .norm true [0, 3, 5, 6, 7, 8, 9, 13, 14, 15]) (c := l47_0) (fun j => stIn u x code S i kk (.bs (.loc 5) 2 2 kk r) r (i - lenP ((S.drop kk).take j)) j) r
  (some (.n, stOut u x code S i kk (i - lenP (S.drop kk)))) (fun j hj => ?_) ?_
 ·simpa [lenP_nil] using this
 ·have hlt : kk + j < S.length := by omega
  have hg : S[kk + j]? = some (S[kk + j]'hlt) := List.getElem?_eq_getElem hlt
  have hj' : (j : Int) < r := by omega
  have hws := wrapS hj (by omega)
  have ht : (S.drop kk).take (j + 1) = (S.drop kk).take j ++ [S[kk + j]'hlt] := by
   rw [List.take_succ_eq_append_getElem (by rw [List.length_drop]; omega)]
   congr 2
   simp
  have hle := lenP_take_le (S.drop kk) (j + 1)
  have hle2 := lenP_drop_le S kk
  rw [ht, lenP_snoc] at hle
  rw [ht, lenP_snoc]
  generalize hx : S[kk + j]'hlt = p at *
  generalize lenP ((S.drop kk).take j) = L at *
  generalize lenP (S.drop kk) = L2 at *
  obtain ⟨c, d⟩ := p
  clear ht
  dsimp only at *
  have hw : IntKind.wrap .i64 (((i - L : Nat) : Int) - (c.length : Int)) = ((i - (L + c.length) : Nat) : Int) := by rw [wrap_i64 _ (by omega)]; omega
  unfold stIn
  simp -implicitDefEqProofs [l47_0, hj, hj', hlt, hg, hx, hws, hw, dv_sl]
 ·have ht : (S.drop kk).take r = S.drop kk := List.take_of_length_le (by rw [List.length_drop]; omega)
  rw [ht]
  unfold stIn stOut
  constructor <;> simp -implicitDefEqProofs [l47_0]
def stBy (u : Nd) (code : List Nd) (S : List Pc) (i : Nat) : St :=
 ⟨[(0, .sl (rowN code) .an), (3, .ptr (.loc 3) 1 3 0 0), (5, .bs (.loc 5) 2 2 0 S.length), (13, .sl (rowN code) .an), (14, .i .i64 code.length), (15, .i .i64 i)], [(.loc 3, ⟨1, .str, 3, [celN u]⟩), (.loc 5, ⟨2, .own, 2, rowP S⟩)], 4⟩
variable [CTree T]
theorem by_step0 (u x : Nd) (code : List Nd) (S : List Pc) (i : Nat) (hx : code[i]? = some x) (ha : arN x.op = 0) (hS : S.length ≤ 4294967290) (hi2 : code.length ≤ 4294967290) :
  evX (orc T) T 0 l47_1 (stBy u code S i) = some (.n, stBy u code (S ++ [((code.take (i + 1)).drop i, if x.op = u.op ∧ x.i = u.i then kN 1 else [])]) (i + 1)) := by
 obtain ⟨hlt, hge⟩ := List.getElem?_eq_some_iff.1 hx
 have hlt' : (i : Int) < code.length := by omega
 have hws := wrapS hlt (by omega)
 have ca := tree_arity (T := T) x.op
 rw [ha] at ca
 have ci := diff_is (T := T) x u
 have ck : callF T 48 [.i .i64 1] = some (.sl (rowN (kN 1)) .an) := diff_const (T := T) 1 (by decide)
 have h1 : i ≤ code.length := by omega
 have h2 : i + 1 ≤ code.length := by omega
 have h2' : (i : Int) + 1 ≤ code.length := by omega
 have hin := by_in0 (T := T) u x code S i S.length i
 unfold stIn stOut at hin
 simp only [Int.natCast_zero] at hin
 have h32 : S.length + 1 ≤ 4294967296 := by omega
 have hput := rowP_put S ((code.take (i + 1)).drop i) (if x.op = u.op ∧ x.i = u.i then kN 1 else [])
 have hw : IntKind.wrap .i64 ((S.length : Int) - 0) = S.length := by rw [Int.sub_zero]; exact wrap_i64 _ (by omega)
 have hw2 : IntKind.wrap .i64 (S.length : Int) = S.length := wrap_i64 _ (by omega)
 have hw3 : IntKind.wrap .i64 0 = 0 := by decide
 unfold stBy
 generalize hc : (code.take (i + 1)).drop i = c at *
 obtain ⟨op, xi, n⟩ := x
 obtain ⟨uop, ui, un⟩ := u
 dsimp only at *
 by_cases h0 : S = []
 ·subst h0
  have hin1 := hin (.bs (.loc 5) 2 2 0 0) (.inr rfl)
  clear hin
  simp only [hpBy, List.length_nil, Int.natCast_zero, rowP_nil, List.nil_append] at *
  by_cases hu : op = uop ∧ xi = ui
  ·have e1 : (decide (op = uop) && decide (xi = ui)) = true := by simp [hu]
   rw [e1] at ci
   rw [if_pos hu] at hput ⊢
   have ef : flg (kN 1) = .an := rfl
   rw [ef] at hput
   clear ef
   generalize kN 1 = K at *
   rw [← hput]
   simp -implicitDefEqProofs [l47_1, hlt, hlt', hx, hge, ca, ci, ck, hws, hw, hw2, hw3, hin1, h1, h2, h2', hc, h32]
  ·have e1 : (decide (op = uop) && decide (xi = ui)) = false := by
    rw [Bool.and_eq_false_iff, decide_eq_false_iff_not, decide_eq_false_iff_not]
    exact Classical.not_and_iff_not_or_not.1 hu
   rw [e1] at ci
   rw [if_neg hu] at hput ⊢
   have ef : flg [] = .nl := rfl
   rw [ef, rowN_nil] at hput
   clear ef
   rw [← hput]
   simp -implicitDefEqProofs [l47_1, hlt, hlt', hx, hge, ca, ci, ck, hws, hw, hw2, hw3, hin1, h1, h2, h2', hc, h32]
 ·have hp : 0 < S.length := List.length_pos_iff.2 h0
  have hp' : ¬ S.length = 0 := by omega
  have hin1 := hin (.sl [] .an) (.inl rfl)
  clear hin
  by_cases hu : op = uop ∧ xi = ui
  ·have e1 : (decide (op = uop) && decide (xi = ui)) = true := by simp [hu]
   rw [e1] at ci
   rw [if_pos hu] at hput ⊢
   have ef : flg (kN 1) = .an := rfl
   rw [ef] at hput
   clear ef
   generalize kN 1 = K at *
   simp -implicitDefEqProofs [l47_1, hlt, hlt', hx, hge, ca, ci, ck, hws, hw, hw2, hw3, hin1, hp, hp', h0, h1, h2, h2', hc, h32, hput]
  ·have e1 : (decide (op = uop) && decide (xi = ui)) = false := by
    rw [Bool.and_eq_false_iff, decide_eq_false_iff_not, decide_eq_false_iff_not]
    exact Classical.not_and_iff_not_or_not.1 hu
   rw [e1] at ci
   rw [if_neg hu] at hput ⊢
   have ef : flg [] = .nl := rfl
   rw [ef, rowN_nil] at hput
   clear ef
   simp -implicitDefEqProofs [l47_1, hlt, hlt', hx, hge, ca, ci, ck, hws, hw, hw2, hw3, hin1, hp, hp', h0, h1, h2, h2', hc, h32, hput]
end
end Go.Ab
end

section
namespace Go.Ab
section
variable {T : Tbl} [CDiff T] [CTree T]
theorem by_step1 (u x : Nd) (code : List Nd) (S S' : List Pc) (a da : List Nd) (i : Nat) (hx : code[i]? = some x) (ha : arN x.op = 1) (hSe : S = S' ++ [(a, da)]) (hS : S.length ≤ 4294967290) (hi2 : code.length ≤ 4294967290) (hL : lenP S ≤ i)
  (c1 : callF T 77 [.agg (celN x), .agg (celP (a, da))] = some (dv (oneN x a da))) :
  evX (orc T) T 0 l47_1 (stBy u code S i) = some (.n, stBy u code (S' ++ [((code.take (i + 1)).drop (i - a.length), oneN x a da)]) (i + 1)) := by
 obtain ⟨hlt, hge⟩ := List.getElem?_eq_some_iff.1 hx
 have hlt' : (i : Int) < code.length := by omega
 have hws := wrapS hlt (by omega)
 have ca := tree_arity (T := T) x.op
 rw [ha] at ca
 obtain ⟨kk, hkk⟩ : ∃ kk, kk = S'.length := ⟨_, rfl⟩
 have hSl : S.length = kk + 1 := by rw [hSe, hkk]; simp
 have hg : S[kk]? = some (a, da) := by rw [hSe, hkk]; simp
 have hge2 := (List.getElem?_eq_some_iff.1 hg).2
 have htk : S.take kk = S' := by rw [hSe, hkk]; simp
 have hdr : lenP (S.drop kk) = a.length := by rw [hSe, hkk]; simp [lenP]
 have hin := by_in (T := T) u x code S i kk 1 hSl (by omega) hL (by omega)
 rw [hdr] at hin
 have h1 : i - a.length ≤ i + 1 := by omega
 have h2 : i + 1 ≤ code.length := by omega
 have h2' : (i : Int) + 1 ≤ code.length := by omega
 have h32 : kk + 1 ≤ 4294967296 := by omega
 have hput := rowP_put S' ((code.take (i + 1)).drop (i - a.length)) (oneN x a da)
 have hw : IntKind.wrap .i64 (kk : Int) = kk := wrap_i64 _ (by omega)
 have hw2 : IntKind.wrap .i64 ((kk : Int) + 1 - 1) = kk := by rw [wrap_i64 _ (by omega)]; omega
 have hw5 : IntKind.wrap .i64 ((kk : Int) + 1 - kk) = 1 := by rw [show (kk : Int) + 1 - kk = 1 by omega]; decide
 have hle : kk ≤ S.length := by omega
 have hk1 : (kk : Int) < kk + 1 := by omega
 have hk2 : (kk : Int) < kk + 2 := by omega
 have hk3 : (kk : Int) + 1 < kk + 2 := by omega
 have hk6 : (kk : Int) ≤ kk + 1 := by omega
 have hk7 : (kk : Int) ≤ kk + 2 := by omega
 have hk4 : 0 ≤ (kk : Int) + 1 := by omega
 have hk5 : ((kk : Int) + 1).toNat = kk + 1 := by omega
 unfold stIn stOut at hin
 unfold stBy
 rw [hSl] at hin ⊢
 rw [show (S' ++ [((code.take (i + 1)).drop (i - a.length), oneN x a da)]).length = kk + 1 by rw [hkk]; simp]
 generalize hc : (code.take (i + 1)).drop (i - a.length) = c at *
 simp only [celP, dv_sl] at c1
 generalize hf : i - a.length = f at *
 have h1' : (f : Int) ≤ (i : Int) + 1 := by omega
 generalize oneN x a da = R at *
 generalize hfR : flg R = fR at *
 generalize hfd : flg da = fd at *
 obtain ⟨op, xi, n⟩ := x
 obtain ⟨uop, ui, un⟩ := u
 dsimp only at *
 have hel : celP (a, da) = [.sl (rowN a) .an, .sl (rowN da) fd] := by simp only [celP, dv_sl, hfd]
 simp only [hpBy, Int.natCast_zero, Int.natCast_one] at hin
 rw [← hput]
 clear hSe hdr hkk hS hi2 hL ha
 by_cases h0 : kk = 0
 ·subst h0
  rw [List.take_zero] at htk
  subst htk
  simp only [Int.natCast_zero, Nat.zero_add] at *
  simp -implicitDefEqProofs [l47_1, hlt, hlt', hx, hge, ca, hws, hw, hw2, hin, h1, h1', h2, h2', hc, h32, hSl, hg, hge2, hel, c1]
 ·have hp : 0 < kk := by omega
  simp -implicitDefEqProofs [l47_1, hlt, hlt', hx, hge, ca, hws, hw, hw2, hw5, hin, hp, h0, h1, h1', h2, h2', hc, h32, hSl, hg, hge2, hel, c1, htk, hle, hk1, hk2, hk3, hk4, hk5, hk6, hk7]
theorem by_step2 (u x : Nd) (code : List Nd) (S S' : List Pc) (a da b db : List Nd) (i : Nat) (hx : code[i]? = some x) (ha : arN x.op = 2) (hSe : S = S' ++ [(a, da), (b, db)]) (hS : S.length ≤ 4294967290) (hi2 : code.length ≤ 4294967290) (hL : lenP S ≤ i)
  (c1 : callF T 78 [.i .i64 x.op, .agg (celP (a, da)), .agg (celP (b, db))] = some (dv (twoN x.op a da b db))) :
  evX (orc T) T 0 l47_1 (stBy u code S i) = some (.n, stBy u code (S' ++ [((code.take (i + 1)).drop (i - (a.length + b.length)), twoN x.op a da b db)]) (i + 1)) := by
 obtain ⟨hlt, hge⟩ := List.getElem?_eq_some_iff.1 hx
 have hlt' : (i : Int) < code.length := by omega
 have hws := wrapS hlt (by omega)
 have ca := tree_arity (T := T) x.op
 rw [ha] at ca
 obtain ⟨kk, hkk⟩ : ∃ kk, kk = S'.length := ⟨_, rfl⟩
 have hSl : S.length = kk + 2 := by rw [hSe, hkk]; simp
 have hg : S[kk]? = some (a, da) := by rw [hSe, hkk]; simp
 have hge2 := (List.getElem?_eq_some_iff.1 hg).2
 have hgb : S[kk + 1]? = some (b, db) := by rw [hSe, hkk]; simp
 have hgb2 := (List.getElem?_eq_some_iff.1 hgb).2
 have htk : S.take kk = S' := by rw [hSe, hkk]; simp
 have hdr : lenP (S.drop kk) = a.length + b.length := by rw [hSe, hkk]; simp [lenP]
 have hin := by_in (T := T) u x code S i kk 2 hSl (by omega) hL (by omega)
 rw [hdr] at hin
 have h1 : i - (a.length + b.length) ≤ i + 1 := by omega
 have h2 : i + 1 ≤ code.length := by omega
 have h2' : (i : Int) + 1 ≤ code.length := by omega
 have h32 : kk + 1 ≤ 4294967296 := by omega
 have hput := rowP_put S' ((code.take (i + 1)).drop (i - (a.length + b.length))) (twoN x.op a da b db)
 have hw : IntKind.wrap .i64 (kk : Int) = kk := wrap_i64 _ (by omega)
 have hw2 : IntKind.wrap .i64 ((kk : Int) + 2 - 2) = kk := by rw [wrap_i64 _ (by omega)]; omega
 have hw5 : IntKind.wrap .i64 ((kk : Int) + 2 - kk) = 2 := by rw [show (kk : Int) + 2 - kk = 2 by omega]; decide
 have hw6 : IntKind.wrap .i64 ((kk : Int) + 1) = (kk : Int) + 1 := wrap_i64 _ (by omega)
 have hle : kk ≤ S.length := by omega
 have hk1 : (kk : Int) < kk + 1 := by omega
 have hk2 : (kk : Int) < kk + 2 := by omega
 have hk3 : (kk : Int) + 1 < kk + 2 := by omega
 have hk6 : (kk : Int) ≤ kk + 1 := by omega
 have hk7 : (kk : Int) ≤ kk + 2 := by omega
 have hk4 : 0 ≤ (kk : Int) + 1 := by omega
 have hk5 : ((kk : Int) + 1).toNat = kk + 1 := by omega
 unfold stIn stOut at hin
 unfold stBy
 rw [hSl] at hin ⊢
 rw [show (S' ++ [((code.take (i + 1)).drop (i - (a.length + b.length)), twoN x.op a da b db)]).length = kk + 1 by rw [hkk]; simp]
 generalize hc : (code.take (i + 1)).drop (i - (a.length + b.length)) = c at *
 simp only [celP, dv_sl] at c1
 generalize hf : i - (a.length + b.length) = f at *
 have h1' : (f : Int) ≤ (i : Int) + 1 := by omega
 generalize twoN x.op a da b db = R at *
 generalize hfR : flg R = fR at *
 generalize hfd : flg da = fd at *
 generalize hfe : flg db = fe at *
 obtain ⟨op, xi, n⟩ := x
 obtain ⟨uop, ui, un⟩ := u
 dsimp only at *
 have hel : celP (a, da) = [.sl (rowN a) .an, .sl (rowN da) fd] := by simp only [celP, dv_sl, hfd]
 have hel2 : celP (b, db) = [.sl (rowN b) .an, .sl (rowN db) fe] := by simp only [celP, dv_sl, hfe]
 simp only [hpBy, Int.natCast_zero, Int.cast_ofNat_Int] at hin
 rw [← hput]
 clear hSe hdr hkk hS hi2 hL ha
 by_cases h0 : kk = 0
 ·subst h0
  rw [List.take_zero] at htk
  subst htk
  simp only [Int.natCast_zero, Nat.zero_add] at *
  simp -implicitDefEqProofs [l47_1, hlt, hlt', hx, hge, ca, hws, hw, hw2, hin, h1, h1', h2, h2', hc, h32, hSl, hg, hge2, hgb, hgb2, hel, hel2, hw6, c1]
 ·have hp : 0 < kk := by omega
  simp -implicitDefEqProofs [l47_1, hlt, hlt', hx, hge, ca, hws, hw, hw2, hw5, hin, hp, h0, h1, h1', h2, h2', hc, h32, hSl, hg, hge2, hgb, hgb2, hel, hel2, hw6, c1, htk, hle, hk1, hk2, hk3, hk4, hk5, hk6, hk7]
end
end Go.Ab
end
