/-
  A calculus of values, boxes and code, and what functions of the program compute, proved in it.
  Conditions: none beyond those that the theorems state. (Part 5: GcRun, GcIfc, GcLaw24, GcLaw26, Ax10.)
-/
import Derived.Test.YtnlipnhdokbbnaaGreatDoorPart4

set_option linter.unusedSectionVars false
set_option linter.unusedVariables false
set_option linter.unusedSimpArgs false
set_option linter.unnecessarySimpa false

section
namespace Go.Ab
def b384 : AX :=
 (.seq
 (.reg [rg 3 (.xop (.box 4) [(.t 0)]), rg 4 (.xop (.box 5) [(.t 1)]), rg 6 (.mov (.c (.sl [] .nl))),
 rg 7 (.alloc [(.i .i64 0), (.i .i64 0), (.i .i64 0), (.i .i64 0)])])
 (.seq
 (.reg [rg 9 (.load (some 5) (.t 4)), rg 10 (.call 405 [(.t 9)]), so (.store 5 (.t 4) (.t 10))])
 (.seq
 (.reg [mv 11 2, rg 12 (.call 406 [(.t 11)]), rg 13 (.build [(.raw (.pointer none))] [(0, 1, (.t 12))]),
 rg 14 (.build [(.raw (.pointer none))] [(0, 1, (.t 13))]), rg 8 (.alloc [(.raw (.pointer none))]), so (.store 1 (.t 8) (.t 14))])
 (.seq
 (.reg [rg 15 (.load (some 1) (.t 8)), rg 16 (.load (some 4) (.t 3)), rg 17 (.fad 0 (.t 4)), rg 18 (.load (some 3) (.t 17)), rg 19 (.fad 3 (.t 4)),
 rg 20 (.load none (.t 19)), rg 21 (.fad 4 (.t 4)), rg 22 (.load none (.t 21)),
 rg 23 (.build [(.b false), (.sl [] .nl), (.sl [] .nl), (.sl [] .nl), (.sl [] .nl)] [(0, 3, (.t 18)), (3, 1, (.t 20)), (4, 1, (.t 22))]),
 rg 24 (.call 407 [(.t 15), (.t 16), (.t 23)]), rg 25 (.ext (.t 24) 0), rg 26 (.ext (.t 24) 1), mv 6 25, so (.store 4 (.t 7) (.t 26))])
 (.pre (.norm false [6, 7]) .ret)))))
def l407_0 : AX :=
 (.note
 (.seq
 (.reg [rg 37 (.bin .lss (.t 36) (.t 35))])
 (.seq
 (.cond (.t 37)
 .skip
 (.exit 0))
 (.seq
 (.block 1
 (.seq
 (.reg [mv 38 36, rg 39 (.iad 6 (.t 34) (.t 36)), rg 40 (.load (some 6) (.t 39)),
 rg 10 (.alloc [(.i .i64 0), (.i .i64 0), (.i .i64 0), (.b false), (.sl [] .nl), (.sl [] .nl)]), mv 9 38, so (.store 6 (.t 10) (.t 40))])
 (.seq
 (.reg [rg 42 (.load (some 1) (.t 3)), rg 43 (.load (some 6) (.t 10)), rg 44 (.load (some 5) (.t 5)), mv 45 8,
 rg 46 (.call 422 [(.t 42), (.t 43), (.t 44), (.t 45)]), mv 41 46, rg 47 (.ext (.t 41) 0), rg 48 (.ext (.t 41) 1),
 rg 11 (.alloc [(.b false), (.sl [] .nl), (.sl [] .nl)]), so (.store 3 (.t 11) (.t 47)), mv 12 48])
 (.seq
 (.block 2
 (.seq
 (.reg [mv 50 12, rg 51 (.un .not (.t 50)), mv 49 51])
 (.cond (.t 49)
 (.seq
 (.reg [mv 52 9, rg 53 (.build [(.i .i64 0), (.i .i64 0), (.i .i64 0), (.i .i64 0)] [(0, 1, (.c (.i .i64 3))), (3, 1, (.t 52))]), rg 6 (.mov (.c (.sl [] .nl))),
 so (.store 4 (.t 7) (.t 53))])
 (.pre (.norm false [6, 7]) .ret))
 (.seq
 (.reg [rg 55 (.fad 0 (.t 3)), rg 56 (.load (some 1) (.t 55)), rg 57 (.ifc 1 (.t 56)), rg 58 (.load (some 3) (.t 11)),
 rg 59 (.inv "Fits" 1 442 (.t 57) [(.t 58)]), rg 60 (.un .not (.t 59)), mv 54 60])
 (.cond (.t 54)
 (.seq
 (.reg [mv 61 9, rg 62 (.build [(.i .i64 0), (.i .i64 0), (.i .i64 0), (.i .i64 0)] [(0, 1, (.c (.i .i64 6))), (3, 1, (.t 61))]), rg 6 (.mov (.c (.sl [] .nl))),
 so (.store 4 (.t 7) (.t 62))])
 (.pre (.norm false [6, 7]) .ret))
 .skip)))))
 (.reg [mv 63 8, rg 64 (.load (some 3) (.t 11)), rg 65 (.bsl 3 [(.b false), (.sl [] .nl), (.sl [] .nl)] 1 [(0, (.t 64))]), rg 66 (.app 3 (.t 63) (.t 65)),
 mv 8 66])))))
 (.reg [rg 67 (.bin .add (.t 36) (.c (.i .i64 1))), mv 36 67]))))
 (.norm false [3, 5, 7, 8, 34, 35, 36]))
def b407 : AX :=
 (.seq
 (.reg [rg 3 (.xop (.box 1) [(.t 0)]), rg 4 (.xop (.box 4) [(.t 1)]), rg 5 (.xop (.box 5) [(.t 2)]), rg 6 (.mov (.c (.sl [] .nl))),
 rg 7 (.alloc [(.i .i64 0), (.i .i64 0), (.i .i64 0), (.i .i64 0)])])
 (.seq
 (.seq
 (.reg [rg 13 (.load (some 4) (.t 4)), rg 14 (.call 421 [(.t 13)]), rg 15 (.un .not (.t 14)), mv 16 15, gd 17 16 false (.fad 3 (.t 5)),
 gd 18 16 false (.load none (.t 17)), gd 19 16 false (.len (.t 18)), gd 20 16 false (.fad 2 (.t 4)), gd 21 16 false (.load none (.t 20)),
 gd 22 16 false (.bin .neq (.t 19) (.t 21)), rg 23 (.pick (.t 16) (.c (.b true)) (.t 22)), mv 24 23, gd 25 24 false (.fad 4 (.t 5)),
 gd 26 24 false (.load none (.t 25)), gd 27 24 false (.len (.t 26)), gd 28 24 false (.fad 3 (.t 4)), gd 29 24 false (.load none (.t 28)),
 gd 30 24 false (.bin .neq (.t 27) (.t 29)), rg 31 (.pick (.t 24) (.c (.b true)) (.t 30))])
 (.cond (.t 31)
 (.seq
 (.reg [rg 32 (.build [(.i .i64 0), (.i .i64 0), (.i .i64 0), (.i .i64 0)] [(0, 1, (.c (.i .i64 2)))]), rg 6 (.mov (.c (.sl [] .nl))),
 so (.store 4 (.t 7) (.t 32))])
 (.pre (.norm false [6, 7]) .ret))
 .skip))
 (.seq
 (.note (.reg [rg 8 (.mov (.c (.sl [] .nl)))]) (.nil 8 3))
 (.seq
 (.seq
 (.reg [rg 33 (.fad 0 (.t 4)), rg 34 (.load none (.t 33)), rg 35 (.len (.t 34)), rg 36 (.mov (.c (.i .i64 0)))])
 (.lp 0 (.norm false [3, 5, 7, 8, 34, 35, 36]) l407_0 (.norm false [7, 8])))
 (.seq
 (.reg [mv 68 8, rg 69 (.build [(.i .i64 0), (.i .i64 0), (.i .i64 0), (.i .i64 0)] []), mv 6 68, so (.store 4 (.t 7) (.t 69))])
 (.pre (.norm false [6, 7]) .ret))))))
def b422 : AX :=
 (.seq
 (.reg [rg 4 (.xop (.box 1) [(.t 0)]), rg 5 (.xop (.box 6) [(.t 1)]), rg 6 (.xop (.box 5) [(.t 2)]), rg 8 (.alloc [(.b false), (.sl [] .nl), (.sl [] .nl)]),
 rg 9 (.mov (.c (.b false)))])
 (.seq
 (.seq
 (.reg [rg 10 (.fad 0 (.t 5)), rg 11 (.load none (.t 10))])
 (.block 0
 (.seq
 (.reg [rg 13 (.bin .eql (.t 11) (.c (.i .i64 6))), mv 12 13])
 (.cond (.t 12)
 (.seq
 (.drawT [rg 14 (.fad 0 (.t 4)), rg 15 (.load (some 1) (.t 14)), rg 16 (.ifc 1 (.t 15)), mv 17 3, rg 18 (.fad 1 (.t 5)), rg 19 (.load none (.t 18)),
 rg 20 (.iad 3 (.t 17) (.t 19)), rg 21 (.load (some 3) (.t 20))]
 [rg 22 (.inv "Neg" 1 444 (.t 16) [(.t 21)]), so (.store 3 (.t 8) (.t 22)), rg 9 (.mov (.c (.b true)))])
 (.pre (.norm false [8, 9]) .ret))
 (.seq
 (.reg [rg 24 (.bin .eql (.t 11) (.c (.i .i64 11))), mv 23 24])
 (.cond (.t 23)
 (.seq
 (.drawT [rg 25 (.fad 0 (.t 4)), rg 26 (.load (some 1) (.t 25)), rg 27 (.ifc 1 (.t 26)), mv 28 3, rg 29 (.fad 1 (.t 5)), rg 30 (.load none (.t 29)),
 rg 31 (.iad 3 (.t 28) (.t 30)), rg 32 (.load (some 3) (.t 31)), rg 33 (.fad 2 (.t 5)), rg 34 (.load none (.t 33)),
 rg 35 (.inv "Pow" 1 446 (.t 27) [(.t 32), (.t 34)]), rg 36 (.ext (.t 35) 0), rg 37 (.ext (.t 35) 1)]
 [so (.store 3 (.t 8) (.t 36)), mv 9 37])
 (.pre (.norm false [8, 9]) .ret))
 (.seq
 (.reg [rg 39 (.bin .eql (.t 11) (.c (.i .i64 7))), mv 38 39])
 (.cond (.t 38)
 (.seq
 (.drawT [rg 40 (.fad 0 (.t 4)), rg 41 (.load (some 1) (.t 40)), rg 42 (.ifc 1 (.t 41)), mv 43 3, rg 44 (.fad 1 (.t 5)), rg 45 (.load none (.t 44)),
 rg 46 (.iad 3 (.t 43) (.t 45)), rg 47 (.load (some 3) (.t 46)), mv 48 3, rg 49 (.fad 2 (.t 5)), rg 50 (.load none (.t 49)),
 rg 51 (.iad 3 (.t 48) (.t 50)), rg 52 (.load (some 3) (.t 51))]
 [rg 53 (.inv "Add" 1 441 (.t 42) [(.t 47), (.t 52)]), so (.store 3 (.t 8) (.t 53)), rg 9 (.mov (.c (.b true)))])
 (.pre (.norm false [8, 9]) .ret))
 (.seq
 (.reg [rg 55 (.bin .eql (.t 11) (.c (.i .i64 8))), mv 54 55])
 (.cond (.t 54)
 (.seq
 (.drawT [rg 56 (.fad 0 (.t 4)), rg 57 (.load (some 1) (.t 56)), rg 58 (.ifc 1 (.t 57)), mv 59 3, rg 60 (.fad 1 (.t 5)), rg 61 (.load none (.t 60)),
 rg 62 (.iad 3 (.t 59) (.t 61)), rg 63 (.load (some 3) (.t 62)), mv 64 3, rg 65 (.fad 2 (.t 5)), rg 66 (.load none (.t 65)),
 rg 67 (.iad 3 (.t 64) (.t 66)), rg 68 (.load (some 3) (.t 67))]
 [rg 69 (.inv "Sub" 1 448 (.t 58) [(.t 63), (.t 68)]), so (.store 3 (.t 8) (.t 69)), rg 9 (.mov (.c (.b true)))])
 (.pre (.norm false [8, 9]) .ret))
 (.seq
 (.reg [rg 71 (.bin .eql (.t 11) (.c (.i .i64 9))), mv 70 71])
 (.cond (.t 70)
 (.seq
 (.drawT [rg 72 (.fad 0 (.t 4)), rg 73 (.load (some 1) (.t 72)), rg 74 (.ifc 1 (.t 73)), mv 75 3, rg 76 (.fad 1 (.t 5)), rg 77 (.load none (.t 76)),
 rg 78 (.iad 3 (.t 75) (.t 77)), rg 79 (.load (some 3) (.t 78)), mv 80 3, rg 81 (.fad 2 (.t 5)), rg 82 (.load none (.t 81)),
 rg 83 (.iad 3 (.t 80) (.t 82)), rg 84 (.load (some 3) (.t 83))]
 [rg 85 (.inv "Mul" 1 443 (.t 74) [(.t 79), (.t 84)]), so (.store 3 (.t 8) (.t 85)), rg 9 (.mov (.c (.b true)))])
 (.pre (.norm false [8, 9]) .ret))
 (.seq
 (.reg [rg 87 (.bin .eql (.t 11) (.c (.i .i64 10))), mv 86 87])
 (.cond (.t 86)
 (.seq
 (.drawT [rg 88 (.fad 0 (.t 4)), rg 89 (.load (some 1) (.t 88)), rg 90 (.ifc 1 (.t 89)), mv 91 3, rg 92 (.fad 1 (.t 5)), rg 93 (.load none (.t 92)),
 rg 94 (.iad 3 (.t 91) (.t 93)), rg 95 (.load (some 3) (.t 94)), mv 96 3, rg 97 (.fad 2 (.t 5)), rg 98 (.load none (.t 97)),
 rg 99 (.iad 3 (.t 96) (.t 98)), rg 100 (.load (some 3) (.t 99)), rg 101 (.inv "Quo" 1 447 (.t 90) [(.t 95), (.t 100)]), rg 102 (.ext (.t 101) 0),
 rg 103 (.ext (.t 101) 1)]
 [so (.store 3 (.t 8) (.t 102)), mv 9 103])
 (.pre (.norm false [8, 9]) .ret))
 .skip))))))))))))))
 (.seq
 (.reg [rg 104 (.load (some 1) (.t 4)), rg 105 (.load (some 6) (.t 5)), rg 106 (.load (some 5) (.t 6)), rg 107 (.call 431 [(.t 104), (.t 105), (.t 106)]),
 so (.store 3 (.t 8) (.t 107)), rg 9 (.mov (.c (.b true)))])
 (.pre (.norm false [8, 9]) .ret))))
def b431 : AX :=
 (.seq
 (.reg [rg 3 (.xop (.box 1) [(.t 0)]), rg 4 (.xop (.box 6) [(.t 1)]), rg 5 (.xop (.box 5) [(.t 2)]), rg 6 (.alloc [(.b false), (.sl [] .nl), (.sl [] .nl)])])
 (.seq
 (.seq
 (.reg [rg 7 (.fad 0 (.t 4)), rg 8 (.load none (.t 7))])
 (.block 0
 (.seq
 (.reg [rg 10 (.bin .eql (.t 8) (.c (.i .i64 1))), mv 9 10])
 (.cond (.t 9)
 (.seq
 (.reg [rg 11 (.fad 0 (.t 3)), rg 12 (.load (some 1) (.t 11)), rg 13 (.ifc 1 (.t 12)), rg 14 (.fad 3 (.t 4)), rg 15 (.load (some 3) (.t 14)),
 rg 16 (.inv "Of" 1 445 (.t 13) [(.t 15)]), so (.store 3 (.t 6) (.t 16))])
 (.pre (.norm false [6]) .ret))
 (.seq
 (.reg [rg 18 (.bin .eql (.t 8) (.c (.i .i64 3))), mv 17 18])
 (.cond (.t 17)
 (.seq
 (.reg [rg 19 (.fad 3 (.t 5)), rg 20 (.load none (.t 19)), rg 21 (.fad 1 (.t 4)), rg 22 (.load none (.t 21)), rg 23 (.iad 3 (.t 20) (.t 22)),
 rg 24 (.load (some 3) (.t 23)), so (.store 3 (.t 6) (.t 24))])
 (.pre (.norm false [6]) .ret))
 (.seq
 (.reg [rg 26 (.bin .eql (.t 8) (.c (.i .i64 4))), mv 25 26])
 (.cond (.t 25)
 (.seq
 (.reg [rg 27 (.fad 4 (.t 5)), rg 28 (.load none (.t 27)), rg 29 (.fad 1 (.t 4)), rg 30 (.load none (.t 29)), rg 31 (.iad 3 (.t 28) (.t 30)),
 rg 32 (.load (some 3) (.t 31)), so (.store 3 (.t 6) (.t 32))])
 (.pre (.norm false [6]) .ret))
 .skip))))))))
 (.seq
 (.reg [rg 33 (.fad 0 (.t 5)), rg 34 (.load (some 3) (.t 33)), so (.store 3 (.t 6) (.t 34))])
 (.pre (.norm false [6]) .ret))))
def b441 : AX :=
 (.seq
 (.reg [rg 3 (.xop (.box 1) [(.t 0)]), rg 4 (.xop (.box 3) [(.t 1)]), rg 5 (.xop (.box 3) [(.t 2)]), rg 6 (.alloc [(.b false), (.sl [] .nl), (.sl [] .nl)])])
 (.seq
 (.reg [rg 7 (.load (some 3) (.t 4)), rg 8 (.load (some 3) (.t 5)), rg 9 (.call 215 [(.t 7), (.t 8)]), so (.store 3 (.t 6) (.t 9))])
 (.pre (.norm false [6]) .ret)))
def b442 : AX :=
 (.seq
 (.reg [rg 2 (.xop (.box 1) [(.t 0)]), rg 3 (.xop (.box 3) [(.t 1)]), rg 4 (.mov (.c (.b false)))])
 (.seq
 (.reg [rg 5 (.fad 0 (.t 2)), rg 6 (.load none (.t 5)), rg 7 (.load (some 3) (.t 3)), rg 8 (.call 411 [(.t 6), (.t 7)]), mv 4 8])
 (.pre (.norm false [4]) .ret)))
def b443 : AX :=
 (.seq
 (.reg [rg 3 (.xop (.box 1) [(.t 0)]), rg 4 (.xop (.box 3) [(.t 1)]), rg 5 (.xop (.box 3) [(.t 2)]), rg 6 (.alloc [(.b false), (.sl [] .nl), (.sl [] .nl)])])
 (.seq
 (.reg [rg 7 (.load (some 3) (.t 4)), rg 8 (.load (some 3) (.t 5)), rg 9 (.call 217 [(.t 7), (.t 8)]), so (.store 3 (.t 6) (.t 9))])
 (.pre (.norm false [6]) .ret)))
def b444 : AX :=
 (.seq
 (.reg [rg 2 (.xop (.box 1) [(.t 0)]), rg 3 (.xop (.box 3) [(.t 1)]), rg 4 (.alloc [(.b false), (.sl [] .nl), (.sl [] .nl)])])
 (.seq
 (.reg [rg 5 (.load (some 3) (.t 3)), rg 6 (.call 213 [(.t 5)]), so (.store 3 (.t 4) (.t 6))])
 (.pre (.norm false [4]) .ret)))
def b445 : AX :=
 (.seq
 (.reg [rg 2 (.xop (.box 1) [(.t 0)]), rg 3 (.xop (.box 3) [(.t 1)]), rg 4 (.alloc [(.b false), (.sl [] .nl), (.sl [] .nl)])])
 (.seq
 (.reg [rg 5 (.load (some 3) (.t 3)), rg 6 (.call 207 [(.t 5)]), so (.store 3 (.t 4) (.t 6))])
 (.pre (.norm false [4]) .ret)))
def b446 : AX :=
 (.seq
 (.reg [rg 3 (.xop (.box 1) [(.t 0)]), rg 4 (.xop (.box 3) [(.t 1)]), rg 6 (.alloc [(.b false), (.sl [] .nl), (.sl [] .nl)]), rg 7 (.mov (.c (.b false)))])
 (.seq
 (.reg [rg 8 (.load (some 3) (.t 4)), mv 9 2, rg 10 (.call 220 [(.t 8), (.t 9)]), rg 11 (.ext (.t 10) 0), rg 12 (.ext (.t 10) 1), so (.store 3 (.t 6) (.t 11)),
 mv 7 12])
 (.pre (.norm false [6, 7]) .ret)))
def b447 : AX :=
 (.seq
 (.reg [rg 3 (.xop (.box 1) [(.t 0)]), rg 4 (.xop (.box 3) [(.t 1)]), rg 5 (.xop (.box 3) [(.t 2)]), rg 6 (.alloc [(.b false), (.sl [] .nl), (.sl [] .nl)]),
 rg 7 (.mov (.c (.b false)))])
 (.seq
 (.reg [rg 8 (.load (some 3) (.t 4)), rg 9 (.load (some 3) (.t 5)), rg 10 (.call 218 [(.t 8), (.t 9)]), rg 11 (.ext (.t 10) 0), rg 12 (.ext (.t 10) 1),
 so (.store 3 (.t 6) (.t 11)), mv 7 12])
 (.pre (.norm false [6, 7]) .ret)))
def b448 : AX :=
 (.seq
 (.reg [rg 3 (.xop (.box 1) [(.t 0)]), rg 4 (.xop (.box 3) [(.t 1)]), rg 5 (.xop (.box 3) [(.t 2)]), rg 6 (.alloc [(.b false), (.sl [] .nl), (.sl [] .nl)])])
 (.seq
 (.reg [rg 7 (.load (some 3) (.t 4)), rg 8 (.load (some 3) (.t 5)), rg 9 (.call 216 [(.t 7), (.t 8)]), so (.store 3 (.t 6) (.t 9))])
 (.pre (.norm false [6]) .ret)))
class CRun (T : Tbl) : Prop where
 h384 : T 384 = some ⟨3, 27, [.t 6, .cell 7 (some 4)], b384, none, false⟩
 h407 : T 407 = some ⟨3, 70, [.t 6, .cell 7 (some 4)], b407, (some [true, false, false]), false⟩
 h422 : T 422 = some ⟨4, 108, [.cell 8 (some 3), .t 9], b422, none, false⟩
 h431 : T 431 = some ⟨3, 35, [.cell 6 (some 3)], b431, none, false⟩
 h441 : T 441 = some ⟨3, 10, [.cell 6 (some 3)], b441, none, false⟩
 h442 : T 442 = some ⟨2, 9, [.t 4], b442, (some [true, false]), false⟩
 h443 : T 443 = some ⟨3, 10, [.cell 6 (some 3)], b443, none, false⟩
 h444 : T 444 = some ⟨2, 7, [.cell 4 (some 3)], b444, none, false⟩
 h445 : T 445 = some ⟨2, 7, [.cell 4 (some 3)], b445, none, false⟩
 h446 : T 446 = some ⟨3, 13, [.cell 6 (some 3), .t 7], b446, none, false⟩
 h447 : T 447 = some ⟨3, 13, [.cell 6 (some 3), .t 7], b447, none, false⟩
 h448 : T 448 = some ⟨3, 10, [.cell 6 (some 3)], b448, none, false⟩
section
variable {T : Tbl} [CRun T] {d : Option Nat} {st : St} {xs : List AV} {ps : List Opd} {e : Env} {h : Heap} {ol : List Heap}
@[simp] theorem x384 : callX (orc T) T 384 xs d st = cP T 384 false xs d st := callX_pure CRun.h384
@[simp] theorem y384 : opD (orc T) T (.call 384 ps) e h ol = dP T 384 false ps e := opD_call CRun.h384
theorem f384 (xs : List AV) (hn : xs.length = 3) : callF T 384 xs = retF [.t 6, .cell 7 (some 4)] false (evX (orc T) T 0 b384 ⟨argEnv xs, [], 1⟩) := callF_eq CRun.h384 hn
@[simp] theorem x407 : callX (orc T) T 407 xs d st = cL T 407 false [true, false, false] xs d st := callX_lent CRun.h407
theorem f407 (xs : List AV) (hb : Heap) (hn : xs.length = 3) : callH T 407 xs hb = retH [.t 6, .cell 7 (some 4)] false hb.length (evX (orc T) T hb.length b407 ⟨argEnv xs, hb, hb.length + 1⟩) := callH_eq CRun.h407 hn
@[simp] theorem x422 : callX (orc T) T 422 xs d st = cP T 422 false xs d st := callX_pure CRun.h422
theorem f422 (xs : List AV) (hn : xs.length = 4) : callF T 422 xs = retF [.cell 8 (some 3), .t 9] false (evX (orc T) T 0 b422 ⟨argEnv xs, [], 1⟩) := callF_eq CRun.h422 hn
@[simp] theorem x431 : callX (orc T) T 431 xs d st = cP T 431 false xs d st := callX_pure CRun.h431
theorem f431 (xs : List AV) (hn : xs.length = 3) : callF T 431 xs = retF [.cell 6 (some 3)] false (evX (orc T) T 0 b431 ⟨argEnv xs, [], 1⟩) := callF_eq CRun.h431 hn
@[simp] theorem z441 (xs : List AV) : dI T 441 xs = dR (callF T 441 (xs.map (wkIf false))) xs := dI_eq CRun.h441
@[simp] theorem x441 : callX (orc T) T 441 xs d st = cP T 441 false xs d st := callX_pure CRun.h441
theorem f441 (xs : List AV) (hn : xs.length = 3) : callF T 441 xs = retF [.cell 6 (some 3)] false (evX (orc T) T 0 b441 ⟨argEnv xs, [], 1⟩) := callF_eq CRun.h441 hn
@[simp] theorem x442 : callX (orc T) T 442 xs d st = cL T 442 false [true, false] xs d st := callX_lent CRun.h442
theorem f442 (xs : List AV) (hb : Heap) (hn : xs.length = 2) : callH T 442 xs hb = retH [.t 4] false hb.length (evX (orc T) T hb.length b442 ⟨argEnv xs, hb, hb.length + 1⟩) := callH_eq CRun.h442 hn
@[simp] theorem z443 (xs : List AV) : dI T 443 xs = dR (callF T 443 (xs.map (wkIf false))) xs := dI_eq CRun.h443
@[simp] theorem x443 : callX (orc T) T 443 xs d st = cP T 443 false xs d st := callX_pure CRun.h443
theorem f443 (xs : List AV) (hn : xs.length = 3) : callF T 443 xs = retF [.cell 6 (some 3)] false (evX (orc T) T 0 b443 ⟨argEnv xs, [], 1⟩) := callF_eq CRun.h443 hn
@[simp] theorem z444 (xs : List AV) : dI T 444 xs = dR (callF T 444 (xs.map (wkIf false))) xs := dI_eq CRun.h444
@[simp] theorem x444 : callX (orc T) T 444 xs d st = cP T 444 false xs d st := callX_pure CRun.h444
theorem f444 (xs : List AV) (hn : xs.length = 2) : callF T 444 xs = retF [.cell 4 (some 3)] false (evX (orc T) T 0 b444 ⟨argEnv xs, [], 1⟩) := callF_eq CRun.h444 hn
@[simp] theorem z445 (xs : List AV) : dI T 445 xs = dR (callF T 445 (xs.map (wkIf false))) xs := dI_eq CRun.h445
@[simp] theorem x445 : callX (orc T) T 445 xs d st = cP T 445 false xs d st := callX_pure CRun.h445
theorem f445 (xs : List AV) (hn : xs.length = 2) : callF T 445 xs = retF [.cell 4 (some 3)] false (evX (orc T) T 0 b445 ⟨argEnv xs, [], 1⟩) := callF_eq CRun.h445 hn
@[simp] theorem z446 (xs : List AV) : dI T 446 xs = dR (callF T 446 (xs.map (wkIf false))) xs := dI_eq CRun.h446
theorem f446 (xs : List AV) (hn : xs.length = 3) : callF T 446 xs = retF [.cell 6 (some 3), .t 7] false (evX (orc T) T 0 b446 ⟨argEnv xs, [], 1⟩) := callF_eq CRun.h446 hn
@[simp] theorem z447 (xs : List AV) : dI T 447 xs = dR (callF T 447 (xs.map (wkIf false))) xs := dI_eq CRun.h447
theorem f447 (xs : List AV) (hn : xs.length = 3) : callF T 447 xs = retF [.cell 6 (some 3), .t 7] false (evX (orc T) T 0 b447 ⟨argEnv xs, [], 1⟩) := callF_eq CRun.h447 hn
@[simp] theorem z448 (xs : List AV) : dI T 448 xs = dR (callF T 448 (xs.map (wkIf false))) xs := dI_eq CRun.h448
@[simp] theorem x448 : callX (orc T) T 448 xs d st = cP T 448 false xs d st := callX_pure CRun.h448
theorem f448 (xs : List AV) (hn : xs.length = 3) : callF T 448 xs = retF [.cell 6 (some 3)] false (evX (orc T) T 0 b448 ⟨argEnv xs, [], 1⟩) := callF_eq CRun.h448 hn
end
end Go.Ab
end

section
namespace Go.Ab
def meths1 : List RV := [.cell 1 (some 445), .cell 2 (some 444), .cell 3 (some 441), .cell 4 (some 448), .cell 5 (some 443), .cell 6 (some 447), .cell 7 (some 446), .cell 8 (some 442)]
class CIfc (T : Tbl) : Prop where
 h1 : ∃ t, T 1000001 = some ⟨t, 0, meths1, .bad, none, false⟩
section
variable {T : Tbl} [CIfc T]
theorem meths_1 (x : String × Nat) : x ∈ methsT T 1 ↔ x ∈ [("Of", 445), ("Neg", 444), ("Add", 441), ("Sub", 448), ("Mul", 443), ("Quo", 447), ("Pow", 446), ("Fits", 442)] := by
 obtain ⟨t, ht⟩ := CIfc.h1 (T := T)
 rw [meths_eq ht]
 rfl
@[simp] theorem m1_of : (("Of", 445) ∈ methsT T 1) = True := by simp [meths_1]
@[simp] theorem m1_neg : (("Neg", 444) ∈ methsT T 1) = True := by simp [meths_1]
@[simp] theorem m1_add : (("Add", 441) ∈ methsT T 1) = True := by simp [meths_1]
@[simp] theorem m1_sub : (("Sub", 448) ∈ methsT T 1) = True := by simp [meths_1]
@[simp] theorem m1_mul : (("Mul", 443) ∈ methsT T 1) = True := by simp [meths_1]
@[simp] theorem m1_quo : (("Quo", 447) ∈ methsT T 1) = True := by simp [meths_1]
@[simp] theorem m1_pow : (("Pow", 446) ∈ methsT T 1) = True := by simp [meths_1]
@[simp] theorem m1_fits : (("Fits", 442) ∈ methsT T 1) = True := by simp [meths_1]
end
end Go.Ab
end

section
namespace Go.Ab
def l379_0 : AX :=
 (.note
 (.seq
 (.seq
 (.reg [mv 8 7, rg 9 (.fad 0 (.t 3)), rg 10 (.load none (.t 9)), rg 11 (.len (.t 10)), rg 12 (.bin .lss (.t 8) (.t 11)), mv 13 12, gd 14 13 true (.mov (.t 7)),
 gd 15 13 true (.mov (.t 1)), gd 16 13 true (.bin .lss (.t 14) (.t 15)), rg 17 (.pick (.t 13) (.t 16) (.c (.b false)))])
 (.cond (.t 17)
 .skip
 (.exit 0)))
 (.seq
 (.block 1
 (.seq
 (.reg [rg 20 (.fad 0 (.t 3)), rg 21 (.load none (.t 20)), mv 22 7, rg 23 (.iad 6 (.t 21) (.t 22)), rg 24 (.fad 3 (.t 23)), rg 25 (.load (some 3) (.t 24)),
 mv 26 2, rg 27 (.call 247 [(.t 25), (.t 26)])])
 (.cond (.t 27)
 (.seq
 (.reg [rg 6 (.mov (.c (.b true)))])
 (.pre (.norm false [6]) .ret))
 .skip)))
 (.reg [mv 18 7, rg 19 (.bin .add (.t 18) (.c (.i .i64 1))), mv 7 19])))
 (.norm false [1, 2, 3, 7]))
def b379 : AX :=
 (.seq
 (.reg [rg 3 (.xop (.box 4) [(.t 0)]), rg 6 (.mov (.c (.b false)))])
 (.seq
 (.seq
 (.reg [rg 7 (.mov (.c (.i .i64 0)))])
 (.lp 0 (.norm false [1, 2, 3, 7]) l379_0 (.norm false [1, 3])))
 (.seq
 (.reg [rg 28 (.fad 0 (.t 3)), rg 29 (.load none (.t 28)), rg 30 (.len (.t 29)), mv 31 1, rg 32 (.bin .gtr (.t 30) (.t 31)), mv 33 32,
 gd 34 33 false (.fad 1 (.t 3)), gd 35 33 false (.load none (.t 34)), gd 36 33 false (.len (.t 35)), gd 37 33 false (.mov (.t 1)),
 gd 38 33 false (.bin .gtr (.t 36) (.t 37)), rg 39 (.pick (.t 33) (.c (.b true)) (.t 38)), mv 6 39])
 (.pre (.norm false [6]) .ret))))
def b380 : AX :=
 (.seq
 (.reg [rg 3 (.xop (.box 5) [(.t 0)]), rg 6 (.mov (.c (.b false)))])
 (.seq
 (.reg [rg 7 (.fad 0 (.t 3)), rg 8 (.load (some 3) (.t 7)), mv 9 2, rg 10 (.call 247 [(.t 8), (.t 9)]), mv 11 10, gd 12 11 false (.fad 3 (.t 3)),
 gd 13 11 false (.load none (.t 12)), gd 14 11 false (.mov (.t 1)), gd 15 11 false (.mov (.t 2)), gd 16 11 false (.call 286 [(.t 13), (.t 14), (.t 15)]),
 rg 17 (.pick (.t 11) (.c (.b true)) (.t 16)), mv 18 17, gd 19 18 false (.fad 4 (.t 3)), gd 20 18 false (.load none (.t 19)),
 gd 21 18 false (.mov (.t 1)), gd 22 18 false (.mov (.t 2)), gd 23 18 false (.call 286 [(.t 20), (.t 21), (.t 22)]),
 rg 24 (.pick (.t 18) (.c (.b true)) (.t 23)), mv 6 24])
 (.pre (.norm false [6]) .ret)))
def l382_0 : AX :=
 (.note
 (.seq
 (.seq
 (.reg [mv 15 4, rg 16 (.fad 0 (.t 1)), rg 17 (.load none (.t 16)), rg 18 (.len (.t 17)), rg 19 (.bin .lss (.t 15) (.t 18))])
 (.cond (.t 19)
 .skip
 (.exit 0)))
 (.seq
 (.block 1
 (.seq
 (.reg [rg 22 (.fad 0 (.t 1)), rg 23 (.load none (.t 22)), mv 24 4, rg 25 (.iad 6 (.t 23) (.t 24)), rg 26 (.load (some 6) (.t 25)),
 rg 5 (.alloc [(.i .i64 0), (.i .i64 0), (.i .i64 0), (.b false), (.sl [] .nl), (.sl [] .nl)]), so (.store 6 (.t 5) (.t 26))])
 (.drawT [rg 27 (.fad 0 (.t 3)), rg 28 (.load none (.t 27)), rg 29 (.fad 0 (.t 5)), rg 30 (.load none (.t 29)), rg 31 (.fad 1 (.t 5)), rg 32 (.load none (.t 31)),
 rg 33 (.fad 2 (.t 5)), rg 34 (.load none (.t 33)), rg 35 (.fad 3 (.t 5)), rg 36 (.load (some 3) (.t 35)), rg 37 (.call 248 [(.t 36)]),
 rg 38 (.build [(.i .i64 0), (.i .i64 0), (.i .i64 0), (.b false), (.sl [] .nl), (.sl [] .nl)] [(0, 1, (.t 30)), (1, 1, (.t 32)), (2, 1, (.t 34)), (3, 3, (.t 37))]),
 rg 39 (.bsl 6 [(.i .i64 0), (.i .i64 0), (.i .i64 0), (.b false), (.sl [] .nl), (.sl [] .nl)] 1 [(0, (.t 38))])]
 [rg 40 (.app 6 (.t 28) (.t 39)), rg 41 (.fad 0 (.t 3)), so (.store 1 (.t 41) (.t 40))])))
 (.reg [mv 20 4, rg 21 (.bin .add (.t 20) (.c (.i .i64 1))), mv 4 21])))
 (.norm false [1, 2, 3, 4]))
def b382 : AX :=
 (.seq
 (.reg [rg 1 (.xop (.box 4) [(.t 0)]), rg 2 (.alloc [(.sl [] .nl), (.sl [] .nl), (.i .i64 0), (.i .i64 0)])])
 (.seq
 (.drawM [rg 6 (.fad 2 (.t 1)), rg 7 (.load none (.t 6)), rg 8 (.fad 3 (.t 1)), rg 9 (.load none (.t 8)), rg 10 (.bsl 1 [(.i .i64 0)] 0 []), rg 11 (.fad 1 (.t 1)),
 rg 12 (.load none (.t 11)), rg 13 (.app 1 (.t 10) (.t 12)),
 rg 14 (.build [(.sl [] .nl), (.sl [] .nl), (.i .i64 0), (.i .i64 0)] [(2, 1, (.t 7)), (3, 1, (.t 9)), (1, 1, (.t 13))]),
 rg 3 (.alloc [(.sl [] .nl), (.sl [] .nl), (.i .i64 0), (.i .i64 0)])]
 [so (.store 4 (.t 3) (.t 14))])
 (.seq
 (.seq
 (.reg [rg 4 (.mov (.c (.i .i64 0)))])
 (.pre (.fld 3 0 0 6) (.lp 0 (.norm false [1, 2, 3, 4]) l382_0 (.norm false [2, 3]))))
 (.seq
 (.reg [rg 42 (.load (some 4) (.t 3)), so (.store 4 (.t 2) (.t 42))])
 (.pre (.norm false [2]) .ret)))))
def b383 : AX :=
 (.seq
 (.reg [rg 1 (.xop (.box 5) [(.t 0)]), rg 2 (.alloc [(.b false), (.sl [] .nl), (.sl [] .nl), (.sl [] .nl), (.sl [] .nl)])])
 (.seq
 (.drawT [rg 3 (.fad 0 (.t 1)), rg 4 (.load (some 3) (.t 3)), rg 5 (.call 248 [(.t 4)]), rg 6 (.fad 3 (.t 1)), rg 7 (.load none (.t 6)), rg 8 (.call 287 [(.t 7)]),
 rg 9 (.fad 4 (.t 1)), rg 10 (.load none (.t 9))]
 [rg 11 (.call 287 [(.t 10)]),
 rg 12 (.build [(.b false), (.sl [] .nl), (.sl [] .nl), (.sl [] .nl), (.sl [] .nl)] [(0, 3, (.t 5)), (3, 1, (.t 8)), (4, 1, (.t 11))]),
 so (.store 5 (.t 2) (.t 12))])
 (.pre (.norm false [2]) .ret)))
class CLaw24 (T : Tbl) : Prop where
 h379 : T 379 = some ⟨3, 40, [.t 6], b379, none, false⟩
 h380 : T 380 = some ⟨3, 25, [.t 6], b380, none, false⟩
 h382 : T 382 = some ⟨1, 43, [.cell 2 (some 4)], b382, none, false⟩
 h383 : T 383 = some ⟨1, 13, [.cell 2 (some 5)], b383, none, false⟩
section
variable {T : Tbl} [CLaw24 T] {d : Option Nat} {st : St} {xs : List AV} {ps : List Opd} {e : Env} {h : Heap} {ol : List Heap}
@[simp] theorem x379 : callX (orc T) T 379 xs d st = cP T 379 false xs d st := callX_pure CLaw24.h379
theorem f379 (xs : List AV) (hn : xs.length = 3) : callF T 379 xs = retF [.t 6] false (evX (orc T) T 0 b379 ⟨argEnv xs, [], 1⟩) := callF_eq CLaw24.h379 hn
@[simp] theorem x380 : callX (orc T) T 380 xs d st = cP T 380 false xs d st := callX_pure CLaw24.h380
theorem f380 (xs : List AV) (hn : xs.length = 3) : callF T 380 xs = retF [.t 6] false (evX (orc T) T 0 b380 ⟨argEnv xs, [], 1⟩) := callF_eq CLaw24.h380 hn
@[simp] theorem x382 : callX (orc T) T 382 xs d st = cP T 382 false xs d st := callX_pure CLaw24.h382
theorem f382 (xs : List AV) (hn : xs.length = 1) : callF T 382 xs = retF [.cell 2 (some 4)] false (evX (orc T) T 0 b382 ⟨argEnv xs, [], 1⟩) := callF_eq CLaw24.h382 hn
@[simp] theorem x383 : callX (orc T) T 383 xs d st = cP T 383 false xs d st := callX_pure CLaw24.h383
theorem f383 (xs : List AV) (hn : xs.length = 1) : callF T 383 xs = retF [.cell 2 (some 5)] false (evX (orc T) T 0 b383 ⟨argEnv xs, [], 1⟩) := callF_eq CLaw24.h383 hn
end
end Go.Ab
end

section
namespace Go.Ab
def b372 : AX :=
 (.seq
 (.reg [rg 3 (.xop (.box 4) [(.t 0)]), rg 4 (.xop (.box 5) [(.t 1)]), rg 6 (.mov (.c (.b false)))])
 (.seq
 (.seq
 (.reg [rg 14 (.load (some 4) (.t 3)), rg 15 (.call 379 [(.t 14), (.c (.i .i64 15)), (.c (.i .i64 2))]), mv 16 15, gd 17 16 false (.load (some 5) (.t 4)),
 gd 18 16 false (.call 380 [(.t 17), (.c (.i .i64 6)), (.c (.i .i64 2))]), rg 19 (.pick (.t 16) (.c (.b true)) (.t 18)), mv 20 19,
 gd 21 20 false (.mov (.t 2)), gd 22 20 false (.bin .lss (.t 21) (.c (.i .i64 1))), rg 23 (.pick (.t 20) (.c (.b true)) (.t 22)), mv 24 23,
 gd 25 24 false (.mov (.t 2)), gd 26 24 false (.fad 0 (.t 3)), gd 27 24 false (.load none (.t 26)), gd 28 24 false (.len (.t 27)),
 gd 29 24 false (.bin .gtr (.t 25) (.t 28)), rg 30 (.pick (.t 24) (.c (.b true)) (.t 29))])
 (.cond (.t 30)
 (.seq
 (.reg [rg 31 (.call 381 []), mv 6 31])
 (.pre (.norm false [6]) .ret))
 .skip))
 (.seq
 (.reg [rg 32 (.load (some 4) (.t 3)), rg 33 (.call 382 [(.t 32)]), rg 7 (.alloc [(.sl [] .nl), (.sl [] .nl), (.i .i64 0), (.i .i64 0)]),
 so (.store 4 (.t 7) (.t 33))])
 (.seq
 (.reg [rg 34 (.load (some 5) (.t 4)), rg 35 (.call 383 [(.t 34)]), rg 8 (.alloc [(.b false), (.sl [] .nl), (.sl [] .nl), (.sl [] .nl), (.sl [] .nl)]),
 so (.store 5 (.t 8) (.t 35))])
 (.seq
 (.drawM [rg 36 (.fad 0 (.t 7)), rg 37 (.load none (.t 36)), mv 38 2, rg 39 (.slc 6 (.t 37) none (some (.t 38)) none), rg 40 (.fad 2 (.t 7)),
 rg 41 (.load none (.t 40)), rg 42 (.fad 3 (.t 7)), rg 43 (.load none (.t 42)), rg 44 (.fad 1 (.t 7)), rg 45 (.load none (.t 44)), rg 46 (.len (.t 45)),
 rg 47 (.mks 1 [(.i .i64 0)] (.t 46) (.t 46)),
 rg 48 (.build [(.sl [] .nl), (.sl [] .nl), (.i .i64 0), (.i .i64 0)] [(0, 1, (.t 39)), (2, 1, (.t 41)), (3, 1, (.t 43)), (1, 1, (.t 47))]),
 rg 9 (.alloc [(.sl [] .nl), (.sl [] .nl), (.i .i64 0), (.i .i64 0)])]
 [so (.store 4 (.t 9) (.t 48))])
 (.seq
 (.reg [rg 50 (.load (some 4) (.t 7)), rg 51 (.load (some 5) (.t 8)), rg 52 (.call 384 [(.t 50), (.t 51), (.c (.i .i64 400))]), mv 49 52, rg 53 (.ext (.t 49) 0),
 rg 54 (.ext (.t 49) 1), rg 11 (.alloc [(.i .i64 0), (.i .i64 0), (.i .i64 0), (.i .i64 0)]), mv 10 53, so (.store 4 (.t 11) (.t 54))])
 (.seq
 (.reg [rg 56 (.load (some 4) (.t 9)), rg 57 (.load (some 5) (.t 8)), rg 58 (.call 384 [(.t 56), (.t 57), (.c (.i .i64 400))]), mv 55 58, rg 59 (.ext (.t 55) 0),
 rg 60 (.ext (.t 55) 1), rg 13 (.alloc [(.i .i64 0), (.i .i64 0), (.i .i64 0), (.i .i64 0)]), mv 12 59, so (.store 4 (.t 13) (.t 60))])
 (.seq
 (.seq
 (.reg [rg 61 (.fad 0 (.t 11)), rg 62 (.load none (.t 61)), rg 63 (.bin .eql (.t 62) (.c (.i .i64 2)))])
 (.cond (.t 63)
 (.seq
 (.reg [rg 64 (.call 381 []), mv 6 64])
 (.pre (.norm false [6]) .ret))
 .skip))
 (.seq
 (.seq
 (.reg [rg 65 (.load (some 4) (.t 11)), rg 66 (.build [(.i .i64 0), (.i .i64 0), (.i .i64 0), (.i .i64 0)] []),
 rg 67 (.eqs true [(0, .int), (1, .int), (2, .int), (3, .int)] (.t 65) (.t 66))])
 (.cond (.t 67)
 (.seq
 (.reg [rg 68 (.fad 3 (.t 11)), rg 69 (.load none (.t 68)), mv 70 2, rg 71 (.bin .lss (.t 69) (.t 70)), mv 72 71, gd 73 72 true (.load (some 4) (.t 13)),
 gd 74 72 true (.load (some 4) (.t 11)), gd 75 72 true (.eqs false [(0, .int), (1, .int), (2, .int), (3, .int)] (.t 73) (.t 74)),
 rg 76 (.pick (.t 72) (.t 75) (.c (.b false))), mv 77 76, gd 78 77 false (.fad 3 (.t 11)), gd 79 77 false (.load none (.t 78)),
 gd 80 77 false (.mov (.t 2)), gd 81 77 false (.bin .geq (.t 79) (.t 80)), gd 82 77 false (.mov (.t 81)), gd 83 82 true (.load (some 4) (.t 13)),
 gd 84 82 true (.build [(.i .i64 0), (.i .i64 0), (.i .i64 0), (.i .i64 0)] []),
 gd 85 82 true (.eqs false [(0, .int), (1, .int), (2, .int), (3, .int)] (.t 83) (.t 84)), gd 86 77 false (.pick (.t 82) (.t 85) (.c (.b false))),
 rg 87 (.pick (.t 77) (.c (.b true)) (.t 86)), mv 88 87, gd 89 88 true (.call 381 []), rg 90 (.pick (.t 88) (.t 89) (.c (.b false))), mv 6 90])
 (.pre (.norm false [6]) .ret))
 .skip))
 (.seq
 (.reg [rg 91 (.load (some 4) (.t 13)), rg 92 (.build [(.i .i64 0), (.i .i64 0), (.i .i64 0), (.i .i64 0)] []),
 rg 93 (.eqs false [(0, .int), (1, .int), (2, .int), (3, .int)] (.t 91) (.t 92)), mv 94 93, gd 95 94 true (.mov (.t 10)), gd 96 94 true (.len (.t 95)),
 gd 97 94 true (.mov (.t 2)), gd 98 94 true (.bin .geq (.t 96) (.t 97)), rg 99 (.pick (.t 94) (.t 98) (.c (.b false))), mv 100 99,
 gd 101 100 true (.mov (.t 12)), gd 102 100 true (.mov (.t 10)), gd 103 100 true (.mov (.t 2)),
 gd 104 100 true (.slc 3 (.t 102) none (some (.t 103)) none), gd 105 100 true (.call 265 [(.t 101), (.t 104)]),
 rg 106 (.pick (.t 100) (.t 105) (.c (.b false))), mv 107 106, gd 108 107 true (.call 381 []), rg 109 (.pick (.t 107) (.t 108) (.c (.b false))), mv 6 109])
 (.pre (.norm false [6]) .ret)))))))))))
def b381 : AX :=
 (.seq
 (.reg [rg 0 (.mov (.c (.b false)))])
 (.seq
 (.reg [rg 7 (.build [(.i .i64 0), (.i .i64 0), (.i .i64 0), (.b false), (.sl [] .nl), (.sl [] .nl)] [(0, 1, (.c (.i .i64 3)))]),
 rg 8 (.build [(.i .i64 0), (.i .i64 0), (.i .i64 0), (.b false), (.sl [] .nl), (.sl [] .nl)] [(0, 1, (.c (.i .i64 2)))]),
 rg 9 (.build [(.i .i64 0), (.i .i64 0), (.i .i64 0), (.b false), (.sl [] .nl), (.sl [] .nl)] [(0, 1, (.c (.i .i64 10))), (2, 1, (.c (.i .i64 1)))]),
 rg 10 (.bsl 6 [(.i .i64 0), (.i .i64 0), (.i .i64 0), (.b false), (.sl [] .nl), (.sl [] .nl)] 3 [(0, (.t 7)), (1, (.t 8)), (2, (.t 9))]),
 rg 11 (.bsl 1 [(.i .i64 0)] 1 [(0, (.c (.i .i64 2)))]),
 rg 12 (.build [(.sl [] .nl), (.sl [] .nl), (.i .i64 0), (.i .i64 0)] [(0, 1, (.t 10)), (1, 1, (.t 11)), (2, 1, (.c (.i .i64 1)))]),
 rg 1 (.alloc [(.sl [] .nl), (.sl [] .nl), (.i .i64 0), (.i .i64 0)]), so (.store 4 (.t 1) (.t 12))])
 (.seq
 (.reg [rg 13 (.call 205 [(.c (.i .i64 6))]), rg 14 (.bsl 3 [(.b false), (.sl [] .nl), (.sl [] .nl)] 1 [(0, (.t 13))]), mv 2 14])
 (.seq
 (.draw [⟨rg 16 (.load (some 4) (.t 1)), 0, 1⟩, ⟨rg 17 (.call 205 [(.c (.i .i64 2))]), 0, 1⟩, ⟨mv 18 2, 0, 1⟩,
 ⟨rg 19 (.build [(.b false), (.sl [] .nl), (.sl [] .nl), (.sl [] .nl), (.sl [] .nl)] [(0, 3, (.t 17)), (3, 1, (.t 18))]), 0, 1⟩,
 ⟨rg 20 (.call 384 [(.t 16), (.t 19), (.c (.i .i64 100))]), 0, 1⟩, ⟨mv 15 20, 0, 1⟩, ⟨rg 21 (.ext (.t 15) 0), 0, 1⟩, ⟨rg 22 (.ext (.t 15) 1), 0, 1⟩,
 ⟨rg 4 (.alloc [(.i .i64 0), (.i .i64 0), (.i .i64 0), (.i .i64 0)]), 0, 1⟩, ⟨mv 3 21, 1, 1⟩, ⟨so (.store 4 (.t 4) (.t 22)), 1, 2⟩])
 (.seq
 (.reg [rg 24 (.load (some 4) (.t 1)), mv 25 2, rg 26 (.build [(.b false), (.sl [] .nl), (.sl [] .nl), (.sl [] .nl), (.sl [] .nl)] [(3, 1, (.t 25))]),
 rg 27 (.call 384 [(.t 24), (.t 26), (.c (.i .i64 100))]), mv 23 27, rg 28 (.ext (.t 23) 0), rg 29 (.ext (.t 23) 1),
 rg 6 (.alloc [(.i .i64 0), (.i .i64 0), (.i .i64 0), (.i .i64 0)]), mv 5 28, so (.store 4 (.t 6) (.t 29))])
 (.seq
 (.reg [rg 30 (.load (some 4) (.t 4)), rg 31 (.build [(.i .i64 0), (.i .i64 0), (.i .i64 0), (.i .i64 0)] []),
 rg 32 (.eqs false [(0, .int), (1, .int), (2, .int), (3, .int)] (.t 30) (.t 31)), mv 33 32, gd 34 33 true (.mov (.t 3)),
 gd 35 33 true (.call 274 [(.t 34)]), gd 36 33 true (.bin .eql (.t 35) (.c (.s [54, 44, 50, 44, 51]))), rg 37 (.pick (.t 33) (.t 36) (.c (.b false))),
 mv 38 37, gd 39 38 true (.load (some 4) (.t 6)),
 gd 40 38 true (.build [(.i .i64 0), (.i .i64 0), (.i .i64 0), (.i .i64 0)] [(0, 1, (.c (.i .i64 3))), (3, 1, (.c (.i .i64 2)))]),
 gd 41 38 true (.eqs false [(0, .int), (1, .int), (2, .int), (3, .int)] (.t 39) (.t 40)), rg 42 (.pick (.t 38) (.t 41) (.c (.b false))), mv 0 42])
 (.pre (.norm false [0]) .ret)))))))
class CLaw26 (T : Tbl) : Prop where
 h372 : T 372 = some ⟨3, 110, [.t 6], b372, none, false⟩
 h381 : T 381 = some ⟨0, 43, [.t 0], b381, none, false⟩
section
variable {T : Tbl} [CLaw26 T] {d : Option Nat} {st : St} {xs : List AV} {ps : List Opd} {e : Env} {h : Heap} {ol : List Heap}
theorem f372 (xs : List AV) (hn : xs.length = 3) : callF T 372 xs = retF [.t 6] false (evX (orc T) T 0 b372 ⟨argEnv xs, [], 1⟩) := callF_eq CLaw26.h372 hn
@[simp] theorem x381 : callX (orc T) T 381 xs d st = cP T 381 false xs d st := callX_pure CLaw26.h381
theorem f381 (xs : List AV) (hn : xs.length = 0) : callF T 381 xs = retF [.t 0] false (evX (orc T) T 0 b381 ⟨argEnv xs, [], 1⟩) := callF_eq CLaw26.h381 hn
end
end Go.Ab
end

section
namespace Go.Ab
open Go.RowKit
def opU : AOp → List Nat
 | .call u _ => [u]
 | .ifc k _ => [1000000 + k]
 | .inv _ k u _ _ => [1000000 + k, u]
 | _ => []
def cXs : AX → List Nat
 | .reg l => l.flatMap fun o => opU o.op
 | .draw l => l.flatMap fun o => opU o.ao.op
 | .drawT hd tl => (hd.flatMap fun o => opU o.op) ++ tl.flatMap fun o => opU o.op
 | .drawM hd tl => (hd.flatMap fun o => opU o.op) ++ tl.flatMap fun o => opU o.op
 | .seq a b => cXs a ++ cXs b
 | .cond _ x y => cXs x ++ cXs y
 | .block _ c | .loop c | .note c _ | .pre _ c | .scope c | .lp _ _ c _ => cXs c
 | _ => []
structure Agr (R : Nat → Bool) (T T' : Tbl) (O O' : Orc) : Prop where
 tbl : ∀ u, R u = true → T u = T' u
 call : ∀ u xs hb, R u = true → O.call u xs hb = O'.call u xs hb
 loop : ∀ k c st, (∀ u ∈ cXs c, R u = true) → O.loop k c st = O'.loop k c st
section
variable {R : Nat → Bool} {T T' : Tbl} {O O' : Orc}
theorem callX_agr (h : Agr R T T' O O') {u : Nat} (hu : R u = true) {xs : List AV} {d : Option Nat} {st : St} : callX O T u xs d st = callX O' T' u xs d st := by
 unfold callX
 rw [h.tbl u hu]
 simp only [h.call u _ _ hu]
theorem opX_agr (h : Agr R T T' O O') {op : AOp} (hu : ∀ u ∈ opU op, R u = true) {d : Option Nat} {st : St} : opX O T op d st = opX O' T' op d st := by
 cases op <;> simp only [opX]
 case call u args => exact callX_agr h (hu _ (by simp [opU]))
 case ifc k x => unfold tyNum; rw [h.tbl _ (hu _ (by simp [opU]))]
 case inv nm k u r args =>
  have e1 : tyNum T k = tyNum T' k := by unfold tyNum; rw [h.tbl _ (hu _ (by simp [opU]))]
  have e2 : methsT T k = methsT T' k := by unfold methsT; rw [h.tbl _ (hu _ (by simp [opU]))]
  rw [e1, e2]
  simp only [callX_agr h (hu u (by simp [opU]))]
theorem stepX_agr (h : Agr R T T' O O') {o : AO} (hu : ∀ u ∈ opU o.op, R u = true) {st : St} : stepX O T o st = stepX O' T' o st := by
 unfold stepX gX
 simp only [opX_agr h hu]
theorem runX_agr (h : Agr R T T' O O') : ∀ (l : List AO), (∀ o ∈ l, ∀ u ∈ opU o.op, R u = true) → ∀ st, runX O T l st = runX O' T' l st
 | [], _, st => rfl
 | o :: l, hu, st => by
  simp only [runX]
  rw [stepX_agr h (hu o List.mem_cons_self)]
  congr 1
  funext s
  exact runX_agr h l (fun o ho => hu o (List.mem_cons_of_mem _ ho)) s
theorem opD_agr (h : Agr R T T' O O') {op : AOp} (hu : ∀ u ∈ opU op, R u = true) {e : Env} {hp : Heap} {older : List Heap} : opD O T op e hp older = opD O' T' op e hp older := by
 cases op <;> simp only [opD]
 case call u args =>
  rw [h.tbl _ (hu _ (by simp [opU]))]
  simp only [h.call _ _ _ (hu _ (show u ∈ _ by simp [opU]))]
 case ifc k x => unfold tyNum; rw [h.tbl _ (hu _ (by simp [opU]))]
 case inv nm k u r args =>
  have e1 : tyNum T k = tyNum T' k := by unfold tyNum; rw [h.tbl _ (hu _ (by simp [opU]))]
  have e2 : methsT T k = methsT T' k := by unfold methsT; rw [h.tbl _ (hu _ (by simp [opU]))]
  rw [e1, e2, h.tbl u (hu u (by simp [opU]))]
  simp only [h.call u _ _ (hu u (by simp [opU]))]
theorem qX_agr (h : Agr R T T' O O') {o : AO} (hu : ∀ u ∈ opU o.op, R u = true) {e : Env} {hp : Heap} {older : List Heap} : qX O T o e hp older = qX O' T' o e hp older := by
 unfold qX
 simp only [opD_agr h hu]
theorem drawX_agr (h : Agr R T T' O O') : ∀ (l : List DO), (∀ o ∈ l, ∀ u ∈ opU o.ao.op, R u = true) → ∀ e hp clk older pend, drawX O T l e hp clk older pend = drawX O' T' l e hp clk older pend
 | [], _, e, hp, clk, older, pend => rfl
 | o :: l, hu, e, hp, clk, older, pend => by
  have ih := drawX_agr h l (fun o ho => hu o (List.mem_cons_of_mem _ ho))
  simp only [drawX]
  rw [qX_agr h (hu o List.mem_cons_self)]
  simp only [ih]
theorem headX_agr (h : Agr R T T' O O') (tl : List AO) (ht : ∀ o ∈ tl, ∀ u ∈ opU o.op, R u = true) : ∀ (l : List AO), (∀ o ∈ l, ∀ u ∈ opU o.op, R u = true) → ∀ e hp clk, headX O T tl l e hp clk = headX O' T' tl l e hp clk
 | [], _, e, hp, clk => runX_agr h tl ht _
 | o :: l, hu, e, hp, clk => by
  have ih := headX_agr h tl ht l (fun o ho => hu o (List.mem_cons_of_mem _ ho))
  simp only [headX]
  rw [qX_agr h (hu o List.mem_cons_self)]
  simp only [ih]
theorem headM_agr (h : Agr R T T' O O') (tl : List AO) (ht : ∀ o ∈ tl, ∀ u ∈ opU o.op, R u = true) (h0 : Heap) (c0 : Nat) : ∀ (l : List AO), (∀ o ∈ l, ∀ u ∈ opU o.op, R u = true) → ∀ e hp clk, headM O T tl h0 c0 l e hp clk = headM O' T' tl h0 c0 l e hp clk
 | [], _, e, hp, clk => runX_agr h tl ht _
 | o :: l, hu, e, hp, clk => by
  have ih := headM_agr h tl ht h0 c0 l (fun o ho => hu o (List.mem_cons_of_mem _ ho))
  simp only [headM]
  rw [qX_agr h (hu o List.mem_cons_self)]
  simp only [ih]
theorem evX_agr (h : Agr R T T' O O') (k : Nat) : ∀ (c : AX), (∀ u ∈ cXs c, R u = true) → ∀ st, evX O T k c st = evX O' T' k c st
 | .skip, _, st => rfl
 | .reg l, hu, st => by
  simp only [evX]
  rw [runX_agr h l fun o ho u hou => hu u (List.mem_flatMap.2 ⟨o, ho, hou⟩)]
 | .draw l, hu, st => by
  simp only [evX]
  rw [drawX_agr h l fun o ho u hou => hu u (List.mem_flatMap.2 ⟨o, ho, hou⟩)]
 | .drawT hd tl, hu, st => by
  simp only [evX]
  rw [headX_agr h tl (fun o ho u hou => hu u (List.mem_append_right _ (List.mem_flatMap.2 ⟨o, ho, hou⟩))) hd (fun o ho u hou => hu u (List.mem_append_left _ (List.mem_flatMap.2 ⟨o, ho, hou⟩)))]
 | .drawM hd tl, hu, st => by
  simp only [evX]
  rw [headM_agr h tl (fun o ho u hou => hu u (List.mem_append_right _ (List.mem_flatMap.2 ⟨o, ho, hou⟩))) _ _ hd (fun o ho u hou => hu u (List.mem_append_left _ (List.mem_flatMap.2 ⟨o, ho, hou⟩)))]
 | .bad, _, st => rfl
 | .prim f, _, st => rfl
 | .seq a b, hu, st => by
  simp only [evX]
  rw [evX_agr h k a fun u hm => hu u (List.mem_append_left _ hm)]
  congr 1
  funext r
  rw [evX_agr h k b fun u hm => hu u (List.mem_append_right _ hm)]
 | .cond c x y, hu, st => by
  simp only [evX]
  rw [evX_agr h k x fun u hm => hu u (List.mem_append_left _ hm), evX_agr h k y fun u hm => hu u (List.mem_append_right _ hm)]
 | .block id c, hu, st => by
  simp only [evX]
  rw [evX_agr h k c hu]
 | .loop c, hu, st => h.loop k c st hu
 | .exit id, _, st => rfl
 | .ret, _, st => rfl
 | .note c g, hu, st => by
  simp only [evX]
  rw [evX_agr h k c hu]
 | .pre g c, hu, st => by
  simp only [evX]
  congr 1
  funext s
  exact evX_agr h k c hu s
 | .scope c, hu, st => by
  simp only [evX]
  exact evX_agr h k c hu st
 | .lp id g c g2, hu, st => by
  simp only [evX, h.loop k c _ hu]
theorem nextO_agr (hc : ∀ u af, R u = true → T u = some af → ∀ v ∈ cXs af.body, R v = true) (h : Agr R T T' O O') : Agr R T T' (nextO T O) (nextO T' O') where
 tbl := h.tbl
 call u xs hb hu := by
  simp only [nextO]
  rw [← h.tbl u hu]
  cases ht : T u with
  | none => rfl
  | some af =>
   simp only
   rw [evX_agr h hb.length af.body (hc u af hu ht)]
 loop k c st hu := by
  simp only [nextO]
  rw [evX_agr h k c hu]
  congr 1
  funext r
  rw [h.loop k c _ hu]
theorem orcN_agr (ht : ∀ u, R u = true → T u = T' u) (hc : ∀ u af, R u = true → T u = some af → ∀ v ∈ cXs af.body, R v = true) : ∀ n, Agr R T T' (orcN T n) (orcN T' n)
 | 0 => ⟨ht, fun _ _ _ _ => rfl, fun _ _ _ _ => rfl⟩
 | n + 1 => nextO_agr hc (orcN_agr ht hc n)
theorem orc_agr (ht : ∀ u, R u = true → T u = T' u) (hc : ∀ u af, R u = true → T u = some af → ∀ v ∈ cXs af.body, R v = true) : Agr R T T' (orc T) (orc T') := by
 refine ⟨ht, fun u xs hb hu => ?_, fun k c st hu => ?_⟩
 ·simp only [orc]
  congr 1
  funext n
  exact (orcN_agr ht hc n).call u xs hb hu
 ·simp only [orc]
  congr 1
  funext n
  exact (orcN_agr ht hc n).loop k c st hu
end
theorem mem_of_lookup {l : List (Nat × AFx)} {u : Nat} {af : AFx} (h : l.lookup u = some af) : (u, af) ∈ l := by
 induction l with
 | nil => cases h
 | cons q l ih =>
  obtain ⟨q1, q2⟩ := q
  simp only [List.lookup_cons] at h
  split at h
  ·rename_i he
   have := eq_of_beq he
   subst this
   cases h
   exact List.mem_cons_self
  ·exact List.mem_cons_of_mem _ (ih h)
structure Part (l l' : List (Nat × AFx)) : Prop where
 sub : ∀ p ∈ l', l.lookup p.1 = some p.2
 clo : (l'.all fun p => (cXs p.2.body).all fun v => (l'.lookup v).isSome || (l.lookup v).isNone) = true
theorem Part.agr {l l' : List (Nat × AFx)} (h : Part l l') : Agr (fun u => (l'.lookup u).isSome || (l.lookup u).isNone) (fun u => l.lookup u) (fun u => l'.lookup u) (orc fun u => l.lookup u) (orc fun u => l'.lookup u) := by
 refine orc_agr (fun v hv => ?_) (fun v a hv hva w hw => ?_)
 ·cases hv2 : l'.lookup v with
  | none =>
   simp only [hv2] at hv
   cases hv3 : l.lookup v with
   | none => rfl
   | some a => rw [hv3] at hv; cases hv
  | some a => exact h.sub _ (mem_of_lookup hv2)
 ·cases hv2 : l'.lookup v with
  | none => simp only [hv2, hva] at hv; cases hv
  | some b =>
   have hb := mem_of_lookup hv2
   have h1 := h.sub _ hb
   simp only at hva h1
   rw [hva] at h1
   cases h1
   exact List.all_eq_true.1 (List.all_eq_true.1 h.clo _ hb) w hw
theorem Part.ev {l l' : List (Nat × AFx)} (h : Part l l') {c : AX} (hc : ((cXs c).all fun v => (l'.lookup v).isSome) = true) {st : St} {r : Option (Ex × St)}
  (he : evX (orc fun u => l.lookup u) (fun u => l.lookup u) 0 c st = r) : evX (orc fun u => l'.lookup u) (fun u => l'.lookup u) 0 c st = r := by
 rw [← evX_agr h.agr 0 c (fun v hv => by rw [List.all_eq_true.1 hc v hv]; rfl) st]
 exact he
theorem Part.call {l l' : List (Nat × AFx)} (h : Part l l') {u : Nat} (hu : (l'.lookup u).isSome = true) {xs : List AV} {r : Option AV} (he : callF (fun u => l.lookup u) u xs = r) : callF (fun u => l'.lookup u) u xs = r := by
 rw [← he]
 unfold callF
 rw [h.agr.call u xs [] (by rw [hu]; rfl)]
end Go.Ab
end
