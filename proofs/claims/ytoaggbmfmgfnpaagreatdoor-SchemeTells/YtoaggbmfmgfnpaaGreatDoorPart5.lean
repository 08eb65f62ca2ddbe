/-
  A calculus of values, boxes and code, and what functions of the program compute, proved in it.
  Conditions: none beyond those that the theorems state. (Part 5: GcRef16, GcRef30, GcRef10, GcRef11b, NmFig, GcStr, GcSplit, GcFig, GcRow2, GcRow5, GcSchP, GcSchT, GcLaw30, Ax10.)
-/
import Derived.Test.YtoaggbmfmgfnpaaGreatDoorPart4
import Derived.Lib.IndexAny
import Derived.Lib.Bytealg

set_option linter.unusedSectionVars false
set_option linter.unusedVariables false
set_option linter.unusedSimpArgs false
set_option linter.unnecessarySimpa false

section
namespace Go.Ab
def b189:AX:=
 (.seq
 (.reg [rg 2 (.mov (.c (.b false)))])
 (.seq
 (.reg [mv 3 0,rg 4 (.bin .geq (.t 3) (.c (u8 48))),mv 5 4,gd 6 5 true (.mov (.t 0)),gd 7 5 true (.bin .leq (.t 6) (.c (u8 57))),rg 8 (.pick (.t 5) (.t 7) (.c (.b false))),mv 2 8])
 (.pre (.norm false [2]) .ret)))
def b190:AX:=
 (.seq
 (.reg [rg 2 (.mov (.c (.b false)))])
 (.seq
 (.reg [mv 3 0,rg 4 (.bin .geq (.t 3) (.c (u8 97))),mv 5 4,gd 6 5 true (.mov (.t 0)),gd 7 5 true (.bin .leq (.t 6) (.c (u8 122))),rg 8 (.pick (.t 5) (.t 7) (.c (.b false))),mv 9 8,gd 10 9 false (.mov (.t 0)),gd 11 9 false (.bin .geq (.t 10) (.c (u8 65))),gd 12 9 false (.mov (.t 11)),gd 13 12 true (.mov (.t 0)),gd 14 12 true (.bin .leq (.t 13) (.c (u8 90))),gd 15 9 false (.pick (.t 12) (.t 14) (.c (.b false))),rg 16 (.pick (.t 9) (.c (.b true)) (.t 15)),mv 17 16,gd 18 17 false (.mov (.t 0)),gd 19 17 false (.bin .eql (.t 18) (.c (u8 95))),rg 20 (.pick (.t 17) (.c (.b true)) (.t 19)),mv 2 20])
 (.pre (.norm false [2]) .ret)))
def l181_0:AX:=
 (.note
 (.seq
 (.seq
 (.reg [mv 9 4,mv 10 3,rg 11 (.lens (.t 10)),rg 12 (.bin .lss (.t 9) (.t 11))])
 (.cond (.t 12)
 .skip
 (.exit 0)))
 (.seq
 (.block 1
 (.seq
 (.reg [mv 15 3,mv 16 4,rg 17 (.ixs (.t 15) (.t 16)),mv 18 0,rg 19 (.bin .eql (.t 17) (.t 18))])
 (.cond (.t 19)
 (.seq
 (.reg [rg 2 (.mov (.c (.i .i64 3)))])
 (.pre (.norm false [2]) .ret))
 .skip)))
 (.reg [mv 13 4,rg 14 (.bin .add (.t 13) (.c (.i .i64 1))),mv 4 14])))
 (.norm false [0,3,4]))
def b181:AX:=
 (.seq
 (.reg [rg 2 (.mov (.c (.i .i64 0)))])
 (.seq
 (.seq
 (.reg [mv 5 0,rg 6 (.call 189 [(.t 5)])])
 (.cond (.t 6)
 (.seq
 (.reg [rg 2 (.mov (.c (.i .i64 1)))])
 (.pre (.norm false [2]) .ret))
 .skip))
 (.seq
 (.seq
 (.reg [mv 7 0,rg 8 (.call 190 [(.t 7)])])
 (.cond (.t 8)
 (.seq
 (.reg [rg 2 (.mov (.c (.i .i64 2)))])
 (.pre (.norm false [2]) .ret))
 .skip))
 (.seq
 (.reg [rg 3 (.mov (.c (.s [43,45,42,47,94,40,41,91,93,44,59,61])))])
 (.seq
 (.seq
 (.reg [rg 4 (.mov (.c (.i .i64 0)))])
 (.lp 0 (.norm false [0,3,4]) l181_0 (.norm false [])))
 (.seq
 (.reg [rg 2 (.mov (.c (.i .i64 0)))])
 (.pre (.norm false [2]) .ret)))))))
def b180:AX:=
 (.seq
 (.reg [rg 4 (.mov (.c (.b false)))])
 (.seq
 (.reg [mv 5 0,rg 6 (.bin .eql (.t 5) (.c (.i .i64 1))),mv 7 6,gd 8 7 true (.mov (.t 1)),gd 9 7 true (.call 189 [(.t 8)]),rg 10 (.pick (.t 7) (.t 9) (.c (.b false))),mv 11 10,gd 12 11 false (.mov (.t 0)),gd 13 11 false (.bin .eql (.t 12) (.c (.i .i64 2))),gd 14 11 false (.mov (.t 13)),gd 15 14 true (.mov (.t 1)),gd 16 14 true (.call 189 [(.t 15)]),gd 17 14 true (.mov (.t 16)),gd 18 17 false (.mov (.t 1)),gd 19 17 false (.call 190 [(.t 18)]),gd 20 14 true (.pick (.t 17) (.c (.b true)) (.t 19)),gd 21 11 false (.pick (.t 14) (.t 20) (.c (.b false))),rg 22 (.pick (.t 11) (.c (.b true)) (.t 21)),mv 4 22])
 (.pre (.norm false [4]) .ret)))
def b182:AX:=
 (.seq
 (.reg [rg 2 (.mov (.c (.i .i64 0)))])
 (.seq
 (.seq
 (.reg [mv 3 0,rg 4 (.bin .eql (.t 3) (.c (.i .i64 1)))])
 (.cond (.t 4)
 (.seq
 (.reg [rg 2 (.mov (.c (.i .i64 60)))])
 (.pre (.norm false [2]) .ret))
 .skip))
 (.seq
 (.seq
 (.reg [mv 5 0,rg 6 (.bin .eql (.t 5) (.c (.i .i64 2)))])
 (.cond (.t 6)
 (.seq
 (.reg [rg 2 (.mov (.c (.i .i64 12)))])
 (.pre (.norm false [2]) .ret))
 .skip))
 (.seq
 (.reg [rg 2 (.mov (.c (.i .i64 1)))])
 (.pre (.norm false [2]) .ret)))))
def l168_0:AX:=
 (.note
 (.seq
 (.seq
 (.reg [mv 14 6,mv 15 0,rg 16 (.lens (.t 15)),rg 17 (.bin .lss (.t 14) (.t 16))])
 (.cond (.t 17)
 .skip
 (.exit 0)))
 (.seq
 (.block 1
 (.seq
 (.reg [mv 20 0,mv 21 6,rg 22 (.ixs (.t 20) (.t 21)),mv 7 22])
 (.seq
 (.seq
 (.reg [mv 23 7,rg 24 (.bin .eql (.t 23) (.c (u8 10)))])
 (.cond (.t 24)
 (.reg [rg 5 (.mov (.c (.b false)))])
 .skip))
 (.seq
 (.seq
 (.reg [mv 25 7,rg 26 (.bin .eql (.t 25) (.c (u8 35)))])
 (.cond (.t 26)
 (.reg [rg 5 (.mov (.c (.b true)))])
 .skip))
 (.seq
 (.seq
 (.reg [mv 27 5,mv 28 27,gd 29 28 false (.mov (.t 7)),gd 30 28 false (.bin .eql (.t 29) (.c (u8 32))),rg 31 (.pick (.t 28) (.c (.b true)) (.t 30)),mv 32 31,gd 33 32 false (.mov (.t 7)),gd 34 32 false (.bin .eql (.t 33) (.c (u8 9))),rg 35 (.pick (.t 32) (.c (.b true)) (.t 34)),mv 36 35,gd 37 36 false (.mov (.t 7)),gd 38 36 false (.bin .eql (.t 37) (.c (u8 10))),rg 39 (.pick (.t 36) (.c (.b true)) (.t 38)),mv 40 39,gd 41 40 false (.mov (.t 7)),gd 42 40 false (.bin .eql (.t 41) (.c (u8 13))),rg 43 (.pick (.t 40) (.c (.b true)) (.t 42))])
 (.cond (.t 43)
 (.exit 1)
 .skip))
 (.seq
 (.reg [mv 44 4,rg 45 (.len (.t 44)),mv 8 45])
 (.seq
 (.seq
 (.drawT [mv 46 8,rg 47 (.bin .gtr (.t 46) (.c (.i .i64 0))),mv 48 47,gd 49 48 true (.mov (.t 4)),gd 50 48 true (.mov (.t 8)),gd 51 48 true (.bin .sub (.t 50) (.c (.i .i64 1))),gd 52 48 true (.iad 3 (.t 49) (.t 51)),gd 53 48 true (.fad 2 (.t 52)),gd 54 48 true (.load none (.t 53)),gd 55 48 true (.mov (.t 4)),gd 56 48 true (.mov (.t 8)),gd 57 48 true (.bin .sub (.t 56) (.c (.i .i64 1))),gd 58 48 true (.iad 3 (.t 55) (.t 57)),gd 59 48 true (.fad 1 (.t 58)),gd 60 48 true (.load none (.t 59)),gd 61 48 true (.lens (.t 60)),gd 62 48 true (.bin .add (.t 54) (.t 61)),gd 63 48 true (.mov (.t 6)),gd 64 48 true (.bin .eql (.t 62) (.t 63)),rg 65 (.pick (.t 48) (.t 64) (.c (.b false))),mv 66 65,gd 67 66 true (.mov (.t 4)),gd 68 66 true (.mov (.t 8)),gd 69 66 true (.bin .sub (.t 68) (.c (.i .i64 1))),gd 70 66 true (.iad 3 (.t 67) (.t 69)),gd 71 66 true (.fad 0 (.t 70)),gd 72 66 true (.load none (.t 71)),gd 73 66 true (.mov (.t 7))]
 [gd 74 66 true (.call 180 [(.t 72),(.t 73)]),rg 75 (.pick (.t 66) (.t 74) (.c (.b false)))])
 (.cond (.t 75)
 (.drawT [mv 76 4,mv 77 8,rg 78 (.bin .sub (.t 77) (.c (.i .i64 1))),rg 79 (.iad 3 (.t 76) (.t 78)),rg 80 (.fad 1 (.t 79)),rg 81 (.load none (.t 80)),mv 82 0,mv 83 6,mv 84 6,rg 85 (.bin .add (.t 84) (.c (.i .i64 1))),rg 86 (.slstr (.t 82) (some (.t 83)) (some (.t 85)))]
 [rg 87 (.bin .add (.t 81) (.t 86)),rg 88 (.iad 3 (.t 76) (.t 78)),rg 89 (.fad 1 (.t 88)),so (.store 1 (.t 89) (.t 87))])
 (.drawT [mv 90 4,mv 91 7,rg 92 (.call 181 [(.t 91)]),mv 93 0,mv 94 6,mv 95 6,rg 96 (.bin .add (.t 95) (.c (.i .i64 1))),rg 97 (.slstr (.t 93) (some (.t 94)) (some (.t 96))),mv 98 6,rg 99 (.build [(.i .i64 0),(.s []),(.i .i64 0)] [(0,1,(.t 92)),(1,1,(.t 97)),(2,1,(.t 98))]),rg 100 (.bsl 3 [(.i .i64 0),(.s []),(.i .i64 0)] 1 [(0,(.t 99))])]
 [rg 101 (.app 3 (.t 90) (.t 100)),mv 4 101])))
 (.seq
 (.reg [mv 102 4,mv 103 4,rg 104 (.len (.t 103)),rg 105 (.bin .sub (.t 104) (.c (.i .i64 1))),rg 106 (.iad 3 (.t 102) (.t 105)),rg 107 (.load (some 3) (.t 106)),rg 9 (.alloc [(.i .i64 0),(.s []),(.i .i64 0)]),so (.store 3 (.t 9) (.t 107))])
 (.seq
 (.drawT [rg 108 (.fad 0 (.t 9)),rg 109 (.load none (.t 108)),rg 110 (.bin .eql (.t 109) (.c (.i .i64 0))),mv 111 110,gd 112 111 false (.fad 1 (.t 9)),gd 113 111 false (.load none (.t 112)),gd 114 111 false (.lens (.t 113)),gd 115 111 false (.fad 0 (.t 9)),gd 116 111 false (.load none (.t 115)),gd 117 111 false (.call 182 [(.t 116)])]
 [gd 118 111 false (.bin .gtr (.t 114) (.t 117)),rg 119 (.pick (.t 111) (.c (.b true)) (.t 118))])
 (.cond (.t 119)
 (.seq
 (.reg [rg 120 (.bsl 3 [(.i .i64 0),(.s []),(.i .i64 0)] 0 []),mv 121 6,mv 2 120,mv 3 121])
 (.pre (.norm false [2,3]) .ret))
 .skip))))))))))
 (.reg [mv 18 6,rg 19 (.bin .add (.t 18) (.c (.i .i64 1))),mv 6 19])))
 (.norm false [0,4,5,6]))
def b168:AX:=
 (.seq
 (.reg [rg 2 (.mov (.c (.sl [] .nl))),rg 3 (.mov (.c (.i .i64 0)))])
 (.seq
 (.seq
 (.reg [mv 10 0,rg 11 (.lens (.t 10)),rg 12 (.bin .gtr (.t 11) (.c (.i .i64 4000)))])
 (.cond (.t 12)
 (.seq
 (.reg [rg 13 (.bsl 3 [(.i .i64 0),(.s []),(.i .i64 0)] 0 []),mv 2 13,rg 3 (.mov (.c (.i .i64 4000)))])
 (.pre (.norm false [2,3]) .ret))
 .skip))
 (.seq
 (.note (.reg [rg 4 (.mov (.c (.sl [] .nl)))]) (.nil 4 3))
 (.seq
 (.reg [rg 5 (.mov (.c (.b false)))])
 (.seq
 (.seq
 (.reg [rg 6 (.mov (.c (.i .i64 0)))])
 (.lp 0 (.norm false [0,4,5,6]) l168_0 (.norm false [4])))
 (.seq
 (.reg [mv 122 4,mv 2 122,rg 3 (.mov (.c (.i .i64 (-1))))])
 (.pre (.norm false [2,3]) .ret)))))))
def b173:AX:=
 (.seq
 (.reg [rg 1 (.xop (.box 3) [(.t 0)]),rg 2 (.mov (.c (.b false)))])
 (.seq
 (.reg [rg 6 (.fad 1 (.t 1)),rg 7 (.load none (.t 6)),rg 8 (.call 168 [(.t 7)]),mv 5 8,rg 9 (.ext (.t 5) 0),rg 10 (.ext (.t 5) 1),mv 3 9,mv 4 10])
 (.seq
 (.drawT [mv 11 4,rg 12 (.bin .lss (.t 11) (.c (.i .i64 0))),mv 13 12,gd 14 13 true (.mov (.t 3)),gd 15 13 true (.len (.t 14)),gd 16 13 true (.bin .eql (.t 15) (.c (.i .i64 1))),rg 17 (.pick (.t 13) (.t 16) (.c (.b false))),mv 18 17,gd 19 18 true (.mov (.t 3)),gd 20 18 true (.iad 3 (.t 19) (.c (.i .i64 0))),gd 21 18 true (.fad 0 (.t 20)),gd 22 18 true (.load none (.t 21)),gd 23 18 true (.fad 0 (.t 1)),gd 24 18 true (.load none (.t 23)),gd 25 18 true (.bin .eql (.t 22) (.t 24)),rg 26 (.pick (.t 18) (.t 25) (.c (.b false))),mv 27 26,gd 28 27 true (.mov (.t 3)),gd 29 27 true (.iad 3 (.t 28) (.c (.i .i64 0))),gd 30 27 true (.fad 1 (.t 29)),gd 31 27 true (.load none (.t 30)),gd 32 27 true (.fad 1 (.t 1)),gd 33 27 true (.load none (.t 32))]
 [gd 34 27 true (.bin .eql (.t 31) (.t 33)),rg 35 (.pick (.t 27) (.t 34) (.c (.b false))),mv 2 35])
 (.pre (.norm false [2]) .ret))))
def row189:AFx:=⟨1,9,[.t 2],b189,none,false⟩
def row190:AFx:=⟨1,21,[.t 2],b190,none,false⟩
def row181:AFx:=⟨1,20,[.t 2],b181,none,false⟩
def row180:AFx:=⟨2,23,[.t 4],b180,none,false⟩
def row182:AFx:=⟨1,7,[.t 2],b182,none,false⟩
def row168:AFx:=⟨1,123,[.t 2,.t 3],b168,none,false⟩
def row173:AFx:=⟨1,36,[.t 2],b173,none,false⟩
class Zba (T:Tbl):Prop where
 h189:T 189=some row189
 h190:T 190=some row190
 h181:T 181=some row181
 h180:T 180=some row180
 h182:T 182=some row182
 h168:T 168=some row168
 h173:T 173=some row173
section
variable{T:Tbl}[Zba T]{d:Option Nat}{st:St}
@[simp] theorem x189(xs:List AV):Zc (orc T) T 189 xs d st=cP T 189 false xs d st:=zaa Zba.h189
@[simp] theorem x190(xs:List AV):Zc (orc T) T 190 xs d st=cP T 190 false xs d st:=zaa Zba.h190
@[simp] theorem y181{e:Env}{h:Heap}{older:List Heap}(args:List Opd):opD (orc T) T (.call 181 args) e h older=dR (Za T 181 ((args.map (ev e.get)).map (wkIf false))) (args.map (ev e.get)):=zaj Zba.h181
@[simp] theorem x180(xs:List AV):Zc (orc T) T 180 xs d st=cP T 180 false xs d st:=zaa Zba.h180
@[simp] theorem y182{e:Env}{h:Heap}{older:List Heap}(args:List Opd):opD (orc T) T (.call 182 args) e h older=dR (Za T 182 ((args.map (ev e.get)).map (wkIf false))) (args.map (ev e.get)):=zaj Zba.h182
@[simp] theorem x168(xs:List AV):Zc (orc T) T 168 xs d st=cP T 168 false xs d st:=zaa Zba.h168
@[simp] theorem x173(xs:List AV):Zc (orc T) T 173 xs d st=cP T 173 false xs d st:=zaa Zba.h173
end
end Go.Ab
end
section
namespace Go.Ab
def l529_0:AX:=
 (.note
 (.seq
 (.seq
 (.reg [mv 49 4,mv 50 3,rg 51 (.bin .lss (.t 49) (.t 50))])
 (.cond (.t 51)
 .skip
 (.exit 0)))
 (.seq
 (.block 1
 (.seq
 (.reg [rg 54 (.fad 2 (.t 1)),rg 55 (.load none (.t 54)),mv 56 4,rg 57 (.iad 1 (.t 55) (.t 56)),rg 58 (.load none (.t 57)),rg 59 (.len (.t 58)),mv 60 4,rg 61 (.bin .neq (.t 59) (.t 60))])
 (.cond (.t 61)
 (.seq
 (.reg [rg 2 (.mov (.c (.i .i64 2)))])
 (.pre (.norm false [2]) .ret))
 .skip)))
 (.reg [mv 52 4,rg 53 (.bin .add (.t 52) (.c (.i .i64 1))),mv 4 53])))
 (.norm false [1,3,4]))
def l529_1:AX:=
 (.note
 (.seq
 (.seq
 (.reg [mv 62 5,mv 63 3,rg 64 (.bin .lss (.t 62) (.t 63))])
 (.cond (.t 64)
 .skip
 (.exit 2)))
 (.seq
 (.block 3
 (.seq
 (.reg [rg 67 (.fad 2 (.t 1)),rg 68 (.load none (.t 67)),mv 69 5,rg 70 (.iad 1 (.t 68) (.t 69)),rg 71 (.load none (.t 70)),rg 72 (.call 540 [(.t 71)])])
 (.cond (.t 72)
 (.seq
 (.reg [rg 2 (.mov (.c (.i .i64 3)))])
 (.pre (.norm false [2]) .ret))
 .skip)))
 (.reg [mv 65 5,rg 66 (.bin .add (.t 65) (.c (.i .i64 1))),mv 5 66])))
 (.norm false [1,3,5]))
def l529_2:AX:=
 (.note
 (.seq
 (.seq
 (.reg [mv 86 6,mv 87 3,rg 88 (.bin .lss (.t 86) (.t 87))])
 (.cond (.t 88)
 .skip
 (.exit 4)))
 (.seq
 (.block 5
 (.seq
 (.drawT [rg 91 (.fad 2 (.t 1)),rg 92 (.load none (.t 91)),mv 93 6,rg 94 (.iad 1 (.t 92) (.t 93)),rg 95 (.load none (.t 94)),rg 96 (.call 541 [(.t 95)]),rg 97 (.fad 1 (.t 1)),rg 98 (.load none (.t 97)),mv 99 6,rg 100 (.iad 3 (.t 98) (.t 99)),rg 101 (.load (some 3) (.t 100))]
 [rg 102 (.call 233 [(.t 96),(.t 101)]),rg 103 (.un .not (.t 102))])
 (.cond (.t 103)
 (.seq
 (.reg [rg 2 (.mov (.c (.i .i64 4)))])
 (.pre (.norm false [2]) .ret))
 .skip)))
 (.reg [mv 89 6,rg 90 (.bin .add (.t 89) (.c (.i .i64 1))),mv 6 90])))
 (.norm false [1,3,6]))
def b529:AX:=
 (.seq
 (.reg [rg 1 (.xop (.box 5) [(.t 0)]),rg 2 (.mov (.c (.i .i64 0)))])
 (.seq
 (.reg [rg 8 (.fad 3 (.t 1)),rg 9 (.load none (.t 8)),rg 10 (.len (.t 9)),mv 3 10])
 (.seq
 (.seq
 (.reg [rg 11 (.fad 0 (.t 1)),rg 12 (.load none (.t 11)),rg 13 (.build [(.i .i64 0),(.s []),(.i .i64 0)] [(0,1,(.c (.i .i64 2))),(1,1,(.t 12))]),rg 14 (.call 173 [(.t 13)]),rg 15 (.un .not (.t 14))])
 (.cond (.t 15)
 (.seq
 (.reg [rg 2 (.mov (.c (.i .i64 1)))])
 (.pre (.norm false [2]) .ret))
 .skip))
 (.seq
 (.seq
 (.reg [mv 16 3,rg 17 (.bin .lss (.t 16) (.c (.i .i64 1))),mv 18 17,gd 19 18 false (.mov (.t 3)),gd 20 18 false (.bin .gtr (.t 19) (.c (.i .i64 8))),rg 21 (.pick (.t 18) (.c (.b true)) (.t 20)),mv 22 21,gd 23 22 false (.fad 1 (.t 1)),gd 24 22 false (.load none (.t 23)),gd 25 22 false (.len (.t 24)),gd 26 22 false (.mov (.t 3)),gd 27 22 false (.bin .neq (.t 25) (.t 26)),rg 28 (.pick (.t 22) (.c (.b true)) (.t 27)),mv 29 28,gd 30 29 false (.fad 2 (.t 1)),gd 31 29 false (.load none (.t 30)),gd 32 29 false (.len (.t 31)),gd 33 29 false (.mov (.t 3)),gd 34 29 false (.bin .neq (.t 32) (.t 33)),rg 35 (.pick (.t 29) (.c (.b true)) (.t 34)),mv 36 35,gd 37 36 false (.fad 4 (.t 1)),gd 38 36 false (.load none (.t 37)),gd 39 36 false (.len (.t 38)),gd 40 36 false (.bin .neq (.t 39) (.c (.i .i64 0))),gd 41 36 false (.mov (.t 40)),gd 42 41 true (.fad 4 (.t 1)),gd 43 41 true (.load none (.t 42)),gd 44 41 true (.len (.t 43)),gd 45 41 true (.mov (.t 3)),gd 46 41 true (.bin .neq (.t 44) (.t 45)),gd 47 36 false (.pick (.t 41) (.t 46) (.c (.b false))),rg 48 (.pick (.t 36) (.c (.b true)) (.t 47))])
 (.cond (.t 48)
 (.seq
 (.reg [rg 2 (.mov (.c (.i .i64 2)))])
 (.pre (.norm false [2]) .ret))
 .skip))
 (.seq
 (.seq
 (.reg [rg 4 (.mov (.c (.i .i64 0)))])
 (.lp 0 (.norm false [1,3,4]) l529_0 (.norm false [1,3])))
 (.seq
 (.seq
 (.reg [rg 5 (.mov (.c (.i .i64 0)))])
 (.lp 2 (.norm false [1,3,5]) l529_1 (.norm false [1,3])))
 (.seq
 (.seq
 (.reg [rg 73 (.fad 3 (.t 1)),rg 74 (.load none (.t 73)),rg 75 (.call 540 [(.t 74)]),mv 76 75,gd 77 76 false (.fad 1 (.t 1)),gd 78 76 false (.load none (.t 77)),gd 79 76 false (.call 540 [(.t 78)]),rg 80 (.pick (.t 76) (.c (.b true)) (.t 79)),mv 81 80,gd 82 81 false (.fad 4 (.t 1)),gd 83 81 false (.load none (.t 82)),gd 84 81 false (.call 540 [(.t 83)]),rg 85 (.pick (.t 81) (.c (.b true)) (.t 84))])
 (.cond (.t 85)
 (.seq
 (.reg [rg 2 (.mov (.c (.i .i64 3)))])
 (.pre (.norm false [2]) .ret))
 .skip))
 (.seq
 (.seq
 (.reg [rg 6 (.mov (.c (.i .i64 0)))])
 (.lp 4 (.norm false [1,3,6]) l529_2 (.norm false [1])))
 (.seq
 (.reg [rg 104 (.call 232 [(.c (.i .i64 1))]),rg 7 (.alloc [(.b false),(.sl [] .nl),(.sl [] .nl)]),so (.store 3 (.t 7) (.t 104))])
 (.seq
 (.seq
 (.drawT [rg 105 (.fad 3 (.t 1)),rg 106 (.load none (.t 105)),rg 107 (.call 541 [(.t 106)]),rg 108 (.load (some 3) (.t 7))]
 [rg 109 (.call 233 [(.t 107),(.t 108)]),rg 110 (.un .not (.t 109))])
 (.cond (.t 110)
 (.seq
 (.reg [rg 2 (.mov (.c (.i .i64 5)))])
 (.pre (.norm false [2]) .ret))
 .skip))
 (.seq
 (.seq
 (.drawT [rg 111 (.fad 4 (.t 1)),rg 112 (.load none (.t 111)),rg 113 (.len (.t 112)),rg 114 (.bin .gtr (.t 113) (.c (.i .i64 0))),mv 115 114,gd 116 115 true (.fad 4 (.t 1)),gd 117 115 true (.load none (.t 116)),gd 118 115 true (.call 541 [(.t 117)]),gd 119 115 true (.load (some 3) (.t 7))]
 [gd 120 115 true (.call 233 [(.t 118),(.t 119)]),gd 121 115 true (.un .not (.t 120)),rg 122 (.pick (.t 115) (.t 121) (.c (.b false)))])
 (.cond (.t 122)
 (.seq
 (.reg [rg 2 (.mov (.c (.i .i64 6)))])
 (.pre (.norm false [2]) .ret))
 .skip))
 (.seq
 (.reg [rg 2 (.mov (.c (.i .i64 0)))])
 (.pre (.norm false [2]) .ret)))))))))))))
def l540_0:AX:=
 (.note
 (.seq
 (.seq
 (.reg [mv 4 3,mv 5 0,rg 6 (.len (.t 5)),rg 7 (.bin .lss (.t 4) (.t 6))])
 (.cond (.t 7)
 .skip
 (.exit 0)))
 (.seq
 (.block 1
 (.seq
 (.drawT [mv 10 0,mv 11 3,rg 12 (.iad 3 (.t 10) (.t 11)),rg 13 (.load (some 3) (.t 12)),rg 14 (.call 231 [(.t 13)]),mv 15 0,mv 16 3,rg 17 (.iad 3 (.t 15) (.t 16)),rg 18 (.load (some 3) (.t 17)),rg 19 (.call 233 [(.t 14),(.t 18)]),rg 20 (.un .not (.t 19)),mv 21 20,gd 22 21 false (.mov (.t 0)),gd 23 21 false (.mov (.t 3))]
 [gd 24 21 false (.iad 3 (.t 22) (.t 23)),gd 25 21 false (.load (some 3) (.t 24)),gd 26 21 false (.call 245 [(.t 25)]),gd 27 21 false (.bin .gtr (.t 26) (.c (.i .i64 190))),rg 28 (.pick (.t 21) (.c (.b true)) (.t 27))])
 (.cond (.t 28)
 (.seq
 (.reg [rg 2 (.mov (.c (.b true)))])
 (.pre (.norm false [2]) .ret))
 .skip)))
 (.reg [mv 8 3,rg 9 (.bin .add (.t 8) (.c (.i .i64 1))),mv 3 9])))
 (.norm false [0,3]))
def b540:AX:=
 (.seq
 (.reg [rg 2 (.mov (.c (.b false)))])
 (.seq
 (.seq
 (.reg [rg 3 (.mov (.c (.i .i64 0)))])
 (.lp 0 (.norm false [0,3]) l540_0 (.norm false [])))
 (.seq
 (.reg [rg 2 (.mov (.c (.b false)))])
 (.pre (.norm false [2]) .ret))))
def l541_0:AX:=
 (.note
 (.seq
 (.seq
 (.reg [mv 6 4,mv 7 0,rg 8 (.len (.t 7)),rg 9 (.bin .lss (.t 6) (.t 8))])
 (.cond (.t 9)
 .skip
 (.exit 0)))
 (.seq
 (.block 1
 (.drawT [rg 12 (.load (some 3) (.t 3)),mv 13 0,mv 14 4,rg 15 (.iad 3 (.t 13) (.t 14)),rg 16 (.load (some 3) (.t 15))]
 [rg 17 (.call 239 [(.t 12),(.t 16)]),so (.store 3 (.t 3) (.t 17))]))
 (.reg [mv 10 4,rg 11 (.bin .add (.t 10) (.c (.i .i64 1))),mv 4 11])))
 (.norm false [0,2,3,4]))
def b541:AX:=
 (.seq
 (.reg [rg 2 (.alloc [(.b false),(.sl [] .nl),(.sl [] .nl)])])
 (.seq
 (.reg [rg 5 (.call 232 [(.c (.i .i64 0))]),rg 3 (.alloc [(.b false),(.sl [] .nl),(.sl [] .nl)]),so (.store 3 (.t 3) (.t 5))])
 (.seq
 (.seq
 (.reg [rg 4 (.mov (.c (.i .i64 0)))])
 (.lp 0 (.norm false [0,2,3,4]) l541_0 (.norm false [2,3])))
 (.seq
 (.reg [rg 18 (.load (some 3) (.t 3)),so (.store 3 (.t 2) (.t 18))])
 (.pre (.norm false [2]) .ret)))))
def row529:AFx:=⟨1,123,[.t 2],b529,none,false⟩
def row540:AFx:=⟨1,29,[.t 2],b540,none,false⟩
def row541:AFx:=⟨1,19,[.cell 2 (some 3)],b541,none,false⟩
class Zc7 (T:Tbl):Prop where
 h529:T 529=some row529
 h540:T 540=some row540
 h541:T 541=some row541
section
variable{T:Tbl}[Zc7 T]{d:Option Nat}{st:St}{xs:List AV}{ps:List Opd}{e:Env}{h:Heap}{ol:List Heap}
@[simp] theorem x529:Zc (orc T) T 529 xs d st=cP T 529 false xs d st:=zaa Zc7.h529
@[simp] theorem x540:Zc (orc T) T 540 xs d st=cP T 540 false xs d st:=zaa Zc7.h540
@[simp] theorem y541:opD (orc T) T (.call 541 ps) e h ol=dP T 541 false ps e:=zaj Zc7.h541
end
end Go.Ab
end
section
namespace Go.Ab
def b259:AX:=
 (.seq
 (.reg [rg 1 (.xop (.box 3) [(.t 0)]),rg 2 (.mov (.c (.s [])))])
 (.seq
 (.reg [rg 4 (.load (some 3) (.t 1)),rg 5 (.call 234 [(.t 4)]),rg 6 (.call 35 [(.t 5)]),mv 3 6])
 (.seq
 (.seq
 (.reg [rg 7 (.fad 2 (.t 1)),rg 8 (.load none (.t 7)),rg 9 (.call 229 [(.t 8)]),rg 10 (.un .not (.t 9))])
 (.cond (.t 10)
 (.reg [mv 11 3,rg 12 (.fad 2 (.t 1)),rg 13 (.load none (.t 12)),rg 14 (.call 69 [(.t 13)]),rg 15 (.bin .add (.c (.s [47])) (.t 14)),rg 16 (.bin .add (.t 11) (.t 15)),mv 3 16])
 .skip))
 (.seq
 (.reg [mv 17 3,mv 2 17])
 (.pre (.norm false [2]) .ret)))))
def row259:AFx:=⟨1,18,[.t 2],b259,none,false⟩
class Zdt (T:Tbl):Prop where
 h259:T 259=some row259
section
variable{T:Tbl}[Zdt T]{d:Option Nat}{st:St}{xs:List AV}{ps:List Opd}{e:Env}{h:Heap}{ol:List Heap}
@[simp] theorem x259:Zc (orc T) T 259 xs d st=cP T 259 false xs d st:=zaa Zdt.h259
@[simp] theorem y259:opD (orc T) T (.call 259 ps) e h ol=dP T 259 false ps e:=zaj Zdt.h259
end
end Go.Ab
end
section
namespace Go.Ab
class Ze7 (T:Tbl):Prop where
end Go.Ab
end
section
namespace Go.Ab
def prim344:List AV→Option AV
 | [.s s,.s [47,46]]=>if s.length≤1000000 then some (.i .i64 (Lib.indexAny s [47,46])) else none
 | _=>none
def prim194:List AV→Option AV
 | [.s s,.s [c]]=>some (.i .i64 (Lib.indexByte s c))
 | _=>none
def prim361:List AV→Option AV
 | [.s s,.s [c]]=>some (.i .i64 (Lib.countByte s c))
 | _=>none
def prim343:List AV→Option AV
 | [.s [48],.i .i64 n]=>if 0≤n∧n≤64 then some (.s (List.replicate n.toNat 48)) else none
 | _=>none
end Go.Ab
end
section
namespace Go.Ab
def row344:AFx:=⟨0,0,[],.prim prim344,none,false⟩
def row194:AFx:=⟨0,0,[],.prim prim194,none,false⟩
def row361:AFx:=⟨0,0,[],.prim prim361,none,false⟩
class Zc8 (T:Tbl):Prop where
 h344:T 344=some row344
 h194:T 194=some row194
 h361:T 361=some row361
section
variable{T:Tbl}[Zc8 T]{d:Option Nat}{st:St}{xs:List AV}{ps:List Opd}{e:Env}{h:Heap}{ol:List Heap}
@[simp] theorem x344:Zc (orc T) T 344 xs d st=cP T 344 false xs d st:=zaa Zc8.h344
theorem p344(xs:List AV):Za T 344 xs=prim344 xs:=zb1 Zc8.h344
@[simp] theorem x194:Zc (orc T) T 194 xs d st=cP T 194 false xs d st:=zaa Zc8.h194
theorem p194(xs:List AV):Za T 194 xs=prim194 xs:=zb1 Zc8.h194
@[simp] theorem x361:Zc (orc T) T 361 xs d st=cP T 361 false xs d st:=zaa Zc8.h361
theorem p361(xs:List AV):Za T 361 xs=prim361 xs:=zb1 Zc8.h361
end
end Go.Ab
end
section
namespace Go.Ab
def b346:AX:=
 (.seq
 (.reg [rg 4 (.mov (.c (.sl [] .nl)))])
 (.seq
 (.reg [mv 5 0,mv 6 1,rg 7 (.call 354 [(.t 5),(.t 6),(.c (.i .i64 0)),(.c (.i .i64 (-1)))]),mv 4 7])
 (.pre (.norm false [4]) .ret)))
def l354_0:AX:=
 (.note
 (.seq
 (.seq
 (.reg [mv 34 10,mv 35 3,rg 36 (.bin .lss (.t 34) (.t 35))])
 (.cond (.t 36)
 .skip
 (.exit 0)))
 (.block 1
 (.seq
 (.reg [mv 37 0,mv 38 1,rg 39 (.call 362 [(.t 37),(.t 38)]),mv 11 39])
 (.seq
 (.seq
 (.reg [mv 40 11,rg 41 (.bin .lss (.t 40) (.c (.i .i64 0)))])
 (.cond (.t 41)
 (.exit 0)
 .skip))
 (.seq
 (.reg [mv 42 9,mv 43 10,mv 44 0,mv 45 11,mv 46 2,rg 47 (.bin .add (.t 45) (.t 46)),rg 48 (.slstr (.t 44) none (some (.t 47))),rg 49 (.iad 1 (.t 42) (.t 43)),so (.store 1 (.t 49) (.t 48))])
 (.seq
 (.reg [mv 50 0,mv 51 11,mv 52 1,rg 53 (.lens (.t 52)),rg 54 (.bin .add (.t 51) (.t 53)),rg 55 (.slstr (.t 50) (some (.t 54)) none),mv 0 55])
 (.reg [mv 56 10,rg 57 (.bin .add (.t 56) (.c (.i .i64 1))),mv 10 57])))))))
 (.norm false [0,1,2,3,9,10]))
def b354:AX:=
 (.seq
 (.reg [rg 8 (.mov (.c (.sl [] .nl)))])
 (.seq
 (.seq
 (.reg [mv 12 3,rg 13 (.bin .eql (.t 12) (.c (.i .i64 0)))])
 (.cond (.t 13)
 (.seq
 (.reg [rg 8 (.mov (.c (.sl [] .nl)))])
 (.pre (.norm false [8]) .ret))
 .skip))
 (.seq
 (.seq
 (.reg [mv 14 1,rg 15 (.bin .eql (.t 14) (.c (.s [])))])
 (.cond (.t 15)
 (.seq
 (.reg [mv 16 0,mv 17 3,rg 18 (.call 360 [(.t 16),(.t 17)]),mv 8 18])
 (.pre (.norm false [8]) .ret))
 .skip))
 (.seq
 (.seq
 (.reg [mv 19 3,rg 20 (.bin .lss (.t 19) (.c (.i .i64 0)))])
 (.cond (.t 20)
 (.reg [mv 21 0,mv 22 1,rg 23 (.call 361 [(.t 21),(.t 22)]),rg 24 (.bin .add (.t 23) (.c (.i .i64 1))),mv 3 24])
 .skip))
 (.seq
 (.reg [mv 25 3,mv 26 0,rg 27 (.lens (.t 26)),rg 28 (.bin .add (.t 27) (.c (.i .i64 1))),rg 29 (.mm false [(.t 25),(.t 28)]),mv 3 29])
 (.seq
 (.reg [mv 30 3,rg 31 (.mks 1 [(.s [])] (.t 30) (.t 30)),mv 9 31])
 (.seq
 (.reg [mv 32 3,rg 33 (.bin .sub (.t 32) (.c (.i .i64 1))),mv 3 33])
 (.seq
 (.reg [rg 10 (.mov (.c (.i .i64 0)))])
 (.seq
 (.lp 0 (.norm false [0,1,2,3,9,10]) l354_0 (.norm false [0,9,10]))
 (.seq
 (.reg [mv 58 9,mv 59 10,mv 60 0,rg 61 (.iad 1 (.t 58) (.t 59)),so (.store 1 (.t 61) (.t 60))])
 (.seq
 (.reg [mv 62 9,mv 63 10,rg 64 (.bin .add (.t 63) (.c (.i .i64 1))),rg 65 (.slc 1 (.t 62) none (some (.t 64)) none),mv 8 65])
 (.pre (.norm false [8]) .ret))))))))))))
def b362:AX:=
 (.seq
 (.reg [rg 4 (.mov (.c (.i .i64 0)))])
 (.seq
 (.reg [mv 5 0,mv 6 1,rg 7 (.call 194 [(.t 5),(.t 6)]),mv 4 7])
 (.pre (.norm false [4]) .ret)))
def b345:AX:=
 (.seq
 (.reg [rg 4 (.mov (.c (.b false)))])
 (.seq
 (.reg [mv 5 0,mv 6 1,rg 7 (.call 123 [(.t 5),(.t 6)]),mv 4 7])
 (.pre (.norm false [4]) .ret)))
def row346:AFx:=⟨2,8,[.t 4],b346,none,false⟩
def row354:AFx:=⟨4,66,[.t 8],b354,none,false⟩
def row362:AFx:=⟨2,8,[.t 4],b362,none,false⟩
def row345:AFx:=⟨2,8,[.t 4],b345,none,false⟩
class Zaw (T:Tbl):Prop where
 h346:T 346=some row346
 h354:T 354=some row354
 h362:T 362=some row362
 h345:T 345=some row345
section
variable{T:Tbl}[Zaw T]{d:Option Nat}{st:St}{xs:List AV}{ps:List Opd}{e:Env}{h:Heap}{ol:List Heap}
@[simp] theorem x346:Zc (orc T) T 346 xs d st=cP T 346 false xs d st:=zaa Zaw.h346
@[simp] theorem x354:Zc (orc T) T 354 xs d st=cP T 354 false xs d st:=zaa Zaw.h354
@[simp] theorem x362:Zc (orc T) T 362 xs d st=cP T 362 false xs d st:=zaa Zaw.h362
@[simp] theorem y345:opD (orc T) T (.call 345 ps) e h ol=dP T 345 false ps e:=zaj Zaw.h345
end
end Go.Ab
end
section
namespace Go.Ab
def b252:AX:=
 (.seq
 (.reg [rg 2 (.mov (.c (.sl [] .nl)))])
 (.seq
 (.reg [rg 6 (.call 72 [(.c (u64 10))]),mv 7 0,rg 8 (.call 258 [(.t 6),(.t 7)]),mv 5 8,rg 9 (.ext (.t 5) 0),rg 10 (.ext (.t 5) 1),mv 3 9,mv 4 10])
 (.seq
 (.reg [mv 11 3,mv 2 11])
 (.pre (.norm false [2]) .ret))))
def b253:AX:=
 (.seq
 (.reg [rg 4 (.mov (.c (.sl [] .nl))),rg 5 (.alloc [(.i .i64 0),(.i .i64 0),(.i .i64 0),(.i .i64 0)])])
 (.seq
 (.reg [mv 9 0,mv 10 1,rg 11 (.slstr (.t 9) (some (.t 10)) none),rg 12 (.call 65 [(.t 11)]),mv 8 12,rg 13 (.ext (.t 8) 0),rg 14 (.ext (.t 8) 1),rg 7 (.alloc [(.i .i64 0),(.i .i64 0),(.i .i64 0),(.i .i64 0)]),mv 6 13,so (.store 4 (.t 7) (.t 14))])
 (.seq
 (.seq
 (.reg [rg 15 (.load (some 4) (.t 7)),rg 16 (.build [(.i .i64 0),(.i .i64 0),(.i .i64 0),(.i .i64 0)] []),rg 17 (.eqs true [(0,.int),(1,.int),(2,.int),(3,.int)] (.t 15) (.t 16))])
 (.cond (.t 17)
 (.reg [rg 18 (.fad 3 (.t 7)),rg 19 (.load none (.t 18)),mv 20 1,rg 21 (.bin .add (.t 19) (.t 20)),rg 22 (.fad 3 (.t 7)),so (.store 1 (.t 22) (.t 21))])
 .skip))
 (.seq
 (.drawT [mv 23 6,rg 24 (.load (some 4) (.t 7)),mv 4 23]
 [so (.store 4 (.t 5) (.t 24))])
 (.pre (.norm false [4,5]) .ret)))))
def b254:AX:=
 (.seq
 (.reg [rg 3 (.xop (.box 2) [(.t 0)]),rg 6 (.alloc [(.b false),(.sl [] .nl),(.sl [] .nl)]),rg 7 (.alloc [(.i .i64 0),(.i .i64 0),(.i .i64 0),(.i .i64 0)])])
 (.seq
 (.reg [mv 13 1,mv 14 2,rg 15 (.call 253 [(.t 13),(.t 14)]),mv 12 15,rg 16 (.ext (.t 12) 0),rg 17 (.ext (.t 12) 1),rg 9 (.alloc [(.i .i64 0),(.i .i64 0),(.i .i64 0),(.i .i64 0)]),mv 8 16,so (.store 4 (.t 9) (.t 17))])
 (.seq
 (.seq
 (.reg [rg 18 (.load (some 4) (.t 9)),rg 19 (.build [(.i .i64 0),(.i .i64 0),(.i .i64 0),(.i .i64 0)] []),rg 20 (.eqs true [(0,.int),(1,.int),(2,.int),(3,.int)] (.t 18) (.t 19))])
 (.cond (.t 20)
 (.seq
 (.draw [⟨rg 21 (.call 205 [(.c (.i .i64 0))]),0,0⟩,⟨rg 22 (.load (some 4) (.t 9)),0,1⟩,⟨so (.store 3 (.t 6) (.t 21)),0,1⟩,⟨so (.store 4 (.t 7) (.t 22)),1,2⟩])
 (.pre (.norm false [6,7]) .ret))
 .skip))
 (.seq
 (.reg [rg 24 (.load (some 2) (.t 3)),mv 25 8,rg 26 (.call 204 [(.t 24),(.t 25)]),mv 23 26,rg 27 (.ext (.t 23) 0),rg 28 (.ext (.t 23) 1),rg 10 (.alloc [(.b false),(.sl [] .nl),(.sl [] .nl)]),so (.store 3 (.t 10) (.t 27)),mv 11 28])
 (.seq
 (.seq
 (.reg [mv 29 11,rg 30 (.un .not (.t 29))])
 (.cond (.t 30)
 (.seq
 (.reg [rg 31 (.load (some 3) (.t 10)),mv 32 2,rg 33 (.build [(.i .i64 0),(.i .i64 0),(.i .i64 0),(.i .i64 0)] [(0,1,(.c (.i .i64 2))),(3,1,(.t 32))]),so (.store 3 (.t 6) (.t 31)),so (.store 4 (.t 7) (.t 33))])
 (.pre (.norm false [6,7]) .ret))
 .skip))
 (.seq
 (.reg [rg 34 (.load (some 3) (.t 10)),rg 35 (.build [(.i .i64 0),(.i .i64 0),(.i .i64 0),(.i .i64 0)] []),so (.store 3 (.t 6) (.t 34)),so (.store 4 (.t 7) (.t 35))])
 (.pre (.norm false [6,7]) .ret)))))))
def b255:AX:=
 (.seq
 (.reg [rg 4 (.xop (.box 2) [(.t 0)]),rg 8 (.alloc [(.b false),(.sl [] .nl),(.sl [] .nl)]),rg 9 (.alloc [(.i .i64 0),(.i .i64 0),(.i .i64 0),(.i .i64 0)])])
 (.seq
 (.reg [mv 17 2,mv 18 3,rg 19 (.call 253 [(.t 17),(.t 18)]),mv 16 19,rg 20 (.ext (.t 16) 0),rg 21 (.ext (.t 16) 1),rg 11 (.alloc [(.i .i64 0),(.i .i64 0),(.i .i64 0),(.i .i64 0)]),mv 10 20,so (.store 4 (.t 11) (.t 21))])
 (.seq
 (.seq
 (.reg [rg 22 (.load (some 4) (.t 11)),rg 23 (.build [(.i .i64 0),(.i .i64 0),(.i .i64 0),(.i .i64 0)] []),rg 24 (.eqs true [(0,.int),(1,.int),(2,.int),(3,.int)] (.t 22) (.t 23))])
 (.cond (.t 24)
 (.seq
 (.draw [⟨rg 25 (.call 205 [(.c (.i .i64 0))]),0,0⟩,⟨rg 26 (.load (some 4) (.t 11)),0,1⟩,⟨so (.store 3 (.t 8) (.t 25)),0,1⟩,⟨so (.store 4 (.t 9) (.t 26)),1,2⟩])
 (.pre (.norm false [8,9]) .ret))
 .skip))
 (.seq
 (.reg [mv 27 2,rg 28 (.lens (.t 27)),mv 29 3,rg 30 (.bin .sub (.t 28) (.t 29)),rg 31 (.call 252 [(.t 30)]),mv 12 31])
 (.seq
 (.reg [rg 32 (.fad 1 (.t 4)),rg 33 (.load none (.t 32)),mv 34 12,rg 35 (.call 60 [(.t 33),(.t 34)]),mv 36 10,rg 37 (.bsl 1 [(.sl [] .nl)] 2 [(0,(.t 35)),(1,(.t 36))]),rg 38 (.call 56 [(.t 37)]),mv 13 38])
 (.seq
 (.reg [mv 40 1,mv 41 13,rg 42 (.build [(.b false),(.sl [] .nl)] [(0,1,(.t 40)),(1,1,(.t 41))]),mv 43 12,rg 44 (.call 204 [(.t 42),(.t 43)]),mv 39 44,rg 45 (.ext (.t 39) 0),rg 46 (.ext (.t 39) 1),rg 14 (.alloc [(.b false),(.sl [] .nl),(.sl [] .nl)]),so (.store 3 (.t 14) (.t 45)),mv 15 46])
 (.seq
 (.reg [rg 47 (.load (some 3) (.t 14)),rg 48 (.build [(.i .i64 0),(.i .i64 0),(.i .i64 0),(.i .i64 0)] []),so (.store 3 (.t 8) (.t 47)),so (.store 4 (.t 9) (.t 48))])
 (.pre (.norm false [8,9]) .ret))))))))
def b256:AX:=
 (.seq
 (.reg [rg 2 (.alloc [(.b false),(.sl [] .nl),(.sl [] .nl)]),rg 3 (.alloc [(.i .i64 0),(.i .i64 0),(.i .i64 0),(.i .i64 0)])])
 (.seq
 (.reg [mv 10 0,rg 11 (.call 344 [(.t 10),(.c (.s [47,46]))]),mv 4 11])
 (.seq
 (.reg [mv 12 0,mv 5 12])
 (.seq
 (.seq
 (.reg [mv 13 4,rg 14 (.bin .geq (.t 13) (.c (.i .i64 0)))])
 (.cond (.t 14)
 (.reg [mv 15 0,mv 16 4,rg 17 (.slstr (.t 15) none (some (.t 16))),mv 5 17])
 .skip))
 (.seq
 (.reg [mv 19 5,rg 20 (.call 32 [(.t 19)]),mv 18 20,rg 21 (.ext (.t 18) 0),rg 22 (.ext (.t 18) 1),rg 6 (.alloc [(.b false),(.sl [] .nl)]),rg 7 (.alloc [(.i .i64 0),(.i .i64 0),(.i .i64 0),(.i .i64 0)]),so (.store 2 (.t 6) (.t 21)),so (.store 4 (.t 7) (.t 22))])
 (.seq
 (.block 0
 (.seq
 (.reg [rg 24 (.load (some 4) (.t 7)),rg 25 (.build [(.i .i64 0),(.i .i64 0),(.i .i64 0),(.i .i64 0)] []),rg 26 (.eqs true [(0,.int),(1,.int),(2,.int),(3,.int)] (.t 24) (.t 25)),mv 23 26])
 (.cond (.t 23)
 (.seq
 (.draw [⟨rg 27 (.call 205 [(.c (.i .i64 0))]),0,0⟩,⟨rg 28 (.load (some 4) (.t 7)),0,1⟩,⟨so (.store 3 (.t 2) (.t 27)),0,1⟩,⟨so (.store 4 (.t 3) (.t 28)),1,2⟩])
 (.pre (.norm false [2,3]) .ret))
 (.seq
 (.reg [mv 30 4,rg 31 (.bin .lss (.t 30) (.c (.i .i64 0))),mv 29 31])
 (.cond (.t 29)
 (.seq
 (.draw [⟨rg 33 (.load (some 2) (.t 6)),0,1⟩,⟨rg 34 (.call 72 [(.c (u64 1))]),0,1⟩,⟨rg 35 (.call 204 [(.t 33),(.t 34)]),0,1⟩,⟨mv 32 35,0,1⟩,⟨rg 36 (.ext (.t 32) 0),0,1⟩,⟨rg 37 (.ext (.t 32) 1),0,2⟩,⟨rg 8 (.alloc [(.b false),(.sl [] .nl),(.sl [] .nl)]),0,1⟩,⟨so (.store 3 (.t 8) (.t 36)),1,2⟩,⟨mv 9 37,2,2⟩])
 (.seq
 (.reg [rg 38 (.load (some 3) (.t 8)),rg 39 (.build [(.i .i64 0),(.i .i64 0),(.i .i64 0),(.i .i64 0)] []),so (.store 3 (.t 2) (.t 38)),so (.store 4 (.t 3) (.t 39))])
 (.pre (.norm false [2,3]) .ret)))
 (.seq
 (.reg [mv 41 0,mv 42 4,rg 43 (.ixs (.t 41) (.t 42)),rg 44 (.bin .eql (.t 43) (.c (u8 47))),mv 40 44])
 (.cond (.t 40)
 (.seq
 (.reg [rg 45 (.load (some 2) (.t 6)),mv 46 0,mv 47 4,rg 48 (.bin .add (.t 47) (.c (.i .i64 1))),rg 49 (.call 254 [(.t 45),(.t 46),(.t 48)]),rg 50 (.ext (.t 49) 0),rg 51 (.ext (.t 49) 1),so (.store 3 (.t 2) (.t 50)),so (.store 4 (.t 3) (.t 51))])
 (.pre (.norm false [2,3]) .ret))
 .skip)))))))
 (.seq
 (.drawT [rg 52 (.load (some 2) (.t 6)),mv 53 0,rg 54 (.call 345 [(.t 53),(.c (.s [45]))]),mv 55 0,mv 56 4,rg 57 (.bin .add (.t 56) (.c (.i .i64 1))),rg 58 (.call 255 [(.t 52),(.t 54),(.t 55),(.t 57)]),rg 59 (.ext (.t 58) 0),rg 60 (.ext (.t 58) 1)]
 [so (.store 3 (.t 2) (.t 59)),so (.store 4 (.t 3) (.t 60))])
 (.pre (.norm false [2,3]) .ret))))))))
def row252:AFx:=⟨1,12,[.t 2],b252,none,false⟩
def row253:AFx:=⟨2,25,[.t 4,.cell 5 (some 4)],b253,none,false⟩
def row254:AFx:=⟨3,36,[.cell 6 (some 3),.cell 7 (some 4)],b254,none,false⟩
def row255:AFx:=⟨4,49,[.cell 8 (some 3),.cell 9 (some 4)],b255,none,false⟩
def row256:AFx:=⟨1,61,[.cell 2 (some 3),.cell 3 (some 4)],b256,none,false⟩
class Zc6 (T:Tbl):Prop where
 h252:T 252=some row252
 h253:T 253=some row253
 h254:T 254=some row254
 h255:T 255=some row255
 h256:T 256=some row256
section
variable{T:Tbl}[Zc6 T]{d:Option Nat}{st:St}{xs:List AV}{ps:List Opd}{e:Env}{h:Heap}{ol:List Heap}
@[simp] theorem x252:Zc (orc T) T 252 xs d st=cP T 252 false xs d st:=zaa Zc6.h252
@[simp] theorem x253:Zc (orc T) T 253 xs d st=cP T 253 false xs d st:=zaa Zc6.h253
@[simp] theorem x254:Zc (orc T) T 254 xs d st=cP T 254 false xs d st:=zaa Zc6.h254
@[simp] theorem y255:opD (orc T) T (.call 255 ps) e h ol=dP T 255 false ps e:=zaj Zc6.h255
@[simp] theorem x256:Zc (orc T) T 256 xs d st=cP T 256 false xs d st:=zaa Zc6.h256
end
end Go.Ab
end
section
namespace Go.Ab
def l275_0:AX:=
 (.note
 (.seq
 (.reg [rg 17 (.bin .lss (.t 16) (.t 15))])
 (.seq
 (.cond (.t 17)
 .skip
 (.exit 0))
 (.seq
 (.block 1
 (.seq
 (.reg [rg 18 (.iad 1 (.t 14) (.t 16)),rg 19 (.load none (.t 18)),mv 7 19])
 (.seq
 (.reg [mv 21 7,rg 22 (.call 256 [(.t 21)]),mv 20 22,rg 23 (.ext (.t 20) 0),rg 24 (.ext (.t 20) 1),rg 8 (.alloc [(.b false),(.sl [] .nl),(.sl [] .nl)]),rg 9 (.alloc [(.i .i64 0),(.i .i64 0),(.i .i64 0),(.i .i64 0)]),so (.store 3 (.t 8) (.t 23)),so (.store 4 (.t 9) (.t 24))])
 (.seq
 (.seq
 (.reg [rg 25 (.load (some 4) (.t 9)),rg 26 (.build [(.i .i64 0),(.i .i64 0),(.i .i64 0),(.i .i64 0)] []),rg 27 (.eqs true [(0,.int),(1,.int),(2,.int),(3,.int)] (.t 25) (.t 26))])
 (.cond (.t 27)
 (.seq
 (.reg [rg 28 (.fad 3 (.t 9)),rg 29 (.load none (.t 28)),mv 30 5,rg 31 (.bin .add (.t 29) (.t 30)),rg 32 (.fad 3 (.t 9)),so (.store 1 (.t 32) (.t 31))])
 (.seq
 (.drawT [rg 33 (.load (some 4) (.t 9)),rg 2 (.mov (.c (.sl [] .nl)))]
 [so (.store 4 (.t 3) (.t 33))])
 (.pre (.norm false [2,3]) .ret)))
 .skip))
 (.seq
 (.reg [mv 34 4,rg 35 (.load (some 3) (.t 8)),rg 36 (.bsl 3 [(.b false),(.sl [] .nl),(.sl [] .nl)] 1 [(0,(.t 35))]),rg 37 (.app 3 (.t 34) (.t 36)),mv 4 37])
 (.reg [mv 38 5,mv 39 7,rg 40 (.lens (.t 39)),rg 41 (.bin .add (.t 40) (.c (.i .i64 1))),rg 42 (.bin .add (.t 38) (.t 41)),mv 5 42]))))))
 (.reg [rg 43 (.bin .add (.t 16) (.c (.i .i64 1))),mv 16 43]))))
 (.norm false [3,4,5,14,15,16]))
def b275:AX:=
 (.seq
 (.reg [rg 2 (.mov (.c (.sl [] .nl))),rg 3 (.alloc [(.i .i64 0),(.i .i64 0),(.i .i64 0),(.i .i64 0)])])
 (.seq
 (.seq
 (.reg [mv 10 0,rg 11 (.bin .eql (.t 10) (.c (.s [])))])
 (.cond (.t 11)
 (.seq
 (.reg [rg 12 (.build [(.i .i64 0),(.i .i64 0),(.i .i64 0),(.i .i64 0)] []),rg 2 (.mov (.c (.sl [] .nl))),so (.store 4 (.t 3) (.t 12))])
 (.pre (.norm false [2,3]) .ret))
 .skip))
 (.seq
 (.note (.reg [rg 4 (.mov (.c (.sl [] .nl)))]) (.nil 4 3))
 (.seq
 (.reg [rg 5 (.mov (.c (.i .i64 0)))])
 (.seq
 (.seq
 (.reg [mv 13 0,rg 14 (.call 346 [(.t 13),(.c (.s [44]))]),rg 15 (.len (.t 14)),rg 16 (.mov (.c (.i .i64 0)))])
 (.lp 0 (.norm false [3,4,5,14,15,16]) l275_0 (.norm false [3,4])))
 (.seq
 (.reg [mv 44 4,rg 45 (.build [(.i .i64 0),(.i .i64 0),(.i .i64 0),(.i .i64 0)] []),mv 2 44,so (.store 4 (.t 3) (.t 45))])
 (.pre (.norm false [2,3]) .ret)))))))
def row275:AFx:=⟨1,46,[.t 2,.cell 3 (some 4)],b275,none,false⟩
class Zdb (T:Tbl):Prop where
 h275:T 275=some row275
section
variable{T:Tbl}[Zdb T]{d:Option Nat}{st:St}{xs:List AV}{ps:List Opd}{e:Env}{h:Heap}{ol:List Heap}
@[simp] theorem x275:Zc (orc T) T 275 xs d st=cP T 275 false xs d st:=zaa Zdb.h275
end
end Go.Ab
end
section
namespace Go.Ab
def b268:AX:=
 (.seq
 (.reg [rg 4 (.mov (.c (.sl [] .nl))),rg 5 (.mov (.c (.b false)))])
 (.seq
 (.reg [mv 6 0,rg 7 (.call 205 [(.c (.i .i64 (-1)))]),mv 8 1,rg 9 (.call 269 [(.t 7),(.t 8)]),rg 10 (.bsl 1 [(.sl [] .nl)] 2 [(0,(.t 6)),(1,(.t 9))]),rg 11 (.call 267 [(.t 10)]),rg 12 (.ext (.t 11) 0),rg 13 (.ext (.t 11) 1),mv 4 12,mv 5 13])
 (.pre (.norm false [4,5]) .ret)))
def row268:AFx:=⟨2,14,[.t 4,.t 5],b268,none,false⟩
class Zem (T:Tbl):Prop where
 h268:T 268=some row268
section
variable{T:Tbl}[Zem T]{d:Option Nat}{st:St}{xs:List AV}{ps:List Opd}{e:Env}{h:Heap}{ol:List Heap}
@[simp] theorem x268:Zc (orc T) T 268 xs d st=cP T 268 false xs d st:=zaa Zem.h268
end
end Go.Ab
end
section
namespace Go.Ab
def b555:AX:=
 (.seq
 (.reg [rg 1 (.xop (.box 5) [(.t 0)]),rg 2 (.mov (.c (.sl [] .nl)))])
 (.seq
 (.seq
 (.reg [rg 5 (.load (some 5) (.t 1)),rg 6 (.call 536 [(.t 5)]),rg 7 (.un .not (.t 6)),mv 8 7,gd 9 8 false (.fad 4 (.t 1)),gd 10 8 false (.load none (.t 9)),gd 11 8 false (.len (.t 10)),gd 12 8 false (.bin .eql (.t 11) (.c (.i .i64 0))),rg 13 (.pick (.t 8) (.c (.b true)) (.t 12))])
 (.cond (.t 13)
 (.seq
 (.reg [rg 2 (.mov (.c (.sl [] .nl)))])
 (.pre (.norm false [2]) .ret))
 .skip))
 (.seq
 (.reg [rg 15 (.fad 3 (.t 1)),rg 16 (.load none (.t 15)),rg 17 (.fad 4 (.t 1)),rg 18 (.load none (.t 17)),rg 19 (.call 268 [(.t 16),(.t 18)]),mv 14 19,rg 20 (.ext (.t 14) 0),rg 21 (.ext (.t 14) 1),mv 3 20,mv 4 21])
 (.seq
 (.reg [mv 22 3,mv 2 22])
 (.pre (.norm false [2]) .ret)))))
def l598_0:AX:=
 (.note
 (.seq
 (.reg [rg 49 (.bin .lss (.t 48) (.t 47))])
 (.seq
 (.cond (.t 49)
 .skip
 (.exit 0))
 (.seq
 (.block 1
 (.seq
 (.reg [mv 50 48,rg 51 (.iad 1 (.t 46) (.t 48)),rg 52 (.load none (.t 51)),mv 5 50,mv 6 52])
 (.seq
 (.reg [mv 53 6,rg 54 (.fad 2 (.t 3)),rg 55 (.load none (.t 54)),mv 56 5,rg 57 (.iad 1 (.t 55) (.t 56)),rg 58 (.load none (.t 57)),rg 59 (.call 265 [(.t 53),(.t 58)]),rg 60 (.un .not (.t 59))])
 (.cond (.t 60)
 (.seq
 (.reg [rg 4 (.mov (.c (.b false)))])
 (.pre (.norm false [4]) .ret))
 .skip))))
 (.reg [rg 61 (.bin .add (.t 48) (.c (.i .i64 1))),mv 48 61]))))
 (.norm false [3,46,47,48]))
def b598:AX:=
 (.seq
 (.reg [rg 2 (.xop (.box 5) [(.t 0)]),rg 3 (.xop (.box 5) [(.t 1)]),rg 4 (.mov (.c (.b false)))])
 (.seq
 (.seq
 (.reg [rg 7 (.fad 0 (.t 2)),rg 8 (.load none (.t 7)),rg 9 (.fad 0 (.t 3)),rg 10 (.load none (.t 9)),rg 11 (.bin .neq (.t 8) (.t 10)),mv 12 11,gd 13 12 false (.fad 2 (.t 2)),gd 14 12 false (.load none (.t 13)),gd 15 12 false (.len (.t 14)),gd 16 12 false (.fad 2 (.t 3)),gd 17 12 false (.load none (.t 16)),gd 18 12 false (.len (.t 17)),gd 19 12 false (.bin .neq (.t 15) (.t 18)),rg 20 (.pick (.t 12) (.c (.b true)) (.t 19)),mv 21 20,gd 22 21 false (.fad 3 (.t 2)),gd 23 21 false (.load none (.t 22)),gd 24 21 false (.fad 3 (.t 3)),gd 25 21 false (.load none (.t 24)),gd 26 21 false (.call 265 [(.t 23),(.t 25)]),gd 27 21 false (.un .not (.t 26)),rg 28 (.pick (.t 21) (.c (.b true)) (.t 27)),mv 29 28,gd 30 29 false (.fad 1 (.t 2)),gd 31 29 false (.load none (.t 30)),gd 32 29 false (.fad 1 (.t 3)),gd 33 29 false (.load none (.t 32)),gd 34 29 false (.call 265 [(.t 31),(.t 33)]),gd 35 29 false (.un .not (.t 34)),rg 36 (.pick (.t 29) (.c (.b true)) (.t 35)),mv 37 36,gd 38 37 false (.fad 4 (.t 2)),gd 39 37 false (.load none (.t 38)),gd 40 37 false (.fad 4 (.t 3)),gd 41 37 false (.load none (.t 40)),gd 42 37 false (.call 265 [(.t 39),(.t 41)]),gd 43 37 false (.un .not (.t 42)),rg 44 (.pick (.t 37) (.c (.b true)) (.t 43))])
 (.cond (.t 44)
 (.seq
 (.reg [rg 4 (.mov (.c (.b false)))])
 (.pre (.norm false [4]) .ret))
 .skip))
 (.seq
 (.seq
 (.reg [rg 45 (.fad 2 (.t 2)),rg 46 (.load none (.t 45)),rg 47 (.len (.t 46)),rg 48 (.mov (.c (.i .i64 0)))])
 (.lp 0 (.norm false [3,46,47,48]) l598_0 (.norm false [])))
 (.seq
 (.reg [rg 4 (.mov (.c (.b true)))])
 (.pre (.norm false [4]) .ret)))))
def b601:AX:=
 (.seq
 (.reg [rg 1 (.xop (.box 5) [(.t 0)]),rg 2 (.mov (.c (.b false)))])
 (.seq
 (.seq
 (.reg [rg 4 (.load (some 5) (.t 1)),rg 5 (.call 536 [(.t 4)]),rg 6 (.un .not (.t 5))])
 (.cond (.t 6)
 (.seq
 (.reg [rg 2 (.mov (.c (.b false)))])
 (.pre (.norm false [2]) .ret))
 .skip))
 (.seq
 (.reg [rg 7 (.fad 3 (.t 1)),rg 8 (.load none (.t 7)),rg 9 (.len (.t 8)),rg 10 (.bin .sub (.t 9) (.c (.i .i64 1))),mv 3 10])
 (.seq
 (.drawT [rg 11 (.fad 3 (.t 1)),rg 12 (.load none (.t 11)),mv 13 3,rg 14 (.iad 3 (.t 12) (.t 13)),rg 15 (.load (some 3) (.t 14)),rg 16 (.call 209 [(.t 15)]),rg 17 (.bin .eql (.t 16) (.c (.i .i64 0))),mv 18 17,gd 19 18 true (.fad 1 (.t 1)),gd 20 18 true (.load none (.t 19)),gd 21 18 true (.mov (.t 3)),gd 22 18 true (.iad 3 (.t 20) (.t 21)),gd 23 18 true (.load (some 3) (.t 22)),gd 24 18 true (.call 205 [(.c (.i .i64 1))]),gd 25 18 true (.call 212 [(.t 23),(.t 24)]),rg 26 (.pick (.t 18) (.t 25) (.c (.b false))),mv 27 26,gd 28 27 true (.fad 2 (.t 1)),gd 29 27 true (.load none (.t 28)),gd 30 27 true (.mov (.t 3)),gd 31 27 true (.iad 1 (.t 29) (.t 30)),gd 32 27 true (.load none (.t 31)),gd 33 27 true (.fad 3 (.t 1)),gd 34 27 true (.load none (.t 33)),gd 35 27 true (.mov (.t 3)),gd 36 27 true (.slc 3 (.t 34) none (some (.t 35)) none)]
 [gd 37 27 true (.call 265 [(.t 32),(.t 36)]),rg 38 (.pick (.t 27) (.t 37) (.c (.b false))),mv 2 38])
 (.pre (.norm false [2]) .ret)))))
def b608:AX:=
 (.seq
 (.reg [rg 2 (.alloc [(.s []),(.sl [] .nl),(.sl [] .nl),(.sl [] .nl),(.sl [] .nl)]),rg 3 (.alloc [(.i .i64 0),(.i .i64 0),(.i .i64 0),(.i .i64 0)])])
 (.seq
 (.seq
 (.reg [mv 7 0,rg 8 (.lens (.t 7)),rg 9 (.bin .gtr (.t 8) (.c (.i .i64 4000)))])
 (.cond (.t 9)
 (.seq
 (.reg [rg 10 (.build [(.s []),(.sl [] .nl),(.sl [] .nl),(.sl [] .nl),(.sl [] .nl)] []),rg 11 (.build [(.i .i64 0),(.i .i64 0),(.i .i64 0),(.i .i64 0)] [(0,1,(.c (.i .i64 1))),(3,1,(.c (.i .i64 4000)))]),so (.store 5 (.t 2) (.t 10)),so (.store 4 (.t 3) (.t 11))])
 (.pre (.norm false [2,3]) .ret))
 .skip))
 (.seq
 (.reg [mv 13 0,rg 14 (.call 612 [(.t 13)]),mv 12 14,rg 15 (.ext (.t 12) 0),rg 16 (.ext (.t 12) 1),rg 4 (.alloc [(.s []),(.sl [] .nl),(.sl [] .nl),(.sl [] .nl),(.sl [] .nl)]),rg 5 (.alloc [(.i .i64 0),(.i .i64 0),(.i .i64 0),(.i .i64 0)]),so (.store 5 (.t 4) (.t 15)),so (.store 4 (.t 5) (.t 16))])
 (.seq
 (.seq
 (.reg [rg 17 (.load (some 4) (.t 5)),rg 18 (.build [(.i .i64 0),(.i .i64 0),(.i .i64 0),(.i .i64 0)] []),rg 19 (.eqs true [(0,.int),(1,.int),(2,.int),(3,.int)] (.t 17) (.t 18))])
 (.cond (.t 19)
 (.seq
 (.draw [⟨rg 20 (.build [(.s []),(.sl [] .nl),(.sl [] .nl),(.sl [] .nl),(.sl [] .nl)] []),0,0⟩,⟨rg 21 (.load (some 4) (.t 5)),0,1⟩,⟨so (.store 5 (.t 2) (.t 20)),0,1⟩,⟨so (.store 4 (.t 3) (.t 21)),1,2⟩])
 (.pre (.norm false [2,3]) .ret))
 .skip))
 (.seq
 (.seq
 (.reg [rg 22 (.load (some 5) (.t 4)),rg 23 (.call 551 [(.t 22)]),mv 6 23])
 (.seq
 (.reg [mv 24 6,rg 25 (.bin .neq (.t 24) (.c (.i .i64 0)))])
 (.cond (.t 25)
 (.seq
 (.reg [rg 26 (.build [(.s []),(.sl [] .nl),(.sl [] .nl),(.sl [] .nl),(.sl [] .nl)] []),mv 27 6,rg 28 (.build [(.i .i64 0),(.i .i64 0),(.i .i64 0),(.i .i64 0)] [(0,1,(.c (.i .i64 2))),(3,1,(.t 27))]),so (.store 5 (.t 2) (.t 26)),so (.store 4 (.t 3) (.t 28))])
 (.pre (.norm false [2,3]) .ret))
 .skip)))
 (.seq
 (.draw [⟨rg 29 (.load (some 5) (.t 4)),0,0⟩,⟨rg 30 (.load (some 4) (.t 5)),0,1⟩,⟨so (.store 5 (.t 2) (.t 29)),0,1⟩,⟨so (.store 4 (.t 3) (.t 30)),1,2⟩])
 (.pre (.norm false [2,3]) .ret)))))))
def b612:AX:=
 (.seq
 (.reg [rg 2 (.alloc [(.s []),(.sl [] .nl),(.sl [] .nl),(.sl [] .nl),(.sl [] .nl)]),rg 3 (.alloc [(.i .i64 0),(.i .i64 0),(.i .i64 0),(.i .i64 0)])])
 (.seq
 (.reg [rg 4 (.alloc [(.s []),(.sl [] .nl),(.sl [] .nl),(.sl [] .nl),(.sl [] .nl)])])
 (.seq
 (.reg [mv 7 0,rg 8 (.build [(.s []),(.i .i64 0),(.b false)] [(0,1,(.t 7))]),rg 9 (.xop (.box 3) [(.t 8)]),mv 5 9])
 (.seq
 (.reg [mv 11 5,rg 12 (.call 614 [(.t 11)]),mv 10 12,rg 13 (.ext (.t 10) 0),rg 14 (.ext (.t 10) 1),rg 15 (.ext (.t 10) 2),rg 16 (.fad 0 (.t 4)),so (.store 1 (.t 16) (.t 13))])
 (.seq
 (.seq
 (.reg [rg 17 (.fad 0 (.t 4)),rg 18 (.load none (.t 17)),rg 19 (.build [(.i .i64 0),(.s []),(.i .i64 0)] [(0,1,(.c (.i .i64 2))),(1,1,(.t 18))]),rg 20 (.call 172 [(.t 19)]),rg 21 (.un .not (.t 20))])
 (.cond (.t 21)
 (.seq
 (.reg [rg 22 (.load (some 5) (.t 4)),rg 23 (.build [(.i .i64 0),(.i .i64 0),(.i .i64 0),(.i .i64 0)] [(0,1,(.c (.i .i64 1)))]),so (.store 5 (.t 2) (.t 22)),so (.store 4 (.t 3) (.t 23))])
 (.pre (.norm false [2,3]) .ret))
 .skip))
 (.seq
 (.reg [mv 24 5,mv 25 0,rg 26 (.call 615 [(.t 24),(.t 25),(.t 4)]),rg 6 (.alloc [(.i .i64 0),(.i .i64 0),(.i .i64 0),(.i .i64 0)]),so (.store 4 (.t 6) (.t 26))])
 (.seq
 (.seq
 (.reg [rg 27 (.load (some 4) (.t 6)),rg 28 (.build [(.i .i64 0),(.i .i64 0),(.i .i64 0),(.i .i64 0)] []),rg 29 (.eqs true [(0,.int),(1,.int),(2,.int),(3,.int)] (.t 27) (.t 28))])
 (.cond (.t 29)
 (.seq
 (.draw [⟨rg 30 (.load (some 5) (.t 4)),0,0⟩,⟨rg 31 (.load (some 4) (.t 6)),0,1⟩,⟨so (.store 5 (.t 2) (.t 30)),0,1⟩,⟨so (.store 4 (.t 3) (.t 31)),1,2⟩])
 (.pre (.norm false [2,3]) .ret))
 .skip))
 (.seq
 (.seq
 (.reg [mv 33 5,rg 34 (.call 616 [(.t 33),(.c (.s [98]))]),mv 32 34,rg 35 (.ext (.t 32) 0),rg 36 (.ext (.t 32) 1),rg 37 (.fad 3 (.t 4)),so (.store 1 (.t 37) (.t 35)),so (.store 4 (.t 6) (.t 36))])
 (.seq
 (.reg [rg 38 (.load (some 4) (.t 6)),rg 39 (.build [(.i .i64 0),(.i .i64 0),(.i .i64 0),(.i .i64 0)] []),rg 40 (.eqs true [(0,.int),(1,.int),(2,.int),(3,.int)] (.t 38) (.t 39)),mv 41 40,gd 42 41 false (.mov (.t 5)),gd 43 41 false (.nilc (.t 42)),gd 44 41 false (.fad 2 (.t 43)),gd 45 41 false (.load none (.t 44)),rg 46 (.pick (.t 41) (.c (.b true)) (.t 45))])
 (.cond (.t 46)
 (.seq
 (.draw [⟨rg 47 (.load (some 5) (.t 4)),0,0⟩,⟨rg 48 (.load (some 4) (.t 6)),0,1⟩,⟨so (.store 5 (.t 2) (.t 47)),0,1⟩,⟨so (.store 4 (.t 3) (.t 48)),1,2⟩])
 (.pre (.norm false [2,3]) .ret))
 .skip)))
 (.seq
 (.seq
 (.reg [mv 50 5,rg 51 (.call 616 [(.t 50),(.c (.s [101]))]),mv 49 51,rg 52 (.ext (.t 49) 0),rg 53 (.ext (.t 49) 1),rg 54 (.fad 4 (.t 4)),so (.store 1 (.t 54) (.t 52)),so (.store 4 (.t 6) (.t 53))])
 (.seq
 (.reg [rg 55 (.load (some 4) (.t 6)),rg 56 (.build [(.i .i64 0),(.i .i64 0),(.i .i64 0),(.i .i64 0)] []),rg 57 (.eqs true [(0,.int),(1,.int),(2,.int),(3,.int)] (.t 55) (.t 56)),mv 58 57,gd 59 58 false (.mov (.t 5)),gd 60 58 false (.nilc (.t 59)),gd 61 58 false (.fad 2 (.t 60)),gd 62 58 false (.load none (.t 61)),rg 63 (.pick (.t 58) (.c (.b true)) (.t 62))])
 (.cond (.t 63)
 (.seq
 (.draw [⟨rg 64 (.load (some 5) (.t 4)),0,0⟩,⟨rg 65 (.load (some 4) (.t 6)),0,1⟩,⟨so (.store 5 (.t 2) (.t 64)),0,1⟩,⟨so (.store 4 (.t 3) (.t 65)),1,2⟩])
 (.pre (.norm false [2,3]) .ret))
 .skip)))
 (.seq
 (.draw [⟨rg 66 (.load (some 5) (.t 4)),0,0⟩,⟨mv 67 5,0,1⟩,⟨rg 68 (.nilc (.t 67)),0,1⟩,⟨rg 69 (.fad 1 (.t 68)),0,1⟩,⟨rg 70 (.load none (.t 69)),0,1⟩,⟨rg 71 (.build [(.i .i64 0),(.i .i64 0),(.i .i64 0),(.i .i64 0)] [(0,1,(.c (.i .i64 1))),(3,1,(.t 70))]),0,1⟩,⟨so (.store 5 (.t 2) (.t 66)),0,1⟩,⟨so (.store 4 (.t 3) (.t 71)),1,2⟩])
 (.pre (.norm false [2,3]) .ret)))))))))))
def b614:AX:=
 (.seq
 (.reg [rg 2 (.mov (.c (.s []))),rg 3 (.mov (.c (.i .i64 0))),rg 4 (.mov (.c (.b false)))])
 (.seq
 (.seq
 (.reg [mv 9 0,rg 10 (.nilc (.t 9)),rg 11 (.fad 2 (.t 10)),rg 12 (.load none (.t 11))])
 (.cond (.t 12)
 (.seq
 (.drawT [mv 13 0,rg 14 (.nilc (.t 13)),rg 15 (.fad 1 (.t 14)),rg 16 (.load none (.t 15)),rg 2 (.mov (.c (.s [])))]
 [mv 3 16,rg 4 (.mov (.c (.b false)))])
 (.pre (.norm false [2,3,4]) .ret))
 .skip))
 (.seq
 (.reg [mv 17 0,rg 18 (.nilc (.t 17)),rg 19 (.fad 1 (.t 18)),rg 20 (.load none (.t 19)),mv 5 20])
 (.seq
 (.reg [mv 22 0,rg 23 (.nilc (.t 22)),rg 24 (.fad 0 (.t 23)),rg 25 (.load none (.t 24)),rg 26 (.call 184 [(.t 25),(.c (.s [10]))]),mv 21 26,rg 27 (.ext (.t 21) 0),rg 28 (.ext (.t 21) 1),rg 29 (.ext (.t 21) 2),mv 6 27,mv 7 28,mv 8 29])
 (.seq
 (.reg [mv 30 0,mv 31 0,mv 32 7,mv 33 8,rg 34 (.un .not (.t 33)),rg 35 (.nilc (.t 30)),rg 36 (.fad 0 (.t 35)),so (.store 1 (.t 36) (.t 32)),rg 37 (.nilc (.t 31)),rg 38 (.fad 2 (.t 37)),so (.store 1 (.t 38) (.t 34))])
 (.seq
 (.reg [mv 39 0,rg 40 (.nilc (.t 39)),rg 41 (.fad 1 (.t 40)),rg 42 (.load none (.t 41)),mv 43 6,rg 44 (.lens (.t 43)),rg 45 (.bin .add (.t 42) (.t 44)),rg 46 (.nilc (.t 39)),rg 47 (.fad 1 (.t 46)),so (.store 1 (.t 47) (.t 45))])
 (.seq
 (.seq
 (.reg [mv 48 8])
 (.cond (.t 48)
 (.reg [mv 49 0,rg 50 (.nilc (.t 49)),rg 51 (.fad 1 (.t 50)),rg 52 (.load none (.t 51)),rg 53 (.bin .add (.t 52) (.c (.i .i64 1))),rg 54 (.nilc (.t 49)),rg 55 (.fad 1 (.t 54)),so (.store 1 (.t 55) (.t 53))])
 .skip))
 (.seq
 (.reg [mv 56 6,mv 57 5,mv 2 56,mv 3 57,rg 4 (.mov (.c (.b true)))])
 (.pre (.norm false [2,3,4]) .ret)))))))))
def l615_0:AX:=
 (.note
 (.block 1
 (.seq
 (.reg [mv 14 0,rg 15 (.call 614 [(.t 14)]),mv 13 15,rg 16 (.ext (.t 13) 0),rg 17 (.ext (.t 13) 1),rg 18 (.ext (.t 13) 2),mv 7 16,mv 8 17,mv 9 18])
 (.seq
 (.seq
 (.reg [mv 19 9,rg 20 (.un .not (.t 19))])
 (.cond (.t 20)
 (.seq
 (.reg [rg 21 (.build [(.i .i64 0),(.i .i64 0),(.i .i64 0),(.i .i64 0)] []),so (.store 4 (.t 6) (.t 21))])
 (.pre (.norm true [6]) .ret))
 .skip))
 (.seq
 (.seq
 (.reg [mv 22 7,rg 23 (.call 618 [(.t 22),(.c (.s [124]))]),rg 24 (.un .not (.t 23))])
 (.cond (.t 24)
 (.seq
 (.reg [mv 25 0,mv 26 1,mv 27 8,rg 28 (.call 619 [(.t 25),(.t 26),(.t 27)])])
 (.seq
 (.reg [rg 29 (.build [(.i .i64 0),(.i .i64 0),(.i .i64 0),(.i .i64 0)] []),so (.store 4 (.t 6) (.t 29))])
 (.pre (.norm true [6]) .ret)))
 .skip))
 (.seq
 (.reg [mv 31 7,mv 32 8,rg 33 (.call 620 [(.t 31),(.t 32)]),mv 30 33,rg 34 (.ext (.t 30) 0),rg 35 (.ext (.t 30) 1),rg 36 (.ext (.t 30) 2),rg 10 (.alloc [(.b false),(.sl [] .nl),(.sl [] .nl)]),rg 12 (.alloc [(.i .i64 0),(.i .i64 0),(.i .i64 0),(.i .i64 0)]),so (.store 3 (.t 10) (.t 34)),mv 11 35,so (.store 4 (.t 12) (.t 36))])
 (.seq
 (.seq
 (.reg [rg 37 (.load (some 4) (.t 12)),rg 38 (.build [(.i .i64 0),(.i .i64 0),(.i .i64 0),(.i .i64 0)] []),rg 39 (.eqs true [(0,.int),(1,.int),(2,.int),(3,.int)] (.t 37) (.t 38))])
 (.cond (.t 39)
 (.seq
 (.reg [rg 40 (.load (some 4) (.t 12)),so (.store 4 (.t 6) (.t 40))])
 (.pre (.norm true [6]) .ret))
 .skip))
 (.seq
 (.draw [⟨mv 41 2,0,1⟩,⟨mv 42 2,0,0⟩,⟨rg 43 (.nilc (.t 42)),0,0⟩,⟨rg 44 (.fad 1 (.t 43)),0,0⟩,⟨rg 45 (.load none (.t 44)),0,0⟩,⟨rg 46 (.load (some 3) (.t 10)),0,0⟩,⟨rg 47 (.bsl 3 [(.b false),(.sl [] .nl),(.sl [] .nl)] 1 [(0,(.t 46))]),0,0⟩,⟨rg 48 (.app 3 (.t 45) (.t 47)),0,1⟩,⟨rg 49 (.nilc (.t 41)),1,1⟩,⟨rg 50 (.fad 1 (.t 49)),1,1⟩,⟨so (.store 1 (.t 50) (.t 48)),1,2⟩])
 (.reg [mv 51 2,mv 52 2,rg 53 (.nilc (.t 52)),rg 54 (.fad 2 (.t 53)),rg 55 (.load none (.t 54)),mv 56 11,rg 57 (.bsl 1 [(.sl [] .nl)] 1 [(0,(.t 56))]),rg 58 (.app 1 (.t 55) (.t 57)),rg 59 (.nilc (.t 51)),rg 60 (.fad 2 (.t 59)),so (.store 1 (.t 60) (.t 58))]))))))))
 (.norm true [0,1,2,6]))
def b615:AX:=
 (.seq
 (.reg [rg 6 (.alloc [(.i .i64 0),(.i .i64 0),(.i .i64 0),(.i .i64 0)])])
 (.pre (.fld 2 0 1 3) (.pre (.fld 2 0 2 1) (.lp 0 (.norm true [0,1,2,6]) l615_0 (.norm true [6])))))
def b616:AX:=
 (.seq
 (.reg [rg 4 (.mov (.c (.sl [] .nl))),rg 5 (.alloc [(.i .i64 0),(.i .i64 0),(.i .i64 0),(.i .i64 0)])])
 (.seq
 (.reg [mv 14 0,rg 15 (.call 614 [(.t 14)]),mv 13 15,rg 16 (.ext (.t 13) 0),rg 17 (.ext (.t 13) 1),rg 18 (.ext (.t 13) 2),mv 6 16,mv 7 17,mv 8 18])
 (.seq
 (.reg [mv 20 6,mv 21 1,rg 22 (.bin .add (.t 21) (.c (.s [32]))),rg 23 (.call 64 [(.t 20),(.t 22)]),mv 19 23,rg 24 (.ext (.t 19) 0),rg 25 (.ext (.t 19) 1),mv 9 24,mv 10 25])
 (.seq
 (.seq
 (.reg [mv 26 10,rg 27 (.un .not (.t 26))])
 (.cond (.t 27)
 (.seq
 (.reg [mv 28 7,rg 29 (.build [(.i .i64 0),(.i .i64 0),(.i .i64 0),(.i .i64 0)] [(0,1,(.c (.i .i64 1))),(3,1,(.t 28))]),rg 4 (.mov (.c (.sl [] .nl))),so (.store 4 (.t 5) (.t 29))])
 (.pre (.norm false [4,5]) .ret))
 .skip))
 (.seq
 (.reg [mv 31 9,rg 32 (.call 275 [(.t 31)]),mv 30 32,rg 33 (.ext (.t 30) 0),rg 34 (.ext (.t 30) 1),rg 12 (.alloc [(.i .i64 0),(.i .i64 0),(.i .i64 0),(.i .i64 0)]),mv 11 33,so (.store 4 (.t 12) (.t 34))])
 (.seq
 (.reg [mv 35 11,rg 36 (.load (some 4) (.t 12)),mv 37 7,mv 38 1,rg 39 (.lens (.t 38)),rg 40 (.bin .add (.t 37) (.t 39)),rg 41 (.bin .add (.t 40) (.c (.i .i64 1))),rg 42 (.call 621 [(.t 36),(.t 41)]),mv 4 35,so (.store 4 (.t 5) (.t 42))])
 (.pre (.norm false [4,5]) .ret)))))))
def b618:AX:=
 (.seq
 (.reg [rg 4 (.mov (.c (.b false)))])
 (.seq
 (.reg [mv 5 0,mv 6 1,rg 7 (.call 362 [(.t 5),(.t 6)]),rg 8 (.bin .geq (.t 7) (.c (.i .i64 0))),mv 4 8])
 (.pre (.norm false [4]) .ret)))
def b619:AX:=
 (.reg [mv 6 0,mv 7 0,mv 8 0,mv 9 1,mv 10 2,rg 11 (.slstr (.t 9) (some (.t 10)) none),mv 12 2,rg 13 (.nilc (.t 6)),rg 14 (.fad 0 (.t 13)),so (.store 1 (.t 14) (.t 11)),rg 15 (.nilc (.t 7)),rg 16 (.fad 1 (.t 15)),so (.store 1 (.t 16) (.t 12)),rg 17 (.nilc (.t 8)),rg 18 (.fad 2 (.t 17)),so (.store 1 (.t 18) (.c (.b false)))])
def b620:AX:=
 (.seq
 (.reg [rg 4 (.alloc [(.b false),(.sl [] .nl),(.sl [] .nl)]),rg 5 (.mov (.c (.sl [] .nl))),rg 6 (.alloc [(.i .i64 0),(.i .i64 0),(.i .i64 0),(.i .i64 0)])])
 (.seq
 (.reg [mv 14 0,rg 15 (.call 184 [(.t 14),(.c (.s [124]))]),mv 13 15,rg 16 (.ext (.t 13) 0),rg 17 (.ext (.t 13) 1),rg 18 (.ext (.t 13) 2),mv 7 16,mv 8 17,mv 9 18])
 (.seq
 (.reg [mv 20 7,rg 21 (.call 256 [(.t 20)]),mv 19 21,rg 22 (.ext (.t 19) 0),rg 23 (.ext (.t 19) 1),rg 10 (.alloc [(.b false),(.sl [] .nl),(.sl [] .nl)]),rg 11 (.alloc [(.i .i64 0),(.i .i64 0),(.i .i64 0),(.i .i64 0)]),so (.store 3 (.t 10) (.t 22)),so (.store 4 (.t 11) (.t 23))])
 (.seq
 (.seq
 (.reg [rg 24 (.load (some 4) (.t 11)),rg 25 (.build [(.i .i64 0),(.i .i64 0),(.i .i64 0),(.i .i64 0)] []),rg 26 (.eqs true [(0,.int),(1,.int),(2,.int),(3,.int)] (.t 24) (.t 25))])
 (.cond (.t 26)
 (.seq
 (.drawT [rg 27 (.load (some 3) (.t 10)),rg 28 (.load (some 4) (.t 11)),mv 29 1,rg 30 (.call 621 [(.t 28),(.t 29)])]
 [so (.store 3 (.t 4) (.t 27)),rg 5 (.mov (.c (.sl [] .nl))),so (.store 4 (.t 6) (.t 30))])
 (.pre (.norm false [4,5,6]) .ret))
 .skip))
 (.seq
 (.reg [mv 32 8,rg 33 (.call 275 [(.t 32)]),mv 31 33,rg 34 (.ext (.t 31) 0),rg 35 (.ext (.t 31) 1),mv 12 34,so (.store 4 (.t 11) (.t 35))])
 (.seq
 (.draw [⟨rg 36 (.load (some 3) (.t 10)),0,0⟩,⟨mv 37 12,0,1⟩,⟨rg 38 (.load (some 4) (.t 11)),0,0⟩,⟨mv 39 1,0,0⟩,⟨mv 40 7,0,0⟩,⟨rg 41 (.lens (.t 40)),0,0⟩,⟨rg 42 (.bin .add (.t 39) (.t 41)),0,0⟩,⟨rg 43 (.bin .add (.t 42) (.c (.i .i64 1))),0,0⟩,⟨rg 44 (.call 621 [(.t 38),(.t 43)]),0,0⟩,⟨so (.store 3 (.t 4) (.t 36)),0,1⟩,⟨mv 5 37,1,1⟩,⟨so (.store 4 (.t 6) (.t 44)),1,2⟩])
 (.pre (.norm false [4,5,6]) .ret)))))))
def b621:AX:=
 (.seq
 (.reg [rg 2 (.xop (.box 4) [(.t 0)]),rg 4 (.alloc [(.i .i64 0),(.i .i64 0),(.i .i64 0),(.i .i64 0)])])
 (.seq
 (.seq
 (.reg [rg 5 (.load (some 4) (.t 2)),rg 6 (.build [(.i .i64 0),(.i .i64 0),(.i .i64 0),(.i .i64 0)] []),rg 7 (.eqs true [(0,.int),(1,.int),(2,.int),(3,.int)] (.t 5) (.t 6))])
 (.cond (.t 7)
 (.reg [rg 8 (.fad 3 (.t 2)),rg 9 (.load none (.t 8)),mv 10 1,rg 11 (.bin .add (.t 9) (.t 10)),rg 12 (.fad 3 (.t 2)),so (.store 1 (.t 12) (.t 11))])
 .skip))
 (.seq
 (.reg [rg 13 (.load (some 4) (.t 2)),so (.store 4 (.t 4) (.t 13))])
 (.pre (.norm false [4]) .ret))))
def row555:AFx:=⟨1,23,[.t 2],b555,none,false⟩
def row598:AFx:=⟨2,62,[.t 4],b598,none,false⟩
def row601:AFx:=⟨1,39,[.t 2],b601,none,false⟩
def row608:AFx:=⟨1,31,[.cell 2 (some 5),.cell 3 (some 4)],b608,none,false⟩
def row612:AFx:=⟨1,72,[.cell 2 (some 5),.cell 3 (some 4)],b612,none,false⟩
def row614:AFx:=⟨1,58,[.t 2,.t 3,.t 4],b614,(some [true]),false⟩
def row615:AFx:=⟨3,61,[.cell 6 (some 4)],b615,(some [true,false,true]),true⟩
def row616:AFx:=⟨2,43,[.t 4,.cell 5 (some 4)],b616,(some [true,false]),false⟩
def row618:AFx:=⟨2,9,[.t 4],b618,none,false⟩
def row619:AFx:=⟨3,19,[],b619,(some [true,false,false]),false⟩
def row620:AFx:=⟨2,45,[.cell 4 (some 3),.t 5,.cell 6 (some 4)],b620,none,false⟩
def row621:AFx:=⟨2,14,[.cell 4 (some 4)],b621,none,false⟩
class Zak (T:Tbl):Prop where
 h555:T 555=some row555
 h598:T 598=some row598
 h601:T 601=some row601
 h608:T 608=some row608
 h612:T 612=some row612
 h614:T 614=some row614
 h615:T 615=some row615
 h616:T 616=some row616
 h618:T 618=some row618
 h619:T 619=some row619
 h620:T 620=some row620
 h621:T 621=some row621
section
variable{T:Tbl}[Zak T]{d:Option Nat}{st:St}{xs:List AV}{ps:List Opd}{e:Env}{h:Heap}{ol:List Heap}
@[simp] theorem x555:Zc (orc T) T 555 xs d st=cP T 555 false xs d st:=zaa Zak.h555
@[simp] theorem y598:opD (orc T) T (.call 598 ps) e h ol=dP T 598 false ps e:=zaj Zak.h598
@[simp] theorem x601:Zc (orc T) T 601 xs d st=cP T 601 false xs d st:=zaa Zak.h601
@[simp] theorem x608:Zc (orc T) T 608 xs d st=cP T 608 false xs d st:=zaa Zak.h608
@[simp] theorem x612:Zc (orc T) T 612 xs d st=cP T 612 false xs d st:=zaa Zak.h612
@[simp] theorem x614:Zc (orc T) T 614 xs d st=cL T 614 false [true] xs d st:=zau Zak.h614
@[simp] theorem x615:Zc (orc T) T 615 xs d st=cL T 615 true [true,false,true] xs d st:=zau Zak.h615
@[simp] theorem x616:Zc (orc T) T 616 xs d st=cL T 616 false [true,false] xs d st:=zau Zak.h616
@[simp] theorem x618:Zc (orc T) T 618 xs d st=cP T 618 false xs d st:=zaa Zak.h618
@[simp] theorem x619:Zc (orc T) T 619 xs d st=cL T 619 false [true,false,false] xs d st:=zau Zak.h619
@[simp] theorem x620:Zc (orc T) T 620 xs d st=cP T 620 false xs d st:=zaa Zak.h620
@[simp] theorem x621:Zc (orc T) T 621 xs d st=cP T 621 false xs d st:=zaa Zak.h621
@[simp] theorem y621:opD (orc T) T (.call 621 ps) e h ol=dP T 621 false ps e:=zaj Zak.h621
end
end Go.Ab
end
section
namespace Go.Ab
def l597_0:AX:=
 (.note
 (.seq
 (.reg [rg 17 (.bin .lss (.t 16) (.t 15))])
 (.seq
 (.cond (.t 17)
 .skip
 (.exit 0))
 (.seq
 (.block 1
 (.seq
 (.reg [mv 18 16,rg 19 (.iad 1 (.t 14) (.t 16)),rg 20 (.load none (.t 19)),mv 5 18,mv 6 20])
 (.reg [mv 21 4,rg 22 (.fad 1 (.t 1)),rg 23 (.load none (.t 22)),mv 24 5,rg 25 (.iad 3 (.t 23) (.t 24)),rg 26 (.load (some 3) (.t 25)),rg 27 (.call 251 [(.t 26)]),rg 28 (.bin .add (.t 27) (.c (.s [124]))),mv 29 6,rg 30 (.call 274 [(.t 29)]),rg 31 (.bin .add (.t 28) (.t 30)),rg 32 (.bsl 1 [(.s [])] 1 [(0,(.t 31))]),rg 33 (.app 1 (.t 21) (.t 32)),mv 4 33])))
 (.reg [rg 34 (.bin .add (.t 16) (.c (.i .i64 1))),mv 16 34]))))
 (.norm false [1,4,14,15,16]))
def b597:AX:=
 (.seq
 (.reg [rg 1 (.xop (.box 5) [(.t 0)]),rg 2 (.mov (.c (.s []))),rg 3 (.mov (.c (.b false)))])
 (.seq
 (.seq
 (.reg [rg 7 (.load (some 5) (.t 1)),rg 8 (.call 536 [(.t 7)]),rg 9 (.un .not (.t 8))])
 (.cond (.t 9)
 (.seq
 (.reg [rg 2 (.mov (.c (.s []))),rg 3 (.mov (.c (.b false)))])
 (.pre (.norm false [2,3]) .ret))
 .skip))
 (.seq
 (.reg [rg 10 (.fad 0 (.t 1)),rg 11 (.load none (.t 10)),rg 12 (.bsl 1 [(.s [])] 1 [(0,(.t 11))]),mv 4 12])
 (.seq
 (.seq
 (.reg [rg 13 (.fad 2 (.t 1)),rg 14 (.load none (.t 13)),rg 15 (.len (.t 14)),rg 16 (.mov (.c (.i .i64 0)))])
 (.lp 0 (.norm true [1,4,14,15,16]) l597_0 (.norm false [1,4])))
 (.seq
 (.reg [mv 35 4,rg 36 (.fad 3 (.t 1)),rg 37 (.load none (.t 36)),rg 38 (.call 274 [(.t 37)]),rg 39 (.bin .add (.c (.s [98,32])) (.t 38)),rg 40 (.bsl 1 [(.s [])] 1 [(0,(.t 39))]),rg 41 (.app 1 (.t 35) (.t 40)),mv 4 41])
 (.seq
 (.seq
 (.reg [rg 42 (.fad 4 (.t 1)),rg 43 (.load none (.t 42)),rg 44 (.len (.t 43)),rg 45 (.bin .gtr (.t 44) (.c (.i .i64 0)))])
 (.cond (.t 45)
 (.reg [mv 46 4,rg 47 (.fad 4 (.t 1)),rg 48 (.load none (.t 47)),rg 49 (.call 274 [(.t 48)]),rg 50 (.bin .add (.c (.s [101,32])) (.t 49)),rg 51 (.bsl 1 [(.s [])] 1 [(0,(.t 50))]),rg 52 (.app 1 (.t 46) (.t 51)),mv 4 52])
 .skip))
 (.seq
 (.reg [mv 53 4,rg 54 (.call 183 [(.t 53),(.c (.s [10]))]),mv 2 54,rg 3 (.mov (.c (.b true)))])
 (.pre (.norm false [2,3]) .ret))))))))
def l599_0:AX:=
 (.note
 (.seq
 (.seq
 (.reg [mv 44 5,rg 45 (.fad 2 (.t 2)),rg 46 (.load none (.t 45)),rg 47 (.len (.t 46)),rg 48 (.bin .lss (.t 44) (.t 47))])
 (.cond (.t 48)
 .skip
 (.exit 0)))
 (.seq
 (.block 1
 (.seq
 (.drawT [rg 51 (.fad 2 (.t 2)),rg 52 (.load none (.t 51)),mv 53 5,rg 54 (.iad 1 (.t 52) (.t 53)),rg 55 (.load none (.t 54)),rg 56 (.fad 2 (.t 3)),rg 57 (.load none (.t 56)),mv 58 5,rg 59 (.iad 1 (.t 57) (.t 58)),rg 60 (.load none (.t 59))]
 [rg 61 (.call 279 [(.t 55),(.t 60)]),rg 62 (.un .not (.t 61))])
 (.cond (.t 62)
 (.seq
 (.reg [rg 4 (.mov (.c (.b false)))])
 (.pre (.norm false [4]) .ret))
 .skip)))
 (.reg [mv 49 5,rg 50 (.bin .add (.t 49) (.c (.i .i64 1))),mv 5 50])))
 (.norm false [2,3,5]))
def b599:AX:=
 (.seq
 (.reg [rg 2 (.xop (.box 5) [(.t 0)]),rg 3 (.xop (.box 5) [(.t 1)]),rg 4 (.mov (.c (.b false)))])
 (.seq
 (.seq
 (.reg [rg 6 (.fad 0 (.t 2)),rg 7 (.load none (.t 6)),rg 8 (.fad 0 (.t 3)),rg 9 (.load none (.t 8)),rg 10 (.bin .neq (.t 7) (.t 9)),mv 11 10,gd 12 11 false (.fad 2 (.t 2)),gd 13 11 false (.load none (.t 12)),gd 14 11 false (.len (.t 13)),gd 15 11 false (.fad 2 (.t 3)),gd 16 11 false (.load none (.t 15)),gd 17 11 false (.len (.t 16)),gd 18 11 false (.bin .neq (.t 14) (.t 17)),rg 19 (.pick (.t 11) (.c (.b true)) (.t 18)),mv 20 19,gd 21 20 false (.fad 3 (.t 2)),gd 22 20 false (.load none (.t 21)),gd 23 20 false (.fad 3 (.t 3)),gd 24 20 false (.load none (.t 23)),gd 25 20 false (.call 279 [(.t 22),(.t 24)]),gd 26 20 false (.un .not (.t 25)),rg 27 (.pick (.t 20) (.c (.b true)) (.t 26)),mv 28 27,gd 29 28 false (.fad 1 (.t 2)),gd 30 28 false (.load none (.t 29)),gd 31 28 false (.fad 1 (.t 3)),gd 32 28 false (.load none (.t 31)),gd 33 28 false (.call 279 [(.t 30),(.t 32)]),gd 34 28 false (.un .not (.t 33)),rg 35 (.pick (.t 28) (.c (.b true)) (.t 34)),mv 36 35,gd 37 36 false (.fad 4 (.t 2)),gd 38 36 false (.load none (.t 37)),gd 39 36 false (.fad 4 (.t 3)),gd 40 36 false (.load none (.t 39)),gd 41 36 false (.call 279 [(.t 38),(.t 40)]),gd 42 36 false (.un .not (.t 41)),rg 43 (.pick (.t 36) (.c (.b true)) (.t 42))])
 (.cond (.t 43)
 (.seq
 (.reg [rg 4 (.mov (.c (.b false)))])
 (.pre (.norm false [4]) .ret))
 .skip))
 (.seq
 (.seq
 (.reg [rg 5 (.mov (.c (.i .i64 0)))])
 (.lp 0 (.norm false [2,3,5]) l599_0 (.norm false [])))
 (.seq
 (.reg [rg 4 (.mov (.c (.b true)))])
 (.pre (.norm false [4]) .ret)))))
def l602_0:AX:=
 (.note
 (.seq
 (.seq
 (.reg [mv 7 4,rg 8 (.fad 2 (.t 1)),rg 9 (.load none (.t 8)),rg 10 (.len (.t 9)),rg 11 (.bin .lss (.t 7) (.t 10)),mv 12 11,gd 13 12 true (.mov (.t 4)),gd 14 12 true (.fad 1 (.t 1)),gd 15 12 true (.load none (.t 14)),gd 16 12 true (.len (.t 15)),gd 17 12 true (.bin .lss (.t 13) (.t 16)),rg 18 (.pick (.t 12) (.t 17) (.c (.b false)))])
 (.cond (.t 18)
 .skip
 (.exit 0)))
 (.seq
 (.block 1
 (.drawT [mv 21 3,rg 22 (.fad 1 (.t 1)),rg 23 (.load none (.t 22)),mv 24 4,rg 25 (.iad 3 (.t 23) (.t 24)),rg 26 (.load (some 3) (.t 25)),rg 27 (.call 259 [(.t 26)]),rg 28 (.bin .add (.c (.s [10])) (.t 27)),rg 29 (.bin .add (.t 28) (.c (.s [124]))),rg 30 (.fad 2 (.t 1)),rg 31 (.load none (.t 30)),mv 32 4,rg 33 (.iad 1 (.t 31) (.t 32)),rg 34 (.load none (.t 33)),rg 35 (.call 284 [(.t 34)]),rg 36 (.bin .add (.t 29) (.t 35))]
 [rg 37 (.bin .add (.t 21) (.t 36)),mv 3 37]))
 (.reg [mv 19 4,rg 20 (.bin .add (.t 19) (.c (.i .i64 1))),mv 4 20])))
 (.norm false [1,3,4]))
def b602:AX:=
 (.seq
 (.reg [rg 1 (.xop (.box 5) [(.t 0)]),rg 2 (.mov (.c (.s [])))])
 (.seq
 (.reg [rg 5 (.fad 0 (.t 1)),rg 6 (.load none (.t 5)),mv 3 6])
 (.seq
 (.seq
 (.reg [rg 4 (.mov (.c (.i .i64 0)))])
 (.lp 0 (.norm false [1,3,4]) l602_0 (.norm false [1,3])))
 (.seq
 (.reg [mv 38 3,rg 39 (.fad 3 (.t 1)),rg 40 (.load none (.t 39)),rg 41 (.call 284 [(.t 40)]),rg 42 (.bin .add (.c (.s [10,98,32])) (.t 41)),rg 43 (.bin .add (.t 38) (.t 42)),mv 3 43])
 (.seq
 (.seq
 (.reg [rg 44 (.fad 4 (.t 1)),rg 45 (.load none (.t 44)),rg 46 (.len (.t 45)),rg 47 (.bin .gtr (.t 46) (.c (.i .i64 0)))])
 (.cond (.t 47)
 (.reg [mv 48 3,rg 49 (.fad 4 (.t 1)),rg 50 (.load none (.t 49)),rg 51 (.call 284 [(.t 50)]),rg 52 (.bin .add (.c (.s [10,101,32])) (.t 51)),rg 53 (.bin .add (.t 48) (.t 52)),mv 3 53])
 .skip))
 (.seq
 (.reg [mv 54 3,mv 2 54])
 (.pre (.norm false [2]) .ret)))))))
def row597:AFx:=⟨1,55,[.t 2,.t 3],b597,none,false⟩
def row599:AFx:=⟨2,63,[.t 4],b599,none,false⟩
def row602:AFx:=⟨1,55,[.t 2],b602,none,false⟩
class Zdp (T:Tbl):Prop where
 h597:T 597=some row597
 h599:T 599=some row599
 h602:T 602=some row602
section
variable{T:Tbl}[Zdp T]{d:Option Nat}{st:St}{xs:List AV}{ps:List Opd}{e:Env}{h:Heap}{ol:List Heap}
@[simp] theorem x597:Zc (orc T) T 597 xs d st=cP T 597 false xs d st:=zaa Zdp.h597
@[simp] theorem y599:opD (orc T) T (.call 599 ps) e h ol=dP T 599 false ps e:=zaj Zdp.h599
@[simp] theorem x602:Zc (orc T) T 602 xs d st=cP T 602 false xs d st:=zaa Zdp.h602
end
end Go.Ab
end
section
namespace Go.Ab
def l587_0:AX:=
 (.note
 (.seq
 (.seq
 (.reg [mv 79 11,rg 80 (.fad 4 (.t 2)),rg 81 (.load none (.t 80)),rg 82 (.len (.t 81)),rg 83 (.bin .lss (.t 79) (.t 82)),mv 84 83,gd 85 84 true (.mov (.t 11)),gd 86 84 true (.fad 3 (.t 2)),gd 87 84 true (.load none (.t 86)),gd 88 84 true (.len (.t 87)),gd 89 84 true (.bin .lss (.t 85) (.t 88)),rg 90 (.pick (.t 84) (.t 89) (.c (.b false)))])
 (.cond (.t 90)
 .skip
 (.exit 0)))
 (.seq
 (.block 1
 (.drawT [mv 93 10,rg 94 (.fad 3 (.t 2)),rg 95 (.load none (.t 94)),mv 96 11,rg 97 (.iad 3 (.t 95) (.t 96)),rg 98 (.load (some 3) (.t 97)),rg 99 (.fad 4 (.t 2)),rg 100 (.load none (.t 99)),mv 101 11,rg 102 (.iad 3 (.t 100) (.t 101)),rg 103 (.load (some 3) (.t 102)),rg 104 (.call 240 [(.t 98),(.t 103)]),rg 105 (.bsl 3 [(.b false),(.sl [] .nl),(.sl [] .nl)] 1 [(0,(.t 104))])]
 [rg 106 (.app 3 (.t 93) (.t 105)),mv 10 106]))
 (.reg [mv 91 11,rg 92 (.bin .add (.t 91) (.c (.i .i64 1))),mv 11 92])))
 (.norm false [2,5,6,8,10,11]))
def b587:AX:=
 (.seq
 (.reg [rg 2 (.xop (.box 5) [(.t 0)]),rg 3 (.xop (.box 5) [(.t 1)]),rg 4 (.mov (.c (.b false)))])
 (.seq
 (.seq
 (.reg [rg 14 (.load (some 5) (.t 2)),rg 15 (.call 515 [(.t 14),(.c (.i .i64 10)),(.c (.i .i64 8))]),mv 16 15,gd 17 16 false (.load (some 5) (.t 3)),gd 18 16 false (.call 515 [(.t 17),(.c (.i .i64 10)),(.c (.i .i64 8))]),rg 19 (.pick (.t 16) (.c (.b true)) (.t 18))])
 (.cond (.t 19)
 (.seq
 (.reg [rg 20 (.call 596 []),mv 4 20])
 (.pre (.norm false [4]) .ret))
 .skip))
 (.seq
 (.reg [rg 21 (.load (some 5) (.t 2)),rg 22 (.call 527 [(.t 21)]),rg 5 (.alloc [(.s []),(.sl [] .nl),(.sl [] .nl),(.sl [] .nl),(.sl [] .nl)]),so (.store 5 (.t 5) (.t 22))])
 (.seq
 (.reg [rg 24 (.load (some 5) (.t 5)),rg 25 (.call 597 [(.t 24)]),mv 23 25,rg 26 (.ext (.t 23) 0),rg 27 (.ext (.t 23) 1),mv 6 26,mv 7 27])
 (.seq
 (.reg [rg 28 (.load (some 5) (.t 5)),rg 29 (.call 555 [(.t 28)]),mv 8 29])
 (.seq
 (.reg [rg 30 (.load (some 5) (.t 2)),rg 31 (.call 529 [(.t 30)]),mv 9 31])
 (.seq
 (.seq
 (.drawT [rg 32 (.load (some 5) (.t 5)),rg 33 (.call 551 [(.t 32)]),mv 34 9,rg 35 (.bin .neq (.t 33) (.t 34)),mv 36 35,gd 37 36 false (.load (some 5) (.t 5)),gd 38 36 false (.call 536 [(.t 37)]),gd 39 36 false (.mov (.t 9)),gd 40 36 false (.bin .eql (.t 39) (.c (.i .i64 0))),gd 41 36 false (.eqb true (.t 38) (.t 40)),rg 42 (.pick (.t 36) (.c (.b true)) (.t 41)),mv 43 42,gd 44 43 false (.load (some 5) (.t 5)),gd 45 43 false (.load (some 5) (.t 3)),gd 46 43 false (.call 527 [(.t 45)]),gd 47 43 false (.call 598 [(.t 44),(.t 46)]),gd 48 43 false (.load (some 5) (.t 2)),gd 49 43 false (.call 600 [(.t 48)]),gd 50 43 false (.load (some 5) (.t 3)),gd 51 43 false (.call 600 [(.t 50)]),gd 52 43 false (.call 599 [(.t 49),(.t 51)]),gd 53 43 false (.eqb true (.t 47) (.t 52)),rg 54 (.pick (.t 43) (.c (.b true)) (.t 53)),mv 55 54,gd 56 55 false (.mov (.t 7)),gd 57 55 false (.mov (.t 9)),gd 58 55 false (.bin .eql (.t 57) (.c (.i .i64 0)))]
 [gd 59 55 false (.eqb true (.t 56) (.t 58)),rg 60 (.pick (.t 55) (.c (.b true)) (.t 59))])
 (.cond (.t 60)
 (.seq
 (.reg [rg 4 (.mov (.c (.b false)))])
 (.pre (.norm false [4]) .ret))
 .skip))
 (.seq
 (.seq
 (.reg [mv 61 9,rg 62 (.bin .neq (.t 61) (.c (.i .i64 0)))])
 (.cond (.t 62)
 (.seq
 (.reg [mv 63 6,rg 64 (.bin .eql (.t 63) (.c (.s []))),mv 65 64,gd 66 65 true (.mov (.t 8)),gd 67 65 true (.len (.t 66)),gd 68 65 true (.bin .eql (.t 67) (.c (.i .i64 0))),rg 69 (.pick (.t 65) (.t 68) (.c (.b false))),mv 70 69,gd 71 70 true (.load (some 5) (.t 5)),gd 72 70 true (.call 601 [(.t 71)]),gd 73 70 true (.un .not (.t 72)),rg 74 (.pick (.t 70) (.t 73) (.c (.b false))),mv 75 74,gd 76 75 true (.call 596 []),rg 77 (.pick (.t 75) (.t 76) (.c (.b false))),mv 4 77])
 (.pre (.norm false [4]) .ret))
 .skip))
 (.seq
 (.reg [rg 78 (.bsl 3 [(.b false),(.sl [] .nl),(.sl [] .nl)] 0 []),mv 10 78])
 (.seq
 (.seq
 (.reg [rg 11 (.mov (.c (.i .i64 0)))])
 (.lp 0 (.norm true [2,5,6,8,10,11]) l587_0 (.norm false [2,5,6,8,10])))
 (.seq
 (.reg [rg 107 (.fad 3 (.t 2)),rg 108 (.load none (.t 107)),rg 109 (.len (.t 108)),rg 110 (.bin .sub (.t 109) (.c (.i .i64 1))),mv 12 110])
 (.seq
 (.drawT [rg 111 (.fad 3 (.t 2)),rg 112 (.load none (.t 111)),mv 113 12,rg 114 (.iad 3 (.t 112) (.t 113)),rg 115 (.load (some 3) (.t 114)),rg 116 (.call 235 [(.t 115)]),mv 117 116,gd 118 117 true (.fad 1 (.t 2)),gd 119 117 true (.load none (.t 118)),gd 120 117 true (.mov (.t 12)),gd 121 117 true (.iad 3 (.t 119) (.t 120)),gd 122 117 true (.load (some 3) (.t 121)),gd 123 117 true (.call 232 [(.c (.i .i64 1))]),gd 124 117 true (.call 233 [(.t 122),(.t 123)]),rg 125 (.pick (.t 117) (.t 124) (.c (.b false))),mv 126 125,gd 127 126 true (.fad 2 (.t 2)),gd 128 126 true (.load none (.t 127)),gd 129 126 true (.mov (.t 12)),gd 130 126 true (.iad 1 (.t 128) (.t 129)),gd 131 126 true (.load none (.t 130)),gd 132 126 true (.fad 3 (.t 2)),gd 133 126 true (.load none (.t 132)),gd 134 126 true (.mov (.t 12)),gd 135 126 true (.slc 3 (.t 133) none (some (.t 134)) none)]
 [gd 136 126 true (.call 279 [(.t 131),(.t 135)]),rg 137 (.pick (.t 126) (.t 136) (.c (.b false))),mv 13 137])
 (.seq
 (.reg [mv 138 6,rg 139 (.load (some 5) (.t 2)),rg 140 (.call 602 [(.t 139)]),rg 141 (.bin .eql (.t 138) (.t 140)),mv 142 141,gd 143 142 true (.mov (.t 8)),gd 144 142 true (.mov (.t 10)),gd 145 142 true (.call 289 [(.t 143),(.t 144)]),rg 146 (.pick (.t 142) (.t 145) (.c (.b false))),mv 147 146,gd 148 147 true (.load (some 5) (.t 5)),gd 149 147 true (.call 601 [(.t 148)]),gd 150 147 true (.mov (.t 13)),gd 151 147 true (.eqb false (.t 149) (.t 150)),rg 152 (.pick (.t 147) (.t 151) (.c (.b false))),mv 153 152,gd 154 153 true (.call 596 []),rg 155 (.pick (.t 153) (.t 154) (.c (.b false))),mv 4 155])
 (.pre (.norm false [4]) .ret))))))))))))))
def b596:AX:=
 (.seq
 (.reg [rg 0 (.mov (.c (.b false)))])
 (.seq
 (.reg [rg 6 (.call 608 [(.c (.s [104,101,117,110,10,48,124,10,49,124,49,10,98,32,49,47,50,44,49,47,50,10,101,32,49,44,48]))]),mv 5 6,rg 7 (.ext (.t 5) 0),rg 8 (.ext (.t 5) 1),rg 1 (.alloc [(.s []),(.sl [] .nl),(.sl [] .nl),(.sl [] .nl),(.sl [] .nl)]),rg 2 (.alloc [(.i .i64 0),(.i .i64 0),(.i .i64 0),(.i .i64 0)]),so (.store 5 (.t 1) (.t 7)),so (.store 4 (.t 2) (.t 8))])
 (.seq
 (.reg [rg 10 (.call 608 [(.c (.s [101,117,108,101,114,10,48,124,10,98,32,50]))]),mv 9 10,rg 11 (.ext (.t 9) 0),rg 12 (.ext (.t 9) 1),rg 3 (.alloc [(.s []),(.sl [] .nl),(.sl [] .nl),(.sl [] .nl),(.sl [] .nl)]),rg 4 (.alloc [(.i .i64 0),(.i .i64 0),(.i .i64 0),(.i .i64 0)]),so (.store 5 (.t 3) (.t 11)),so (.store 4 (.t 4) (.t 12))])
 (.seq
 (.reg [rg 13 (.load (some 4) (.t 2)),rg 14 (.build [(.i .i64 0),(.i .i64 0),(.i .i64 0),(.i .i64 0)] []),rg 15 (.eqs false [(0,.int),(1,.int),(2,.int),(3,.int)] (.t 13) (.t 14)),mv 16 15,gd 17 16 true (.fad 3 (.t 1)),gd 18 16 true (.load none (.t 17)),gd 19 16 true (.len (.t 18)),gd 20 16 true (.bin .eql (.t 19) (.c (.i .i64 2))),rg 21 (.pick (.t 16) (.t 20) (.c (.b false))),mv 22 21,gd 23 22 true (.load (some 5) (.t 1)),gd 24 22 true (.call 555 [(.t 23)]),gd 25 22 true (.call 274 [(.t 24)]),gd 26 22 true (.bin .eql (.t 25) (.c (.s [45,49,47,50,44,49,47,50]))),rg 27 (.pick (.t 22) (.t 26) (.c (.b false))),mv 28 27,gd 29 28 true (.load (some 4) (.t 4)),gd 30 28 true (.build [(.i .i64 0),(.i .i64 0),(.i .i64 0),(.i .i64 0)] [(0,1,(.c (.i .i64 2))),(3,1,(.c (.i .i64 5)))]),gd 31 28 true (.eqs false [(0,.int),(1,.int),(2,.int),(3,.int)] (.t 29) (.t 30)),rg 32 (.pick (.t 28) (.t 31) (.c (.b false))),mv 0 32])
 (.pre (.norm false [0]) .ret)))))
def b600:AX:=
 (.seq
 (.reg [rg 1 (.xop (.box 5) [(.t 0)]),rg 2 (.alloc [(.s []),(.sl [] .nl),(.sl [] .nl),(.sl [] .nl),(.sl [] .nl)])])
 (.seq
 (.drawT [rg 3 (.fad 0 (.t 1)),rg 4 (.load none (.t 3)),rg 5 (.fad 1 (.t 1)),rg 6 (.load none (.t 5)),rg 7 (.call 278 [(.t 6)]),rg 8 (.fad 2 (.t 1)),rg 9 (.load none (.t 8)),rg 10 (.call 301 [(.t 9)]),rg 11 (.fad 3 (.t 1)),rg 12 (.load none (.t 11)),rg 13 (.call 278 [(.t 12)]),rg 14 (.fad 4 (.t 1)),rg 15 (.load none (.t 14)),rg 16 (.call 278 [(.t 15)])]
 [rg 17 (.build [(.s []),(.sl [] .nl),(.sl [] .nl),(.sl [] .nl),(.sl [] .nl)] [(0,1,(.t 4)),(1,1,(.t 7)),(2,1,(.t 10)),(3,1,(.t 13)),(4,1,(.t 16))]),so (.store 5 (.t 2) (.t 17))])
 (.pre (.norm false [2]) .ret)))
def row587:AFx:=⟨2,156,[.t 4],b587,none,false⟩
def row596:AFx:=⟨0,33,[.t 0],b596,none,false⟩
def row600:AFx:=⟨1,18,[.cell 2 (some 5)],b600,none,false⟩
class Zcy (T:Tbl):Prop where
 h587:T 587=some row587
 h596:T 596=some row596
 h600:T 600=some row600
section
variable{T:Tbl}[Zcy T]{d:Option Nat}{st:St}{xs:List AV}{ps:List Opd}{e:Env}{h:Heap}{ol:List Heap}
@[simp] theorem x596:Zc (orc T) T 596 xs d st=cP T 596 false xs d st:=zaa Zcy.h596
@[simp] theorem y600:opD (orc T) T (.call 600 ps) e h ol=dP T 600 false ps e:=zaj Zcy.h600
end
end Go.Ab
end
section
namespace Go.Ab
open Go.RowKit
def opU:AOp→List Nat
 | .call u _=>[u]
 | .ifc k _=>[1000000+k]
 | .inv _ k u _ _=>[1000000+k,u]
 | .xop (.mkf k) _ | .xop (.mkv k) _=>[1000000+k]
 | _=>[]
def cXs:AX→List Nat
 | .reg l=>l.flatMap fun o=>opU o.op
 | .draw l=>l.flatMap fun o=>opU o.ao.op
 | .drawT hd tl=>(hd.flatMap fun o=>opU o.op)++tl.flatMap fun o=>opU o.op
 | .drawM hd tl=>(hd.flatMap fun o=>opU o.op)++tl.flatMap fun o=>opU o.op
 | .seq a b=>cXs a++cXs b
 | .cond _ x y=>cXs x++cXs y
 | .block _ c | .loop c | .note c _ | .pre _ c | .scope c | .lp _ _ c _=>cXs c
 | .gsc _ c r=>cXs c++cXs r
 | _=>[]
structure Agr (R:Nat→Bool) (T T':Tbl) (O O':Orc):Prop where
 tbl:∀u,R u=true→T u=T' u
 call:∀u xs hb,R u=true→O.call u xs hb=O'.call u xs hb
 loop:∀k c st,(∀u∈cXs c,R u=true)→O.loop k c st=O'.loop k c st
section
variable{R:Nat→Bool}{T T':Tbl}{O O':Orc}
theorem zmf(h:Agr R T T' O O'){u:Nat}(hu:R u=true){xs:List AV}{d:Option Nat}{st:St}:Zc O T u xs d st=Zc O' T' u xs d st:=by
 unfold Zc;rw[h.tbl u hu];simp only[h.call u _ _ hu]
theorem z13(h:Agr R T T' O O'){op:AOp}(hu:∀u∈opU op,R u=true){d:Option Nat}{st:St}:opX O T op d st=opX O' T' op d st:=by
 cases op<;>simp only[opX]
 case call u args=>exact zmf h (hu _ (by simp[opU]))
 case ifc k x=>unfold Zo;rw[h.tbl _ (hu _ (by simp[opU]))]
 case inv nm k u r args=>
  have e1:Zo T k=Zo T' k:=by unfold Zo;rw[h.tbl _ (hu _ (by simp[opU]))]
  have e2:Zcj T k=Zcj T' k:=by unfold Zcj;rw[h.tbl _ (hu _ (by simp[opU]))]
  have e3:Zhj T k=Zhj T' k:=by unfold Zhj;rw[h.tbl _ (hu _ (by simp[opU]))]
  rw[e1,e2,e3];simp only[zmf h (hu u (by simp[opU]))]
 case xop k xs=>
  cases k<;>simp only
  all_goals rename_i k
  all_goals
   have e1:Zo T k=Zo T' k:=by unfold Zo;rw[h.tbl _ (hu _ (by simp[opU]))]
   rw[e1]
theorem zuu(h:Agr R T T' O O'){o:AO}(hu:∀u∈opU o.op,R u=true){st:St}:Zgf O T o st=Zgf O' T' o st:=by
 unfold Zgf gX;simp only[z13 h hu]
theorem zg4(h:Agr R T T' O O'):∀(l:List AO),(∀o∈l,∀u∈opU o.op,R u=true)→∀st,Zds O T l st=Zds O' T' l st
 | [],_,st=>rfl
 | o::l,hu,st=>by
  simp only[Zds];rw[zuu h (hu o Yz)];congr 1
  funext s
  exact zg4 h l (fun o ho=>hu o (Yn _ ho)) s
theorem z14(h:Agr R T T' O O'){op:AOp}(hu:∀u∈opU op,R u=true){e:Env}{hp:Heap}{older:List Heap}:opD O T op e hp older=opD O' T' op e hp older:=by
 by_cases hap:∃z x0 y,op=.app z x0 y
 ·obtain⟨z,x0,y,rfl⟩:=hap;by_cases hc:x0=.c (.sl [] .nl)
  ·subst hc;rfl
  ·rw[zom hc,zom hc]
 cases op<;>(try exact absurd ⟨_,_,_,rfl⟩ hap)<;>simp only[opD]
 case call u args=>
  rw[h.tbl _ (hu _ (by simp[opU]))];simp only[h.call _ _ _ (hu _ (show u∈_ by simp[opU]))]
 case ifc k x=>unfold Zo;rw[h.tbl _ (hu _ (by simp[opU]))]
 case inv nm k u r args=>
  have e1:Zo T k=Zo T' k:=by unfold Zo;rw[h.tbl _ (hu _ (by simp[opU]))]
  have e2:Zcj T k=Zcj T' k:=by unfold Zcj;rw[h.tbl _ (hu _ (by simp[opU]))]
  rw[e1,e2,h.tbl u (hu u (by simp[opU]))];simp only[h.call u _ _ (hu u (by simp[opU]))]
theorem zuv(h:Agr R T T' O O'){o:AO}(hu:∀u∈opU o.op,R u=true){e:Env}{hp:Heap}{older:List Heap}:qX O T o e hp older=qX O' T' o e hp older:=by
 unfold qX;simp only[z14 h hu]
theorem zuw(h:Agr R T T' O O'){u:Nat}(hu:R u=true){ys:List AV}:Zfu O T u ys=Zfu O' T' u ys:=by
 unfold Zfu;rw[h.tbl u hu];simp only[h.call u _ _ hu]
theorem zmg(h:Agr R T T' O O'):∀(l:List DO),(∀o∈l,∀u∈opU o.ao.op,R u=true)→∀e hp clk older pend,Zb2 O T l e hp clk older pend=Zb2 O' T' l e hp clk older pend
 | [],_,e,hp,clk,older,pend=>rfl
 | o::l,hu,e,hp,clk,older,pend=>by
  have ih:=zmg h l (fun o ho=>hu o (Yn _ ho));simp only[Zb2];rw[zuv h (hu o Yz)];simp only[ih];cases o.ao.op.writes with
  | true=>rfl
  | false=>
   simp only;cases hrow:Zg1 o.ao.guard o.ao.op.callN e hp (older.take (older.length-o.lo)) with
   | none=>rfl
   | some p=>
    obtain⟨_,args,hop,_⟩:=zme hrow;have hp:R p.1=true:=hu o Yz _ (by rw[hop];simp[opU]);simp only[zuw h hp]
theorem zmh(h:Agr R T T' O O')(tl:List AO)(ht:∀o∈tl,∀u∈opU o.op,R u=true):∀(l:List AO),(∀o∈l,∀u∈opU o.op,R u=true)→∀e hp clk,Zdk O T tl l e hp clk=Zdk O' T' tl l e hp clk
 | [],_,e,hp,clk=>zg4 h tl ht _
 | o::l,hu,e,hp,clk=>by
  have ih:=zmh h tl ht l (fun o ho=>hu o (Yn _ ho));simp only[Zdk];rw[zuv h (hu o Yz)];simp only[ih]
theorem zux(h:Agr R T T' O O'){u:Nat}(hu:R u=true){xs:List AV}{d clk:Nat}:Zfe O T u xs d clk=Zfe O' T' u xs d clk:=by
 unfold Zfe;rw[h.tbl u hu];simp only[h.call u _ _ hu]
theorem zmi(h:Agr R T T' O O')(tl:List AO)(ht:∀o∈tl,∀u∈opU o.op,R u=true)(h0:Heap)(c0:Nat)(X:Heap):∀(l:List AO),(∀o∈l,∀u∈opU o.op,R u=true)→∀e hp clk,Zbh O T tl h0 c0 X l e hp clk=Zbh O' T' tl h0 c0 X l e hp clk
 | [],_,e,hp,clk=>zg4 h tl ht _
 | o::l,hu,e,hp,clk=>by
  have ih:=zmi h tl ht h0 c0 X l (fun o ho=>hu o (Yn _ ho));simp only[Zbh];rw[zuv h (hu o Yz)];simp only[ih];cases hm:o.op.maker with
  | true=>rfl
  | false=>
   cases hst:o.op.isStore with
   | true=>rfl
   | false=>
   cases hl:o.op.lentN with
   | none=>rfl
   | some ua=>
    have hua:R ua.1=true:=hu o Yz _ (by rw[zjs hl];simp[opU]);simp only[zux h hua]
theorem zby(h:Agr R T T' O O')(k:Nat):∀(c:AX),(∀u∈cXs c,R u=true)→∀st,evX O T k c st=evX O' T' k c st
 | .skip,_,st=>rfl
 | .reg l,hu,st=>by
  simp only[evX];rw[zg4 h l fun o ho u hou=>hu u (Yax.2 ⟨o,ho,hou⟩)]
 | .draw l,hu,st=>by
  simp only[evX];rw[zmg h l fun o ho u hou=>hu u (Yax.2 ⟨o,ho,hou⟩)]
 | .drawT hd tl,hu,st=>by
  simp only[evX];rw[zmh h tl (fun o ho u hou=>hu u (Yau _ (Yax.2 ⟨o,ho,hou⟩))) hd (fun o ho u hou=>hu u (Ya0 _ (Yax.2 ⟨o,ho,hou⟩)))]
 | .drawM hd tl,hu,st=>by
  simp only[evX];rw[zmi h tl (fun o ho u hou=>hu u (Yau _ (Yax.2 ⟨o,ho,hou⟩))) _ _ _ hd (fun o ho u hou=>hu u (Ya0 _ (Yax.2 ⟨o,ho,hou⟩)))]
 | .bad,_,st=>rfl
 | .prim f,_,st=>rfl
 | .seq a b,hu,st=>by
  simp only[evX];rw[zby h k a fun u hm=>hu u (Ya0 _ hm)];congr 1
  funext r
  rw[zby h k b fun u hm=>hu u (Yau _ hm)]
 | .cond c x y,hu,st=>by
  simp only[evX];rw[zby h k x fun u hm=>hu u (Ya0 _ hm),zby h k y fun u hm=>hu u (Yau _ hm)]
 | .block id c,hu,st=>by
  simp only[evX];rw[zby h k c hu]
 | .loop c,hu,st=>h.loop k c st hu
 | .exit id,_,st=>rfl
 | .ret,_,st=>rfl
 | .note c g,hu,st=>by
  simp only[evX];rw[zby h k c hu]
 | .pre g c,hu,st=>by
  simp only[evX];congr 1
  funext s
  exact zby h k c hu s
 | .scope c,hu,st=>by
  simp only[evX];rw[zby h k c hu]
 | .label _,_,st=>rfl
 | .goto _,_,st=>rfl
 | .gsc l c r,hu,st=>by
  simp only[evX];rw[zby h k c fun u hm=>hu u (Ya0 _ hm)];congr 1
  funext s
  exact zby h k r (fun u hm=>hu u (Yau _ hm)) s
 | .lp id g c g2,hu,st=>by
  simp only[evX,h.loop k c _ hu]
theorem zuy(hc:∀u af,R u=true→T u=some af→∀v∈cXs af.body,R v=true)(h:Agr R T T' O O'):Agr R T T' (Zcu T O) (Zcu T' O') where
 tbl:=h.tbl
 call u xs hb hu:=by
  simp only[Zcu];rw[←h.tbl u hu];cases ht:T u with
  | none=>rfl
  | some af=>
   simp only;rw[zby h hb.length af.body (hc u af hu ht)]
 loop k c st hu:=by
  simp only[Zcu];rw[zby h k c hu];congr 1
  funext r
  rw[h.loop k c _ hu]
theorem zkw(ht:∀u,R u=true→T u=T' u)(hc:∀u af,R u=true→T u=some af→∀v∈cXs af.body,R v=true):∀n,Agr R T T' (orcN T n) (orcN T' n)
 | 0=>⟨ht,fun _ _ _ _=>rfl,fun _ _ _ _=>rfl⟩
 | n+1=>zuy hc (zkw ht hc n)
theorem z15(ht:∀u,R u=true→T u=T' u)(hc:∀u af,R u=true→T u=some af→∀v∈cXs af.body,R v=true):Agr R T T' (orc T) (orc T'):=by
 refine⟨ht,fun u xs hb hu=>?_,fun k c st hu=>?_⟩
 ·simp only[orc];congr 1
  funext n
  exact(zkw ht hc n).call u xs hb hu
 ·simp only[orc];congr 1
  funext n
  exact(zkw ht hc n).loop k c st hu
end
theorem zds{l:List (Nat×AFx)}{u:Nat}{af:AFx}(h:l.lookup u=some af):(u,af)∈l:=by
 induction l with
 | nil=>cases h
 | cons q l ih=>
  obtain⟨q1,q2⟩:=q;simp only[Y6]at h;split at h
  ·rename_i he;have:=eq_of_beq he;subst this;cases h;exact Yz
  ·exact Yn _ (ih h)
structure Part (l l':List (Nat×AFx)):Prop where
 sub:∀p∈l',l.lookup p.1=some p.2
 clo:(l'.all fun p=>(cXs p.2.body).all fun v=>(l'.lookup v).isSome || (l.lookup v).isNone)=true
theorem Part.agr{l l':List (Nat×AFx)}(h:Part l l'):Agr (fun u=>(l'.lookup u).isSome || (l.lookup u).isNone) (fun u=>l.lookup u) (fun u=>l'.lookup u) (orc fun u=>l.lookup u) (orc fun u=>l'.lookup u):=by
 refine z15 (fun v hv=>?_) (fun v a hv hva w hw=>?_)
 ·cases hv2:l'.lookup v with
  | none=>
   simp only[hv2]at hv;cases hv3:l.lookup v with
   | none=>rfl
   | some a=>rw[hv3]at hv;cases hv
  | some a=>exact h.sub _ (zds hv2)
 ·cases hv2:l'.lookup v with
  | none=>simp only[hv2,hva]at hv;cases hv
  | some b=>
   have hb:=zds hv2;have h1:=h.sub _ hb;simp only at hva h1;rw[hva]at h1;cases h1;exact Yg.1 (Yg.1 h.clo _ hb) w hw
theorem Part.ev{l l':List (Nat×AFx)}(h:Part l l'){c:AX}(hc:((cXs c).all fun v=>(l'.lookup v).isSome)=true){st:St}{r:Option (Ex×St)}
  (he:evX (orc fun u=>l.lookup u) (fun u=>l.lookup u) 0 c st=r):evX (orc fun u=>l'.lookup u) (fun u=>l'.lookup u) 0 c st=r:=by
 rw[←zby h.agr 0 c (fun v hv=>by rw[Yg.1 hc v hv];rfl) st];exact he
theorem Part.call{l l':List (Nat×AFx)}(h:Part l l'){u:Nat}(hu:(l'.lookup u).isSome=true){xs:List AV}{r:Option AV}(he:Za (fun u=>l.lookup u) u xs=r):Za (fun u=>l'.lookup u) u xs=r:=by
 rw[←he];unfold Za;rw[h.agr.call u xs [] (by rw[hu];rfl)]
end Go.Ab
end