/-
  A calculus of values, boxes and code, and what functions of the program compute, proved in it.
  Conditions: none beyond those that the theorems state. (Part 5: GcRef16, GcRef30, GcLaw09, GcLaw11, GcLaw12, GcGrid, GcLaw24, GcLong33, GcTo33, GcStock, GcLaw31, GcRef31, GcLaw31g, Ax10.)
-/
import Derived.Test.YtoppjelfghopnaaGreatDoorPart4

set_option linter.unusedSectionVars false
set_option linter.unusedVariables false
set_option linter.unusedSimpArgs false
set_option linter.unnecessarySimpa false

section
namespace Go.Ab
def b189:AX:=
 (.seq
 (.reg [rg 2 (.mov (.c (.b false)))])
 (.seq
 (.reg [mv 3 0,rg 4 (.bin .geq (.t 3) (.c (u8 48))),mv 5 4,gd 6 5 true (.mov (.t 0)),gd 7 5 true (.bin .leq (.t 6) (.c (u8 57))),rg 8 (.pick (.t 5) (.t 7) (.c (.b false))),mv 2 8])
 (.pre (.norm false [2]) .ret)))
def b190:AX:=
 (.seq
 (.reg [rg 2 (.mov (.c (.b false)))])
 (.seq
 (.reg [mv 3 0,rg 4 (.bin .geq (.t 3) (.c (u8 97))),mv 5 4,gd 6 5 true (.mov (.t 0)),gd 7 5 true (.bin .leq (.t 6) (.c (u8 122))),rg 8 (.pick (.t 5) (.t 7) (.c (.b false))),mv 9 8,gd 10 9 false (.mov (.t 0)),gd 11 9 false (.bin .geq (.t 10) (.c (u8 65))),gd 12 9 false (.mov (.t 11)),gd 13 12 true (.mov (.t 0)),gd 14 12 true (.bin .leq (.t 13) (.c (u8 90))),gd 15 9 false (.pick (.t 12) (.t 14) (.c (.b false))),rg 16 (.pick (.t 9) (.c (.b true)) (.t 15)),mv 17 16,gd 18 17 false (.mov (.t 0)),gd 19 17 false (.bin .eql (.t 18) (.c (u8 95))),rg 20 (.pick (.t 17) (.c (.b true)) (.t 19)),mv 2 20])
 (.pre (.norm false [2]) .ret)))
def l181_0:AX:=
 (.note
 (.seq
 (.seq
 (.reg [mv 9 4,mv 10 3,rg 11 (.lens (.t 10)),rg 12 (.bin .lss (.t 9) (.t 11))])
 (.cond (.t 12)
 .skip
 (.exit 0)))
 (.seq
 (.block 1
 (.seq
 (.reg [mv 15 3,mv 16 4,rg 17 (.ixs (.t 15) (.t 16)),mv 18 0,rg 19 (.bin .eql (.t 17) (.t 18))])
 (.cond (.t 19)
 (.seq
 (.reg [rg 2 (.mov (.c (.i .i64 3)))])
 (.pre (.norm false [2]) .ret))
 .skip)))
 (.reg [mv 13 4,rg 14 (.bin .add (.t 13) (.c (.i .i64 1))),mv 4 14])))
 (.norm false [0,3,4]))
def b181:AX:=
 (.seq
 (.reg [rg 2 (.mov (.c (.i .i64 0)))])
 (.seq
 (.seq
 (.reg [mv 5 0,rg 6 (.call 189 [(.t 5)])])
 (.cond (.t 6)
 (.seq
 (.reg [rg 2 (.mov (.c (.i .i64 1)))])
 (.pre (.norm false [2]) .ret))
 .skip))
 (.seq
 (.seq
 (.reg [mv 7 0,rg 8 (.call 190 [(.t 7)])])
 (.cond (.t 8)
 (.seq
 (.reg [rg 2 (.mov (.c (.i .i64 2)))])
 (.pre (.norm false [2]) .ret))
 .skip))
 (.seq
 (.reg [rg 3 (.mov (.c (.s [43,45,42,47,94,40,41,91,93,44,59,61])))])
 (.seq
 (.seq
 (.reg [rg 4 (.mov (.c (.i .i64 0)))])
 (.lp 0 (.norm false [0,3,4]) l181_0 (.norm false [])))
 (.seq
 (.reg [rg 2 (.mov (.c (.i .i64 0)))])
 (.pre (.norm false [2]) .ret)))))))
def b180:AX:=
 (.seq
 (.reg [rg 4 (.mov (.c (.b false)))])
 (.seq
 (.reg [mv 5 0,rg 6 (.bin .eql (.t 5) (.c (.i .i64 1))),mv 7 6,gd 8 7 true (.mov (.t 1)),gd 9 7 true (.call 189 [(.t 8)]),rg 10 (.pick (.t 7) (.t 9) (.c (.b false))),mv 11 10,gd 12 11 false (.mov (.t 0)),gd 13 11 false (.bin .eql (.t 12) (.c (.i .i64 2))),gd 14 11 false (.mov (.t 13)),gd 15 14 true (.mov (.t 1)),gd 16 14 true (.call 189 [(.t 15)]),gd 17 14 true (.mov (.t 16)),gd 18 17 false (.mov (.t 1)),gd 19 17 false (.call 190 [(.t 18)]),gd 20 14 true (.pick (.t 17) (.c (.b true)) (.t 19)),gd 21 11 false (.pick (.t 14) (.t 20) (.c (.b false))),rg 22 (.pick (.t 11) (.c (.b true)) (.t 21)),mv 4 22])
 (.pre (.norm false [4]) .ret)))
def b182:AX:=
 (.seq
 (.reg [rg 2 (.mov (.c (.i .i64 0)))])
 (.seq
 (.seq
 (.reg [mv 3 0,rg 4 (.bin .eql (.t 3) (.c (.i .i64 1)))])
 (.cond (.t 4)
 (.seq
 (.reg [rg 2 (.mov (.c (.i .i64 60)))])
 (.pre (.norm false [2]) .ret))
 .skip))
 (.seq
 (.seq
 (.reg [mv 5 0,rg 6 (.bin .eql (.t 5) (.c (.i .i64 2)))])
 (.cond (.t 6)
 (.seq
 (.reg [rg 2 (.mov (.c (.i .i64 12)))])
 (.pre (.norm false [2]) .ret))
 .skip))
 (.seq
 (.reg [rg 2 (.mov (.c (.i .i64 1)))])
 (.pre (.norm false [2]) .ret)))))
def l168_0:AX:=
 (.note
 (.seq
 (.seq
 (.reg [mv 14 6,mv 15 0,rg 16 (.lens (.t 15)),rg 17 (.bin .lss (.t 14) (.t 16))])
 (.cond (.t 17)
 .skip
 (.exit 0)))
 (.seq
 (.block 1
 (.seq
 (.reg [mv 20 0,mv 21 6,rg 22 (.ixs (.t 20) (.t 21)),mv 7 22])
 (.seq
 (.seq
 (.reg [mv 23 7,rg 24 (.bin .eql (.t 23) (.c (u8 10)))])
 (.cond (.t 24)
 (.reg [rg 5 (.mov (.c (.b false)))])
 .skip))
 (.seq
 (.seq
 (.reg [mv 25 7,rg 26 (.bin .eql (.t 25) (.c (u8 35)))])
 (.cond (.t 26)
 (.reg [rg 5 (.mov (.c (.b true)))])
 .skip))
 (.seq
 (.seq
 (.reg [mv 27 5,mv 28 27,gd 29 28 false (.mov (.t 7)),gd 30 28 false (.bin .eql (.t 29) (.c (u8 32))),rg 31 (.pick (.t 28) (.c (.b true)) (.t 30)),mv 32 31,gd 33 32 false (.mov (.t 7)),gd 34 32 false (.bin .eql (.t 33) (.c (u8 9))),rg 35 (.pick (.t 32) (.c (.b true)) (.t 34)),mv 36 35,gd 37 36 false (.mov (.t 7)),gd 38 36 false (.bin .eql (.t 37) (.c (u8 10))),rg 39 (.pick (.t 36) (.c (.b true)) (.t 38)),mv 40 39,gd 41 40 false (.mov (.t 7)),gd 42 40 false (.bin .eql (.t 41) (.c (u8 13))),rg 43 (.pick (.t 40) (.c (.b true)) (.t 42))])
 (.cond (.t 43)
 (.exit 1)
 .skip))
 (.seq
 (.reg [mv 44 4,rg 45 (.len (.t 44)),mv 8 45])
 (.seq
 (.seq
 (.drawT [mv 46 8,rg 47 (.bin .gtr (.t 46) (.c (.i .i64 0))),mv 48 47,gd 49 48 true (.mov (.t 4)),gd 50 48 true (.mov (.t 8)),gd 51 48 true (.bin .sub (.t 50) (.c (.i .i64 1))),gd 52 48 true (.iad 3 (.t 49) (.t 51)),gd 53 48 true (.fad 2 (.t 52)),gd 54 48 true (.load none (.t 53)),gd 55 48 true (.mov (.t 4)),gd 56 48 true (.mov (.t 8)),gd 57 48 true (.bin .sub (.t 56) (.c (.i .i64 1))),gd 58 48 true (.iad 3 (.t 55) (.t 57)),gd 59 48 true (.fad 1 (.t 58)),gd 60 48 true (.load none (.t 59)),gd 61 48 true (.lens (.t 60)),gd 62 48 true (.bin .add (.t 54) (.t 61)),gd 63 48 true (.mov (.t 6)),gd 64 48 true (.bin .eql (.t 62) (.t 63)),rg 65 (.pick (.t 48) (.t 64) (.c (.b false))),mv 66 65,gd 67 66 true (.mov (.t 4)),gd 68 66 true (.mov (.t 8)),gd 69 66 true (.bin .sub (.t 68) (.c (.i .i64 1))),gd 70 66 true (.iad 3 (.t 67) (.t 69)),gd 71 66 true (.fad 0 (.t 70)),gd 72 66 true (.load none (.t 71)),gd 73 66 true (.mov (.t 7))]
 [gd 74 66 true (.call 180 [(.t 72),(.t 73)]),rg 75 (.pick (.t 66) (.t 74) (.c (.b false)))])
 (.cond (.t 75)
 (.drawT [mv 76 4,mv 77 8,rg 78 (.bin .sub (.t 77) (.c (.i .i64 1))),rg 79 (.iad 3 (.t 76) (.t 78)),rg 80 (.fad 1 (.t 79)),rg 81 (.load none (.t 80)),mv 82 0,mv 83 6,mv 84 6,rg 85 (.bin .add (.t 84) (.c (.i .i64 1))),rg 86 (.slstr (.t 82) (some (.t 83)) (some (.t 85)))]
 [rg 87 (.bin .add (.t 81) (.t 86)),rg 88 (.iad 3 (.t 76) (.t 78)),rg 89 (.fad 1 (.t 88)),so (.store 1 (.t 89) (.t 87))])
 (.drawT [mv 90 4,mv 91 7,rg 92 (.call 181 [(.t 91)]),mv 93 0,mv 94 6,mv 95 6,rg 96 (.bin .add (.t 95) (.c (.i .i64 1))),rg 97 (.slstr (.t 93) (some (.t 94)) (some (.t 96))),mv 98 6,rg 99 (.build [(.i .i64 0),(.s []),(.i .i64 0)] [(0,1,(.t 92)),(1,1,(.t 97)),(2,1,(.t 98))]),rg 100 (.bsl 3 [(.i .i64 0),(.s []),(.i .i64 0)] 1 [(0,(.t 99))])]
 [rg 101 (.app 3 (.t 90) (.t 100)),mv 4 101])))
 (.seq
 (.reg [mv 102 4,mv 103 4,rg 104 (.len (.t 103)),rg 105 (.bin .sub (.t 104) (.c (.i .i64 1))),rg 106 (.iad 3 (.t 102) (.t 105)),rg 107 (.load (some 3) (.t 106)),rg 9 (.alloc [(.i .i64 0),(.s []),(.i .i64 0)]),so (.store 3 (.t 9) (.t 107))])
 (.seq
 (.drawT [rg 108 (.fad 0 (.t 9)),rg 109 (.load none (.t 108)),rg 110 (.bin .eql (.t 109) (.c (.i .i64 0))),mv 111 110,gd 112 111 false (.fad 1 (.t 9)),gd 113 111 false (.load none (.t 112)),gd 114 111 false (.lens (.t 113)),gd 115 111 false (.fad 0 (.t 9)),gd 116 111 false (.load none (.t 115)),gd 117 111 false (.call 182 [(.t 116)])]
 [gd 118 111 false (.bin .gtr (.t 114) (.t 117)),rg 119 (.pick (.t 111) (.c (.b true)) (.t 118))])
 (.cond (.t 119)
 (.seq
 (.reg [rg 120 (.bsl 3 [(.i .i64 0),(.s []),(.i .i64 0)] 0 []),mv 121 6,mv 2 120,mv 3 121])
 (.pre (.norm false [2,3]) .ret))
 .skip))))))))))
 (.reg [mv 18 6,rg 19 (.bin .add (.t 18) (.c (.i .i64 1))),mv 6 19])))
 (.norm false [0,4,5,6]))
def b168:AX:=
 (.seq
 (.reg [rg 2 (.mov (.c (.sl [] .nl))),rg 3 (.mov (.c (.i .i64 0)))])
 (.seq
 (.seq
 (.reg [mv 10 0,rg 11 (.lens (.t 10)),rg 12 (.bin .gtr (.t 11) (.c (.i .i64 4000)))])
 (.cond (.t 12)
 (.seq
 (.reg [rg 13 (.bsl 3 [(.i .i64 0),(.s []),(.i .i64 0)] 0 []),mv 2 13,rg 3 (.mov (.c (.i .i64 4000)))])
 (.pre (.norm false [2,3]) .ret))
 .skip))
 (.seq
 (.note (.reg [rg 4 (.mov (.c (.sl [] .nl)))]) (.nil 4 3))
 (.seq
 (.reg [rg 5 (.mov (.c (.b false)))])
 (.seq
 (.seq
 (.reg [rg 6 (.mov (.c (.i .i64 0)))])
 (.lp 0 (.norm false [0,4,5,6]) l168_0 (.norm false [4])))
 (.seq
 (.reg [mv 122 4,mv 2 122,rg 3 (.mov (.c (.i .i64 (-1))))])
 (.pre (.norm false [2,3]) .ret)))))))
def b173:AX:=
 (.seq
 (.reg [rg 1 (.xop (.box 3) [(.t 0)]),rg 2 (.mov (.c (.b false)))])
 (.seq
 (.reg [rg 6 (.fad 1 (.t 1)),rg 7 (.load none (.t 6)),rg 8 (.call 168 [(.t 7)]),mv 5 8,rg 9 (.ext (.t 5) 0),rg 10 (.ext (.t 5) 1),mv 3 9,mv 4 10])
 (.seq
 (.drawT [mv 11 4,rg 12 (.bin .lss (.t 11) (.c (.i .i64 0))),mv 13 12,gd 14 13 true (.mov (.t 3)),gd 15 13 true (.len (.t 14)),gd 16 13 true (.bin .eql (.t 15) (.c (.i .i64 1))),rg 17 (.pick (.t 13) (.t 16) (.c (.b false))),mv 18 17,gd 19 18 true (.mov (.t 3)),gd 20 18 true (.iad 3 (.t 19) (.c (.i .i64 0))),gd 21 18 true (.fad 0 (.t 20)),gd 22 18 true (.load none (.t 21)),gd 23 18 true (.fad 0 (.t 1)),gd 24 18 true (.load none (.t 23)),gd 25 18 true (.bin .eql (.t 22) (.t 24)),rg 26 (.pick (.t 18) (.t 25) (.c (.b false))),mv 27 26,gd 28 27 true (.mov (.t 3)),gd 29 27 true (.iad 3 (.t 28) (.c (.i .i64 0))),gd 30 27 true (.fad 1 (.t 29)),gd 31 27 true (.load none (.t 30)),gd 32 27 true (.fad 1 (.t 1)),gd 33 27 true (.load none (.t 32))]
 [gd 34 27 true (.bin .eql (.t 31) (.t 33)),rg 35 (.pick (.t 27) (.t 34) (.c (.b false))),mv 2 35])
 (.pre (.norm false [2]) .ret))))
def row189:AFx:=⟨1,9,[.t 2],b189,none,false⟩
def row190:AFx:=⟨1,21,[.t 2],b190,none,false⟩
def row181:AFx:=⟨1,20,[.t 2],b181,none,false⟩
def row180:AFx:=⟨2,23,[.t 4],b180,none,false⟩
def row182:AFx:=⟨1,7,[.t 2],b182,none,false⟩
def row168:AFx:=⟨1,123,[.t 2,.t 3],b168,none,false⟩
def row173:AFx:=⟨1,36,[.t 2],b173,none,false⟩
class Zba (T:Tbl):Prop where
 h189:T 189=some row189
 h190:T 190=some row190
 h181:T 181=some row181
 h180:T 180=some row180
 h182:T 182=some row182
 h168:T 168=some row168
 h173:T 173=some row173
section
variable{T:Tbl}[Zba T]{d:Option Nat}{st:St}
@[simp] theorem x189(xs:List AV):Zd (orc T) T 189 xs d st=cP T 189 false xs d st:=zaa Zba.h189
@[simp] theorem x190(xs:List AV):Zd (orc T) T 190 xs d st=cP T 190 false xs d st:=zaa Zba.h190
@[simp] theorem y181{e:Env}{h:Heap}{older:List Heap}(args:List Opd):opD (orc T) T (.call 181 args) e h older=dR (Zb T 181 ((args.map (ev e.get)).map (wkIf false))) (args.map (ev e.get)):=zao Zba.h181
@[simp] theorem x180(xs:List AV):Zd (orc T) T 180 xs d st=cP T 180 false xs d st:=zaa Zba.h180
@[simp] theorem y182{e:Env}{h:Heap}{older:List Heap}(args:List Opd):opD (orc T) T (.call 182 args) e h older=dR (Zb T 182 ((args.map (ev e.get)).map (wkIf false))) (args.map (ev e.get)):=zao Zba.h182
@[simp] theorem x168(xs:List AV):Zd (orc T) T 168 xs d st=cP T 168 false xs d st:=zaa Zba.h168
@[simp] theorem x173(xs:List AV):Zd (orc T) T 173 xs d st=cP T 173 false xs d st:=zaa Zba.h173
end
end Go.Ab
end
section
namespace Go.Ab
def l529_0:AX:=
 (.note
 (.seq
 (.seq
 (.reg [mv 49 4,mv 50 3,rg 51 (.bin .lss (.t 49) (.t 50))])
 (.cond (.t 51)
 .skip
 (.exit 0)))
 (.seq
 (.block 1
 (.seq
 (.reg [rg 54 (.fad 2 (.t 1)),rg 55 (.load none (.t 54)),mv 56 4,rg 57 (.iad 1 (.t 55) (.t 56)),rg 58 (.load none (.t 57)),rg 59 (.len (.t 58)),mv 60 4,rg 61 (.bin .neq (.t 59) (.t 60))])
 (.cond (.t 61)
 (.seq
 (.reg [rg 2 (.mov (.c (.i .i64 2)))])
 (.pre (.norm false [2]) .ret))
 .skip)))
 (.reg [mv 52 4,rg 53 (.bin .add (.t 52) (.c (.i .i64 1))),mv 4 53])))
 (.norm false [1,3,4]))
def l529_1:AX:=
 (.note
 (.seq
 (.seq
 (.reg [mv 62 5,mv 63 3,rg 64 (.bin .lss (.t 62) (.t 63))])
 (.cond (.t 64)
 .skip
 (.exit 2)))
 (.seq
 (.block 3
 (.seq
 (.reg [rg 67 (.fad 2 (.t 1)),rg 68 (.load none (.t 67)),mv 69 5,rg 70 (.iad 1 (.t 68) (.t 69)),rg 71 (.load none (.t 70)),rg 72 (.call 540 [(.t 71)])])
 (.cond (.t 72)
 (.seq
 (.reg [rg 2 (.mov (.c (.i .i64 3)))])
 (.pre (.norm false [2]) .ret))
 .skip)))
 (.reg [mv 65 5,rg 66 (.bin .add (.t 65) (.c (.i .i64 1))),mv 5 66])))
 (.norm false [1,3,5]))
def l529_2:AX:=
 (.note
 (.seq
 (.seq
 (.reg [mv 86 6,mv 87 3,rg 88 (.bin .lss (.t 86) (.t 87))])
 (.cond (.t 88)
 .skip
 (.exit 4)))
 (.seq
 (.block 5
 (.seq
 (.drawT [rg 91 (.fad 2 (.t 1)),rg 92 (.load none (.t 91)),mv 93 6,rg 94 (.iad 1 (.t 92) (.t 93)),rg 95 (.load none (.t 94)),rg 96 (.call 541 [(.t 95)]),rg 97 (.fad 1 (.t 1)),rg 98 (.load none (.t 97)),mv 99 6,rg 100 (.iad 3 (.t 98) (.t 99)),rg 101 (.load (some 3) (.t 100))]
 [rg 102 (.call 233 [(.t 96),(.t 101)]),rg 103 (.un .not (.t 102))])
 (.cond (.t 103)
 (.seq
 (.reg [rg 2 (.mov (.c (.i .i64 4)))])
 (.pre (.norm false [2]) .ret))
 .skip)))
 (.reg [mv 89 6,rg 90 (.bin .add (.t 89) (.c (.i .i64 1))),mv 6 90])))
 (.norm false [1,3,6]))
def b529:AX:=
 (.seq
 (.reg [rg 1 (.xop (.box 5) [(.t 0)]),rg 2 (.mov (.c (.i .i64 0)))])
 (.seq
 (.reg [rg 8 (.fad 3 (.t 1)),rg 9 (.load none (.t 8)),rg 10 (.len (.t 9)),mv 3 10])
 (.seq
 (.seq
 (.reg [rg 11 (.fad 0 (.t 1)),rg 12 (.load none (.t 11)),rg 13 (.build [(.i .i64 0),(.s []),(.i .i64 0)] [(0,1,(.c (.i .i64 2))),(1,1,(.t 12))]),rg 14 (.call 173 [(.t 13)]),rg 15 (.un .not (.t 14))])
 (.cond (.t 15)
 (.seq
 (.reg [rg 2 (.mov (.c (.i .i64 1)))])
 (.pre (.norm false [2]) .ret))
 .skip))
 (.seq
 (.seq
 (.reg [mv 16 3,rg 17 (.bin .lss (.t 16) (.c (.i .i64 1))),mv 18 17,gd 19 18 false (.mov (.t 3)),gd 20 18 false (.bin .gtr (.t 19) (.c (.i .i64 8))),rg 21 (.pick (.t 18) (.c (.b true)) (.t 20)),mv 22 21,gd 23 22 false (.fad 1 (.t 1)),gd 24 22 false (.load none (.t 23)),gd 25 22 false (.len (.t 24)),gd 26 22 false (.mov (.t 3)),gd 27 22 false (.bin .neq (.t 25) (.t 26)),rg 28 (.pick (.t 22) (.c (.b true)) (.t 27)),mv 29 28,gd 30 29 false (.fad 2 (.t 1)),gd 31 29 false (.load none (.t 30)),gd 32 29 false (.len (.t 31)),gd 33 29 false (.mov (.t 3)),gd 34 29 false (.bin .neq (.t 32) (.t 33)),rg 35 (.pick (.t 29) (.c (.b true)) (.t 34)),mv 36 35,gd 37 36 false (.fad 4 (.t 1)),gd 38 36 false (.load none (.t 37)),gd 39 36 false (.len (.t 38)),gd 40 36 false (.bin .neq (.t 39) (.c (.i .i64 0))),gd 41 36 false (.mov (.t 40)),gd 42 41 true (.fad 4 (.t 1)),gd 43 41 true (.load none (.t 42)),gd 44 41 true (.len (.t 43)),gd 45 41 true (.mov (.t 3)),gd 46 41 true (.bin .neq (.t 44) (.t 45)),gd 47 36 false (.pick (.t 41) (.t 46) (.c (.b false))),rg 48 (.pick (.t 36) (.c (.b true)) (.t 47))])
 (.cond (.t 48)
 (.seq
 (.reg [rg 2 (.mov (.c (.i .i64 2)))])
 (.pre (.norm false [2]) .ret))
 .skip))
 (.seq
 (.seq
 (.reg [rg 4 (.mov (.c (.i .i64 0)))])
 (.lp 0 (.norm false [1,3,4]) l529_0 (.norm false [1,3])))
 (.seq
 (.seq
 (.reg [rg 5 (.mov (.c (.i .i64 0)))])
 (.lp 2 (.norm false [1,3,5]) l529_1 (.norm false [1,3])))
 (.seq
 (.seq
 (.reg [rg 73 (.fad 3 (.t 1)),rg 74 (.load none (.t 73)),rg 75 (.call 540 [(.t 74)]),mv 76 75,gd 77 76 false (.fad 1 (.t 1)),gd 78 76 false (.load none (.t 77)),gd 79 76 false (.call 540 [(.t 78)]),rg 80 (.pick (.t 76) (.c (.b true)) (.t 79)),mv 81 80,gd 82 81 false (.fad 4 (.t 1)),gd 83 81 false (.load none (.t 82)),gd 84 81 false (.call 540 [(.t 83)]),rg 85 (.pick (.t 81) (.c (.b true)) (.t 84))])
 (.cond (.t 85)
 (.seq
 (.reg [rg 2 (.mov (.c (.i .i64 3)))])
 (.pre (.norm false [2]) .ret))
 .skip))
 (.seq
 (.seq
 (.reg [rg 6 (.mov (.c (.i .i64 0)))])
 (.lp 4 (.norm false [1,3,6]) l529_2 (.norm false [1])))
 (.seq
 (.reg [rg 104 (.call 232 [(.c (.i .i64 1))]),rg 7 (.alloc [(.b false),(.sl [] .nl),(.sl [] .nl)]),so (.store 3 (.t 7) (.t 104))])
 (.seq
 (.seq
 (.drawT [rg 105 (.fad 3 (.t 1)),rg 106 (.load none (.t 105)),rg 107 (.call 541 [(.t 106)]),rg 108 (.load (some 3) (.t 7))]
 [rg 109 (.call 233 [(.t 107),(.t 108)]),rg 110 (.un .not (.t 109))])
 (.cond (.t 110)
 (.seq
 (.reg [rg 2 (.mov (.c (.i .i64 5)))])
 (.pre (.norm false [2]) .ret))
 .skip))
 (.seq
 (.seq
 (.drawT [rg 111 (.fad 4 (.t 1)),rg 112 (.load none (.t 111)),rg 113 (.len (.t 112)),rg 114 (.bin .gtr (.t 113) (.c (.i .i64 0))),mv 115 114,gd 116 115 true (.fad 4 (.t 1)),gd 117 115 true (.load none (.t 116)),gd 118 115 true (.call 541 [(.t 117)]),gd 119 115 true (.load (some 3) (.t 7))]
 [gd 120 115 true (.call 233 [(.t 118),(.t 119)]),gd 121 115 true (.un .not (.t 120)),rg 122 (.pick (.t 115) (.t 121) (.c (.b false)))])
 (.cond (.t 122)
 (.seq
 (.reg [rg 2 (.mov (.c (.i .i64 6)))])
 (.pre (.norm false [2]) .ret))
 .skip))
 (.seq
 (.reg [rg 2 (.mov (.c (.i .i64 0)))])
 (.pre (.norm false [2]) .ret)))))))))))))
def l540_0:AX:=
 (.note
 (.seq
 (.seq
 (.reg [mv 4 3,mv 5 0,rg 6 (.len (.t 5)),rg 7 (.bin .lss (.t 4) (.t 6))])
 (.cond (.t 7)
 .skip
 (.exit 0)))
 (.seq
 (.block 1
 (.seq
 (.drawT [mv 10 0,mv 11 3,rg 12 (.iad 3 (.t 10) (.t 11)),rg 13 (.load (some 3) (.t 12)),rg 14 (.call 231 [(.t 13)]),mv 15 0,mv 16 3,rg 17 (.iad 3 (.t 15) (.t 16)),rg 18 (.load (some 3) (.t 17)),rg 19 (.call 233 [(.t 14),(.t 18)]),rg 20 (.un .not (.t 19)),mv 21 20,gd 22 21 false (.mov (.t 0)),gd 23 21 false (.mov (.t 3))]
 [gd 24 21 false (.iad 3 (.t 22) (.t 23)),gd 25 21 false (.load (some 3) (.t 24)),gd 26 21 false (.call 245 [(.t 25)]),gd 27 21 false (.bin .gtr (.t 26) (.c (.i .i64 190))),rg 28 (.pick (.t 21) (.c (.b true)) (.t 27))])
 (.cond (.t 28)
 (.seq
 (.reg [rg 2 (.mov (.c (.b true)))])
 (.pre (.norm false [2]) .ret))
 .skip)))
 (.reg [mv 8 3,rg 9 (.bin .add (.t 8) (.c (.i .i64 1))),mv 3 9])))
 (.norm false [0,3]))
def b540:AX:=
 (.seq
 (.reg [rg 2 (.mov (.c (.b false)))])
 (.seq
 (.seq
 (.reg [rg 3 (.mov (.c (.i .i64 0)))])
 (.lp 0 (.norm false [0,3]) l540_0 (.norm false [])))
 (.seq
 (.reg [rg 2 (.mov (.c (.b false)))])
 (.pre (.norm false [2]) .ret))))
def l541_0:AX:=
 (.note
 (.seq
 (.seq
 (.reg [mv 6 4,mv 7 0,rg 8 (.len (.t 7)),rg 9 (.bin .lss (.t 6) (.t 8))])
 (.cond (.t 9)
 .skip
 (.exit 0)))
 (.seq
 (.block 1
 (.drawT [rg 12 (.load (some 3) (.t 3)),mv 13 0,mv 14 4,rg 15 (.iad 3 (.t 13) (.t 14)),rg 16 (.load (some 3) (.t 15))]
 [rg 17 (.call 239 [(.t 12),(.t 16)]),so (.store 3 (.t 3) (.t 17))]))
 (.reg [mv 10 4,rg 11 (.bin .add (.t 10) (.c (.i .i64 1))),mv 4 11])))
 (.norm false [0,2,3,4]))
def b541:AX:=
 (.seq
 (.reg [rg 2 (.alloc [(.b false),(.sl [] .nl),(.sl [] .nl)])])
 (.seq
 (.reg [rg 5 (.call 232 [(.c (.i .i64 0))]),rg 3 (.alloc [(.b false),(.sl [] .nl),(.sl [] .nl)]),so (.store 3 (.t 3) (.t 5))])
 (.seq
 (.seq
 (.reg [rg 4 (.mov (.c (.i .i64 0)))])
 (.lp 0 (.norm false [0,2,3,4]) l541_0 (.norm false [2,3])))
 (.seq
 (.reg [rg 18 (.load (some 3) (.t 3)),so (.store 3 (.t 2) (.t 18))])
 (.pre (.norm false [2]) .ret)))))
def row529:AFx:=⟨1,123,[.t 2],b529,none,false⟩
def row540:AFx:=⟨1,29,[.t 2],b540,none,false⟩
def row541:AFx:=⟨1,19,[.cell 2 (some 3)],b541,none,false⟩
class Zc6 (T:Tbl):Prop where
 h529:T 529=some row529
 h540:T 540=some row540
 h541:T 541=some row541
section
variable{T:Tbl}[Zc6 T]{d:Option Nat}{st:St}{xs:List AV}{ps:List Opd}{e:Env}{h:Heap}{ol:List Heap}
@[simp] theorem x529:Zd (orc T) T 529 xs d st=cP T 529 false xs d st:=zaa Zc6.h529
@[simp] theorem x540:Zd (orc T) T 540 xs d st=cP T 540 false xs d st:=zaa Zc6.h540
@[simp] theorem y541:opD (orc T) T (.call 541 ps) e h ol=dP T 541 false ps e:=zao Zc6.h541
end
end Go.Ab
end
section
namespace Go.Ab
def b249:AX:=
 (.seq
 (.reg [rg 1 (.xop (.box 3) [(.t 0)]),rg 2 (.alloc [(.b false),(.sl [] .nl),(.sl [] .nl)])])
 (.seq
 (.reg [rg 3 (.fad 0 (.t 1)),rg 4 (.fad 0 (.t 3)),rg 5 (.load none (.t 4)),rg 6 (.fad 0 (.t 1)),rg 7 (.fad 1 (.t 6)),rg 8 (.load none (.t 7)),rg 9 (.fad 2 (.t 1)),rg 10 (.load none (.t 9)),rg 11 (.build [(.b false),(.sl [] .nl),(.sl [] .nl)] [(0,1,(.t 5)),(1,1,(.t 8)),(2,1,(.t 10))]),so (.store 3 (.t 2) (.t 11))])
 (.pre (.norm false [2]) .ret)))
def row249:AFx:=⟨1,12,[.cell 2 (some 3)],b249,none,false⟩
class Zdv (T:Tbl):Prop where
 h249:T 249=some row249
section
variable{T:Tbl}[Zdv T]{d:Option Nat}{st:St}{xs:List AV}{ps:List Opd}{e:Env}{h:Heap}{ol:List Heap}
@[simp] theorem x249:Zd (orc T) T 249 xs d st=cP T 249 false xs d st:=zaa Zdv.h249
end
end Go.Ab
end
section
namespace Go.Ab
def l288_0:AX:=
 (.note
 (.seq
 (.seq
 (.reg [mv 5 4,mv 6 0,rg 7 (.len (.t 6)),rg 8 (.bin .lss (.t 5) (.t 7))])
 (.cond (.t 8)
 .skip
 (.exit 0)))
 (.seq
 (.block 1
 (.reg [mv 11 3,mv 12 0,mv 13 4,rg 14 (.iad 3 (.t 12) (.t 13)),rg 15 (.load (some 3) (.t 14)),rg 16 (.call 249 [(.t 15)]),rg 17 (.bsl 3 [(.b false),(.sl [] .nl),(.sl [] .nl)] 1 [(0,(.t 16))]),rg 18 (.app 3 (.t 11) (.t 17)),mv 3 18]))
 (.reg [mv 9 4,rg 10 (.bin .add (.t 9) (.c (.i .i64 1))),mv 4 10])))
 (.norm false [0,3,4]))
def b288:AX:=
 (.seq
 (.reg [rg 2 (.mov (.c (.sl [] .nl)))])
 (.seq
 (.note (.reg [rg 3 (.mov (.c (.sl [] .nl)))]) (.nil 3 3))
 (.seq
 (.seq
 (.reg [rg 4 (.mov (.c (.i .i64 0)))])
 (.lp 0 (.norm false [0,3,4]) l288_0 (.norm false [3])))
 (.seq
 (.reg [mv 19 3,mv 2 19])
 (.pre (.norm false [2]) .ret)))))
def row288:AFx:=⟨1,20,[.t 2],b288,none,false⟩
class Zdw (T:Tbl):Prop where
 h288:T 288=some row288
section
variable{T:Tbl}[Zdw T]{d:Option Nat}{st:St}{xs:List AV}{ps:List Opd}{e:Env}{h:Heap}{ol:List Heap}
@[simp] theorem y288:opD (orc T) T (.call 288 ps) e h ol=dP T 288 false ps e:=zao Zdw.h288
end
end Go.Ab
end
section
namespace Go.Ab
class Zh2 (T:Tbl):Prop where
end Go.Ab
end
section
namespace Go.Ab
class Zhl (T:Tbl):Prop where
end Go.Ab
end
section
namespace Go.Ab
class Zh3 (T:Tbl):Prop where
end Go.Ab
end
section
namespace Go.Ab
class Zh4 (T:Tbl):Prop where
end Go.Ab
end
section
namespace Go.Ab
class Zj2 (T:Tbl):Prop where
end Go.Ab
end
section
namespace Go.Ab
def l603_0:AX:=
 (.note
 (.seq
 (.reg [rg 10 (.bin .lss (.t 9) (.c (.i .i64 6)))])
 (.seq
 (.cond (.t 10)
 .skip
 (.exit 0))
 (.seq
 (.block 1
 (.seq
 (.reg [rg 11 (.ixa 1 6 none (.t 8) (.t 9)),mv 5 11])
 (.seq
 (.reg [mv 12 5,rg 13 (.call 610 [(.t 12)]),mv 14 0,rg 15 (.bin .eql (.t 13) (.t 14))])
 (.cond (.t 15)
 (.seq
 (.reg [mv 17 5,rg 18 (.call 608 [(.t 17)]),mv 16 18,rg 19 (.ext (.t 16) 0),rg 20 (.ext (.t 16) 1),rg 6 (.alloc [(.s []),(.sl [] .nl),(.sl [] .nl),(.sl [] .nl),(.sl [] .nl)]),rg 7 (.alloc [(.i .i64 0),(.i .i64 0),(.i .i64 0),(.i .i64 0)]),so (.store 5 (.t 6) (.t 19)),so (.store 4 (.t 7) (.t 20))])
 (.seq
 (.reg [rg 21 (.load (some 5) (.t 6)),so (.store 5 (.t 2) (.t 21)),rg 3 (.mov (.c (.b true)))])
 (.pre (.norm false [2,3]) .ret)))
 .skip))))
 (.reg [rg 22 (.bin .add (.t 9) (.c (.i .i64 1))),mv 9 22]))))
 (.norm false [0,2,8,9]))
def b603:AX:=
 (.seq
 (.reg [rg 2 (.alloc [(.s []),(.sl [] .nl),(.sl [] .nl),(.sl [] .nl),(.sl [] .nl)]),rg 3 (.mov (.c (.b false)))])
 (.seq
 (.seq
 (.reg [rg 8 (.call 609 []),rg 9 (.mov (.c (.i .i64 0)))])
 (.lp 0 (.norm false [0,2,8,9]) l603_0 (.norm false [2])))
 (.seq
 (.reg [rg 23 (.build [(.s []),(.sl [] .nl),(.sl [] .nl),(.sl [] .nl),(.sl [] .nl)] []),so (.store 5 (.t 2) (.t 23)),rg 3 (.mov (.c (.b false)))])
 (.pre (.norm false [2,3]) .ret))))
def b609:AX:=
 (.seq
 (.reg [rg 0 (.alloc [(.s []),(.s []),(.s []),(.s []),(.s []),(.s [])])])
 (.seq
 (.reg [rg 1 (.build [(.s []),(.s []),(.s []),(.s []),(.s []),(.s [])] [(0,1,(.c (.s [101,117,108,101,114,10,48,124,10,98,32,49]))),(1,1,(.c (.s [104,101,117,110,10,48,124,10,49,124,49,10,98,32,49,47,50,44,49,47,50,10,101,32,49,44,48]))),(2,1,(.c (.s [109,105,100,112,111,105,110,116,10,48,124,10,49,47,50,124,49,47,50,10,98,32,48,44,49,10,101,32,49,44,48]))),(3,1,(.c (.s [114,107,52,10,48,124,10,49,47,50,124,49,47,50,10,49,47,50,124,48,44,49,47,50,10,49,124,48,44,48,44,49,10,98,32,49,47,54,44,49,47,51,44,49,47,51,44,49,47,54]))),(4,1,(.c (.s [98,115,50,51,10,48,124,10,49,47,50,124,49,47,50,10,51,47,52,124,48,44,51,47,52,10,49,124,50,47,57,44,49,47,51,44,52,47,57,10,98,32,50,47,57,44,49,47,51,44,52,47,57,44,48,10,101,32,55,47,50,52,44,49,47,52,44,49,47,51,44,49,47,56]))),(5,1,(.c (.s [100,112,52,53,10,48,124,10,49,47,53,124,49,47,53,10,51,47,49,48,124,51,47,52,48,44,57,47,52,48,10,52,47,53,124,52,52,47,52,53,44,45,53,54,47,49,53,44,51,50,47,57,10,56,47,57,124,49,57,51,55,50,47,54,53,54,49,44,45,50,53,51,54,48,47,50,49,56,55,44,54,52,52,52,56,47,54,53,54,49,44,45,50,49,50,47,55,50,57,10,49,124,57,48,49,55,47,51,49,54,56,44,45,51,53,53,47,51,51,44,52,54,55,51,50,47,53,50,52,55,44,52,57,47,49,55,54,44,45,53,49,48,51,47,49,56,54,53,54,10,49,124,51,53,47,51,56,52,44,48,44,53,48,48,47,49,49,49,51,44,49,50,53,47,49,57,50,44,45,50,49,56,55,47,54,55,56,52,44,49,49,47,56,52,10,98,32,51,53,47,51,56,52,44,48,44,53,48,48,47,49,49,49,51,44,49,50,53,47,49,57,50,44,45,50,49,56,55,47,54,55,56,52,44,49,49,47,56,52,44,48,10,101,32,53,49,55,57,47,53,55,54,48,48,44,48,44,55,53,55,49,47,49,54,54,57,53,44,51,57,51,47,54,52,48,44,45,57,50,48,57,55,47,51,51,57,50,48,48,44,49,56,55,47,50,49,48,48,44,49,47,52,48])))]),so (.store 6 (.t 0) (.t 1))])
 (.pre (.norm false [0]) .ret)))
def b610:AX:=
 (.seq
 (.reg [rg 2 (.mov (.c (.s [])))])
 (.seq
 (.reg [mv 7 0,rg 8 (.call 184 [(.t 7),(.c (.s [10]))]),mv 6 8,rg 9 (.ext (.t 6) 0),rg 10 (.ext (.t 6) 1),rg 11 (.ext (.t 6) 2),mv 3 9,mv 4 10,mv 5 11])
 (.seq
 (.reg [mv 12 3,mv 2 12])
 (.pre (.norm false [2]) .ret))))
def b627:AX:=
 (.seq
 (.reg [rg 2 (.alloc [(.s []),(.sl [] .nl),(.sl [] .nl),(.sl [] .nl),(.sl [] .nl)]),rg 3 (.alloc [(.i .i64 0),(.i .i64 0),(.i .i64 0),(.i .i64 0)])])
 (.seq
 (.seq
 (.reg [mv 7 0,rg 8 (.call 603 [(.t 7)]),mv 6 8,rg 9 (.ext (.t 6) 0),rg 10 (.ext (.t 6) 1),rg 4 (.alloc [(.s []),(.sl [] .nl),(.sl [] .nl),(.sl [] .nl),(.sl [] .nl)]),so (.store 5 (.t 4) (.t 9)),mv 5 10])
 (.seq
 (.reg [mv 11 5])
 (.cond (.t 11)
 (.seq
 (.reg [rg 12 (.load (some 5) (.t 4)),rg 13 (.build [(.i .i64 0),(.i .i64 0),(.i .i64 0),(.i .i64 0)] []),so (.store 5 (.t 2) (.t 12)),so (.store 4 (.t 3) (.t 13))])
 (.pre (.norm false [2,3]) .ret))
 .skip)))
 (.seq
 (.reg [mv 14 0,rg 15 (.call 608 [(.t 14)]),rg 16 (.ext (.t 15) 0),rg 17 (.ext (.t 15) 1),so (.store 5 (.t 2) (.t 16)),so (.store 4 (.t 3) (.t 17))])
 (.pre (.norm false [2,3]) .ret))))
def l632_0:AX:=
 (.note
 (.seq
 (.reg [rg 6 (.bin .lss (.t 5) (.c (.i .i64 6)))])
 (.seq
 (.cond (.t 6)
 .skip
 (.exit 0))
 (.seq
 (.block 1
 (.seq
 (.reg [rg 7 (.ixa 1 6 none (.t 4) (.t 5)),mv 3 7])
 (.reg [mv 8 1,mv 9 3,rg 10 (.call 610 [(.t 9)]),rg 11 (.bsl 1 [(.s [])] 1 [(0,(.t 10))]),rg 12 (.app 1 (.t 8) (.t 11)),mv 1 12])))
 (.reg [rg 13 (.bin .add (.t 5) (.c (.i .i64 1))),mv 5 13]))))
 (.norm false [1,4,5]))
def b632:AX:=
 (.seq
 (.reg [rg 0 (.mov (.c (.sl [] .nl)))])
 (.seq
 (.note (.reg [rg 1 (.mov (.c (.sl [] .nl)))]) (.nil 1 1))
 (.seq
 (.seq
 (.reg [rg 4 (.call 609 []),rg 5 (.mov (.c (.i .i64 0)))])
 (.lp 0 (.norm false [1,4,5]) l632_0 (.norm false [1])))
 (.seq
 (.reg [mv 14 1,mv 0 14])
 (.pre (.norm false [0]) .ret)))))
def row603:AFx:=⟨1,24,[.cell 2 (some 5),.t 3],b603,none,false⟩
def row609:AFx:=⟨0,2,[.cell 0 (some 6)],b609,none,false⟩
def row610:AFx:=⟨1,13,[.t 2],b610,none,false⟩
def row627:AFx:=⟨1,18,[.cell 2 (some 5),.cell 3 (some 4)],b627,none,false⟩
def row632:AFx:=⟨0,15,[.t 0],b632,none,false⟩
class Zcq (T:Tbl):Prop where
 h603:T 603=some row603
 h609:T 609=some row609
 h610:T 610=some row610
 h627:T 627=some row627
 h632:T 632=some row632
section
variable{T:Tbl}[Zcq T]{d:Option Nat}{st:St}{xs:List AV}{ps:List Opd}{e:Env}{h:Heap}{ol:List Heap}
@[simp] theorem x603:Zd (orc T) T 603 xs d st=cP T 603 false xs d st:=zaa Zcq.h603
@[simp] theorem x609:Zd (orc T) T 609 xs d st=cP T 609 false xs d st:=zaa Zcq.h609
@[simp] theorem x610:Zd (orc T) T 610 xs d st=cP T 610 false xs d st:=zaa Zcq.h610
@[simp] theorem x627:Zd (orc T) T 627 xs d st=cP T 627 false xs d st:=zaa Zcq.h627
@[simp] theorem x632:Zd (orc T) T 632 xs d st=cP T 632 false xs d st:=zaa Zcq.h632
end
end Go.Ab
end
section
namespace Go.Ab
def b626:AX:=
 (.seq
 (.reg [rg 0 (.mov (.c (.b false)))])
 (.seq
 (.reg [rg 6 (.call 603 [(.c (.s [101,117,108,101,114]))]),mv 5 6,rg 7 (.ext (.t 5) 0),rg 8 (.ext (.t 5) 1),rg 1 (.alloc [(.s []),(.sl [] .nl),(.sl [] .nl),(.sl [] .nl),(.sl [] .nl)]),so (.store 5 (.t 1) (.t 7)),mv 2 8])
 (.seq
 (.reg [rg 10 (.call 603 [(.c (.s [69,117,108,101,114]))]),mv 9 10,rg 11 (.ext (.t 9) 0),rg 12 (.ext (.t 9) 1),rg 3 (.alloc [(.s []),(.sl [] .nl),(.sl [] .nl),(.sl [] .nl),(.sl [] .nl)]),so (.store 5 (.t 3) (.t 11)),mv 4 12])
 (.seq
 (.reg [mv 13 2,mv 14 13,gd 15 14 true (.fad 3 (.t 1)),gd 16 14 true (.load none (.t 15)),gd 17 14 true (.len (.t 16)),gd 18 14 true (.bin .eql (.t 17) (.c (.i .i64 1))),rg 19 (.pick (.t 14) (.t 18) (.c (.b false))),mv 20 19,gd 21 20 true (.mov (.t 4)),gd 22 20 true (.un .not (.t 21)),rg 23 (.pick (.t 20) (.t 22) (.c (.b false))),mv 0 23])
 (.pre (.norm false [0]) .ret)))))
def row626:AFx:=⟨0,24,[.t 0],b626,none,false⟩
class Zfz (T:Tbl):Prop where
 h626:T 626=some row626
section
variable{T:Tbl}[Zfz T]{d:Option Nat}{st:St}{xs:List AV}{ps:List Opd}{e:Env}{h:Heap}{ol:List Heap}
@[simp] theorem x626:Zd (orc T) T 626 xs d st=cP T 626 false xs d st:=zaa Zfz.h626
end
end Go.Ab
end
section
namespace Go.Ab
def l629_0:AX:=
 (.note
 (.seq
 (.seq
 (.reg [mv 43 7,rg 44 (.bin .add (.t 43) (.c (.i .i64 1))),mv 45 5,rg 46 (.len (.t 45)),rg 47 (.bin .lss (.t 44) (.t 46))])
 (.cond (.t 47)
 .skip
 (.exit 0)))
 (.block 1
 (.seq
 (.drawT [mv 48 0,mv 49 5,mv 50 7,rg 51 (.iad 1 (.t 49) (.t 50)),rg 52 (.load none (.t 51)),mv 53 5,mv 54 7,rg 55 (.bin .add (.t 54) (.c (.i .i64 1))),rg 56 (.iad 1 (.t 53) (.t 55)),rg 57 (.load none (.t 56)),rg 58 (.bin .sub (.t 57) (.c (.i .i64 1)))]
 [rg 59 (.slstr (.t 48) (some (.t 52)) (some (.t 58))),mv 8 59])
 (.seq
 (.reg [mv 60 8,rg 61 (.call 637 [(.t 60)]),mv 9 61])
 (.seq
 (.seq
 (.reg [mv 62 9,mv 63 8,rg 64 (.lens (.t 63)),rg 65 (.bin .eql (.t 62) (.t 64))])
 (.cond (.t 65)
 (.exit 0)
 .skip))
 (.seq
 (.reg [mv 67 8,mv 68 9,rg 69 (.slstr (.t 67) none (some (.t 68))),rg 70 (.call 261 [(.t 69)]),mv 66 70,rg 71 (.ext (.t 66) 0),rg 72 (.ext (.t 66) 1),rg 73 (.ext (.t 66) 2),rg 10 (.alloc [(.b false),(.sl [] .nl),(.sl [] .nl)]),so (.store 3 (.t 10) (.t 71)),mv 11 72,mv 12 73])
 (.seq
 (.seq
 (.reg [mv 74 11,rg 75 (.bin .neq (.t 74) (.c (.i .i64 0)))])
 (.cond (.t 75)
 (.seq
 (.draw [⟨rg 76 (.load (some 5) (.t 4)),0,0⟩,⟨mv 77 11,0,1⟩,⟨mv 78 5,0,1⟩,⟨mv 79 7,0,1⟩,⟨rg 80 (.iad 1 (.t 78) (.t 79)),0,1⟩,⟨rg 81 (.load none (.t 80)),0,1⟩,⟨mv 82 12,0,1⟩,⟨rg 83 (.bin .add (.t 81) (.t 82)),0,1⟩,⟨rg 84 (.build [(.i .i64 0),(.i .i64 0)] [(0,1,(.t 77)),(1,1,(.t 83))]),0,1⟩,⟨so (.store 5 (.t 2) (.t 76)),0,1⟩,⟨so (.store 2 (.t 3) (.t 84)),1,2⟩])
 (.pre (.norm false [2,3]) .ret))
 .skip))
 (.seq
 (.reg [mv 86 8,mv 87 9,rg 88 (.bin .add (.t 87) (.c (.i .i64 1))),rg 89 (.slstr (.t 86) (some (.t 88)) none),rg 90 (.call 285 [(.t 89)]),mv 85 90,rg 91 (.ext (.t 85) 0),rg 92 (.ext (.t 85) 1),rg 93 (.ext (.t 85) 2),mv 13 91,mv 11 92,mv 12 93])
 (.seq
 (.seq
 (.reg [mv 94 11,rg 95 (.bin .neq (.t 94) (.c (.i .i64 0)))])
 (.cond (.t 95)
 (.seq
 (.draw [⟨rg 96 (.load (some 5) (.t 4)),0,0⟩,⟨mv 97 11,0,1⟩,⟨mv 98 5,0,1⟩,⟨mv 99 7,0,1⟩,⟨rg 100 (.iad 1 (.t 98) (.t 99)),0,1⟩,⟨rg 101 (.load none (.t 100)),0,1⟩,⟨mv 102 9,0,1⟩,⟨rg 103 (.bin .add (.t 101) (.t 102)),0,1⟩,⟨rg 104 (.bin .add (.t 103) (.c (.i .i64 1))),0,1⟩,⟨mv 105 12,0,1⟩,⟨rg 106 (.bin .add (.t 104) (.t 105)),0,1⟩,⟨rg 107 (.build [(.i .i64 0),(.i .i64 0)] [(0,1,(.t 97)),(1,1,(.t 106))]),0,1⟩,⟨so (.store 5 (.t 2) (.t 96)),0,1⟩,⟨so (.store 2 (.t 3) (.t 107)),1,2⟩])
 (.pre (.norm false [2,3]) .ret))
 .skip))
 (.seq
 (.reg [rg 108 (.fad 1 (.t 6)),rg 109 (.load none (.t 108)),rg 110 (.load (some 3) (.t 10)),rg 111 (.bsl 3 [(.b false),(.sl [] .nl),(.sl [] .nl)] 1 [(0,(.t 110))]),rg 112 (.app 3 (.t 109) (.t 111)),rg 113 (.fad 1 (.t 6)),so (.store 1 (.t 113) (.t 112))])
 (.seq
 (.reg [rg 114 (.fad 2 (.t 6)),rg 115 (.load none (.t 114)),mv 116 13,rg 117 (.bsl 1 [(.sl [] .nl)] 1 [(0,(.t 116))]),rg 118 (.app 1 (.t 115) (.t 117)),rg 119 (.fad 2 (.t 6)),so (.store 1 (.t 119) (.t 118))])
 (.reg [mv 120 7,rg 121 (.bin .add (.t 120) (.c (.i .i64 1))),mv 7 121]))))))))))))
 (.norm false [0,2,3,4,5,6,7]))
def l629_1:AX:=
 (.note
 (.seq
 (.seq
 (.reg [mv 122 14,rg 123 (.bin .lss (.t 122) (.c (.i .i64 2)))])
 (.cond (.t 123)
 .skip
 (.exit 2)))
 (.seq
 (.block 3
 (.seq
 (.seq
 (.reg [mv 126 7,rg 127 (.bin .add (.t 126) (.c (.i .i64 1))),mv 128 5,rg 129 (.len (.t 128)),rg 130 (.bin .eql (.t 127) (.t 129)),mv 131 130,gd 132 131 true (.mov (.t 14)),gd 133 131 true (.bin .eql (.t 132) (.c (.i .i64 1))),rg 134 (.pick (.t 131) (.t 133) (.c (.b false)))])
 (.cond (.t 134)
 (.exit 2)
 .skip))
 (.seq
 (.reg [mv 135 14,mv 136 14,rg 137 (.bin .add (.t 136) (.c (.i .i64 1))),rg 138 (.slstr (.c (.s [98,101])) (some (.t 135)) (some (.t 137))),mv 15 138])
 (.seq
 (.reg [rg 16 (.mov (.c (.s [])))])
 (.seq
 (.seq
 (.reg [mv 139 7,rg 140 (.bin .add (.t 139) (.c (.i .i64 1))),mv 141 5,rg 142 (.len (.t 141)),rg 143 (.bin .lss (.t 140) (.t 142))])
 (.cond (.t 143)
 (.drawT [mv 144 0,mv 145 5,mv 146 7,rg 147 (.iad 1 (.t 145) (.t 146)),rg 148 (.load none (.t 147)),mv 149 5,mv 150 7,rg 151 (.bin .add (.t 150) (.c (.i .i64 1))),rg 152 (.iad 1 (.t 149) (.t 151)),rg 153 (.load none (.t 152)),rg 154 (.bin .sub (.t 153) (.c (.i .i64 1)))]
 [rg 155 (.slstr (.t 144) (some (.t 148)) (some (.t 154))),mv 16 155])
 .skip))
 (.seq
 (.seq
 (.reg [mv 156 16,rg 157 (.lens (.t 156)),rg 158 (.bin .lss (.t 157) (.c (.i .i64 2))),mv 159 158,gd 160 159 false (.mov (.t 16)),gd 161 159 false (.slstr (.t 160) none (some (.c (.i .i64 2)))),gd 162 159 false (.mov (.t 15)),gd 163 159 false (.bin .add (.t 162) (.c (.s [32]))),gd 164 159 false (.bin .neq (.t 161) (.t 163)),rg 165 (.pick (.t 159) (.c (.b true)) (.t 164))])
 (.cond (.t 165)
 (.seq
 (.draw [⟨rg 166 (.load (some 5) (.t 4)),0,0⟩,⟨mv 167 5,0,1⟩,⟨mv 168 7,0,1⟩,⟨rg 169 (.iad 1 (.t 167) (.t 168)),0,1⟩,⟨rg 170 (.load none (.t 169)),0,1⟩,⟨mv 171 0,0,1⟩,⟨rg 172 (.lens (.t 171)),0,1⟩,⟨rg 173 (.mm false [(.t 170),(.t 172)]),0,1⟩,⟨rg 174 (.build [(.i .i64 0),(.i .i64 0)] [(0,1,(.c (.i .i64 1))),(1,1,(.t 173))]),0,1⟩,⟨so (.store 5 (.t 2) (.t 166)),0,1⟩,⟨so (.store 2 (.t 3) (.t 174)),1,2⟩])
 (.pre (.norm false [2,3]) .ret))
 .skip))
 (.seq
 (.reg [mv 176 16,rg 177 (.slstr (.t 176) (some (.c (.i .i64 2))) none),rg 178 (.call 285 [(.t 177)]),mv 175 178,rg 179 (.ext (.t 175) 0),rg 180 (.ext (.t 175) 1),rg 181 (.ext (.t 175) 2),mv 17 179,mv 18 180,mv 19 181])
 (.seq
 (.seq
 (.reg [mv 182 18,rg 183 (.bin .neq (.t 182) (.c (.i .i64 0)))])
 (.cond (.t 183)
 (.seq
 (.draw [⟨rg 184 (.load (some 5) (.t 4)),0,0⟩,⟨mv 185 18,0,1⟩,⟨mv 186 5,0,1⟩,⟨mv 187 7,0,1⟩,⟨rg 188 (.iad 1 (.t 186) (.t 187)),0,1⟩,⟨rg 189 (.load none (.t 188)),0,1⟩,⟨rg 190 (.bin .add (.t 189) (.c (.i .i64 2))),0,1⟩,⟨mv 191 19,0,1⟩,⟨rg 192 (.bin .add (.t 190) (.t 191)),0,1⟩,⟨rg 193 (.build [(.i .i64 0),(.i .i64 0)] [(0,1,(.t 185)),(1,1,(.t 192))]),0,1⟩,⟨so (.store 5 (.t 2) (.t 184)),0,1⟩,⟨so (.store 2 (.t 3) (.t 193)),1,2⟩])
 (.pre (.norm false [2,3]) .ret))
 .skip))
 (.seq
 (.seq
 (.reg [mv 194 14,rg 195 (.bin .eql (.t 194) (.c (.i .i64 0)))])
 (.cond (.t 195)
 (.reg [mv 196 17,rg 197 (.fad 3 (.t 6)),so (.store 1 (.t 197) (.t 196))])
 (.reg [mv 198 17,rg 199 (.fad 4 (.t 6)),so (.store 1 (.t 199) (.t 198))])))
 (.reg [mv 200 7,rg 201 (.bin .add (.t 200) (.c (.i .i64 1))),mv 7 201]))))))))))
 (.reg [mv 124 14,rg 125 (.bin .add (.t 124) (.c (.i .i64 1))),mv 14 125])))
 (.norm false [0,2,3,4,5,6,7,14]))
def b629:AX:=
 (.seq
 (.reg [rg 2 (.alloc [(.s []),(.sl [] .nl),(.sl [] .nl),(.sl [] .nl),(.sl [] .nl)]),rg 3 (.alloc [(.i .i64 0),(.i .i64 0)])])
 (.seq
 (.reg [rg 21 (.build [(.s []),(.sl [] .nl),(.sl [] .nl),(.sl [] .nl),(.sl [] .nl)] []),rg 4 (.alloc [(.s []),(.sl [] .nl),(.sl [] .nl),(.sl [] .nl),(.sl [] .nl)]),so (.store 5 (.t 4) (.t 21))])
 (.seq
 (.seq
 (.reg [mv 22 0,rg 23 (.lens (.t 22)),rg 24 (.bin .gtr (.t 23) (.c (.i .i64 4000)))])
 (.cond (.t 24)
 (.seq
 (.reg [rg 25 (.load (some 5) (.t 4)),rg 26 (.build [(.i .i64 0),(.i .i64 0)] [(0,1,(.c (.i .i64 1))),(1,1,(.c (.i .i64 4000)))]),so (.store 5 (.t 2) (.t 25)),so (.store 2 (.t 3) (.t 26))])
 (.pre (.norm false [2,3]) .ret))
 .skip))
 (.seq
 (.reg [mv 27 0,rg 28 (.call 636 [(.t 27)]),mv 5 28])
 (.seq
 (.reg [mv 29 0,mv 30 5,rg 31 (.iad 1 (.t 30) (.c (.i .i64 1))),rg 32 (.load none (.t 31)),rg 33 (.bin .sub (.t 32) (.c (.i .i64 1))),rg 34 (.slstr (.t 29) none (some (.t 33))),rg 35 (.build [(.s []),(.sl [] .nl),(.sl [] .nl),(.sl [] .nl),(.sl [] .nl)] [(0,1,(.t 34))]),rg 6 (.alloc [(.s []),(.sl [] .nl),(.sl [] .nl),(.sl [] .nl),(.sl [] .nl)]),so (.store 5 (.t 6) (.t 35))])
 (.seq
 (.seq
 (.reg [rg 36 (.fad 0 (.t 6)),rg 37 (.load none (.t 36)),rg 38 (.build [(.i .i64 0),(.s []),(.i .i64 0)] [(0,1,(.c (.i .i64 2))),(1,1,(.t 37))]),rg 39 (.call 173 [(.t 38)]),rg 40 (.un .not (.t 39))])
 (.cond (.t 40)
 (.seq
 (.reg [rg 41 (.load (some 5) (.t 4)),rg 42 (.build [(.i .i64 0),(.i .i64 0)] [(0,1,(.c (.i .i64 1))),(1,1,(.c (.i .i64 0)))]),so (.store 5 (.t 2) (.t 41)),so (.store 2 (.t 3) (.t 42))])
 (.pre (.norm false [2,3]) .ret))
 .skip))
 (.seq
 (.reg [rg 7 (.mov (.c (.i .i64 1)))])
 (.seq
 (.pre (.fld 6 0 1 3) (.pre (.fld 6 0 2 1) (.lp 0 (.norm false [0,2,3,4,5,6,7]) l629_0 (.norm false [0,2,3,4,5,6,7]))))
 (.seq
 (.seq
 (.reg [rg 14 (.mov (.c (.i .i64 0)))])
 (.lp 2 (.norm false [0,2,3,4,5,6,7,14]) l629_1 (.norm false [2,3,4,5,6,7])))
 (.seq
 (.seq
 (.reg [mv 202 7,rg 203 (.bin .add (.t 202) (.c (.i .i64 1))),mv 204 5,rg 205 (.len (.t 204)),rg 206 (.bin .lss (.t 203) (.t 205))])
 (.cond (.t 206)
 (.seq
 (.draw [⟨rg 207 (.load (some 5) (.t 4)),0,0⟩,⟨mv 208 5,0,1⟩,⟨mv 209 7,0,1⟩,⟨rg 210 (.iad 1 (.t 208) (.t 209)),0,1⟩,⟨rg 211 (.load none (.t 210)),0,1⟩,⟨rg 212 (.build [(.i .i64 0),(.i .i64 0)] [(0,1,(.c (.i .i64 1))),(1,1,(.t 211))]),0,1⟩,⟨so (.store 5 (.t 2) (.t 207)),0,1⟩,⟨so (.store 2 (.t 3) (.t 212)),1,2⟩])
 (.pre (.norm false [2,3]) .ret))
 .skip))
 (.seq
 (.reg [rg 213 (.load (some 5) (.t 6)),rg 214 (.call 529 [(.t 213)]),mv 20 214])
 (.seq
 (.seq
 (.reg [mv 215 20,rg 216 (.bin .neq (.t 215) (.c (.i .i64 0)))])
 (.cond (.t 216)
 (.seq
 (.reg [rg 217 (.load (some 5) (.t 4)),mv 218 20,rg 219 (.build [(.i .i64 0),(.i .i64 0)] [(0,1,(.c (.i .i64 2))),(1,1,(.t 218))]),so (.store 5 (.t 2) (.t 217)),so (.store 2 (.t 3) (.t 219))])
 (.pre (.norm false [2,3]) .ret))
 .skip))
 (.seq
 (.reg [rg 220 (.load (some 5) (.t 6)),rg 221 (.build [(.i .i64 0),(.i .i64 0)] []),so (.store 5 (.t 2) (.t 220)),so (.store 2 (.t 3) (.t 221))])
 (.pre (.norm false [2,3]) .ret))))))))))))))
def l636_0:AX:=
 (.note
 (.seq
 (.seq
 (.reg [mv 6 4,mv 7 0,rg 8 (.lens (.t 7)),rg 9 (.bin .lss (.t 6) (.t 8))])
 (.cond (.t 9)
 .skip
 (.exit 0)))
 (.seq
 (.block 1
 (.seq
 (.reg [mv 12 0,mv 13 4,rg 14 (.ixs (.t 12) (.t 13)),rg 15 (.bin .eql (.t 14) (.c (u8 10)))])
 (.cond (.t 15)
 (.reg [mv 16 3,mv 17 4,rg 18 (.bin .add (.t 17) (.c (.i .i64 1))),rg 19 (.bsl 1 [(.i .i64 0)] 1 [(0,(.t 18))]),rg 20 (.app 1 (.t 16) (.t 19)),mv 3 20])
 .skip)))
 (.reg [mv 10 4,rg 11 (.bin .add (.t 10) (.c (.i .i64 1))),mv 4 11])))
 (.norm true [0,3,4]))
def b636:AX:=
 (.seq
 (.reg [rg 2 (.mov (.c (.sl [] .nl)))])
 (.seq
 (.reg [rg 5 (.bsl 1 [(.i .i64 0)] 1 [(0,(.c (.i .i64 0)))]),mv 3 5])
 (.seq
 (.seq
 (.reg [rg 4 (.mov (.c (.i .i64 0)))])
 (.lp 0 (.norm true [0,3,4]) l636_0 (.norm true [0,3])))
 (.seq
 (.reg [mv 21 3,mv 22 0,rg 23 (.lens (.t 22)),rg 24 (.bin .add (.t 23) (.c (.i .i64 1))),rg 25 (.bsl 1 [(.i .i64 0)] 1 [(0,(.t 24))]),rg 26 (.app 1 (.t 21) (.t 25)),mv 2 26])
 (.pre (.norm false [2]) .ret)))))
def l637_0:AX:=
 (.note
 (.seq
 (.seq
 (.reg [mv 4 3,mv 5 0,rg 6 (.lens (.t 5)),rg 7 (.bin .lss (.t 4) (.t 6)),mv 8 7,gd 9 8 true (.mov (.t 0)),gd 10 8 true (.mov (.t 3)),gd 11 8 true (.ixs (.t 9) (.t 10)),gd 12 8 true (.bin .neq (.t 11) (.c (u8 124))),rg 13 (.pick (.t 8) (.t 12) (.c (.b false)))])
 (.cond (.t 13)
 .skip
 (.exit 0)))
 (.block 1
 (.reg [mv 14 3,rg 15 (.bin .add (.t 14) (.c (.i .i64 1))),mv 3 15])))
 (.norm false [0,3]))
def b637:AX:=
 (.seq
 (.reg [rg 2 (.mov (.c (.i .i64 0)))])
 (.seq
 (.reg [rg 3 (.mov (.c (.i .i64 0)))])
 (.seq
 (.lp 0 (.norm false [0,3]) l637_0 (.norm false [3]))
 (.seq
 (.reg [mv 16 3,mv 2 16])
 (.pre (.norm false [2]) .ret)))))
def b628:AX:=
 (.seq
 (.reg [rg 2 (.alloc [(.s []),(.sl [] .nl),(.sl [] .nl),(.sl [] .nl),(.sl [] .nl)]),rg 3 (.mov (.c (.b false)))])
 (.seq
 (.reg [mv 7 0,rg 8 (.call 635 [(.t 7)]),mv 4 8])
 (.seq
 (.seq
 (.reg [mv 9 4,rg 10 (.bin .eql (.t 9) (.c (.s [])))])
 (.cond (.t 10)
 (.seq
 (.reg [rg 11 (.build [(.s []),(.sl [] .nl),(.sl [] .nl),(.sl [] .nl),(.sl [] .nl)] []),so (.store 5 (.t 2) (.t 11)),rg 3 (.mov (.c (.b false)))])
 (.pre (.norm false [2,3]) .ret))
 .skip))
 (.seq
 (.reg [mv 13 0,mv 14 4,rg 15 (.bin .add (.t 13) (.t 14)),rg 16 (.call 629 [(.t 15)]),mv 12 16,rg 17 (.ext (.t 12) 0),rg 18 (.ext (.t 12) 1),rg 5 (.alloc [(.s []),(.sl [] .nl),(.sl [] .nl),(.sl [] .nl),(.sl [] .nl)]),rg 6 (.alloc [(.i .i64 0),(.i .i64 0)]),so (.store 5 (.t 5) (.t 17)),so (.store 2 (.t 6) (.t 18))])
 (.seq
 (.reg [rg 19 (.load (some 5) (.t 5)),so (.store 5 (.t 2) (.t 19)),rg 3 (.mov (.c (.b true)))])
 (.pre (.norm false [2,3]) .ret))))))
def b633:AX:=
 (.seq
 (.reg [rg 0 (.mov (.c (.sl [] .nl)))])
 (.seq
 (.reg [rg 1 (.bsl 1 [(.s [])] 6 [(0,(.c (.s [101,117,108,101,114]))),(1,(.c (.s [104,101,117,110]))),(2,(.c (.s [109,105,100,112,111,105,110,116]))),(3,(.c (.s [114,107,52]))),(4,(.c (.s [98,115,50,51]))),(5,(.c (.s [100,112,52,53])))]),mv 0 1])
 (.pre (.norm false [0]) .ret)))
def b635:AX:=
 (.seq
 (.reg [rg 2 (.mov (.c (.s [])))])
 (.seq
 (.seq
 (.reg [mv 4 0])
 (.block 0
 (.seq
 (.reg [rg 6 (.bin .eql (.t 4) (.c (.s [101,117,108,101,114]))),mv 5 6])
 (.cond (.t 5)
 (.seq
 (.reg [rg 2 (.mov (.c (.s [10,48,124,10,98,32,49])))])
 (.pre (.norm false [2]) .ret))
 (.seq
 (.reg [rg 8 (.bin .eql (.t 4) (.c (.s [104,101,117,110]))),mv 7 8])
 (.cond (.t 7)
 (.seq
 (.reg [rg 2 (.mov (.c (.s [10,48,124,10,49,124,49,10,98,32,49,47,50,44,49,47,50,10,101,32,49,44,48])))])
 (.pre (.norm false [2]) .ret))
 (.seq
 (.reg [rg 10 (.bin .eql (.t 4) (.c (.s [109,105,100,112,111,105,110,116]))),mv 9 10])
 (.cond (.t 9)
 (.seq
 (.reg [rg 2 (.mov (.c (.s [10,48,124,10,49,47,50,124,49,47,50,10,98,32,48,44,49,10,101,32,49,44,48])))])
 (.pre (.norm false [2]) .ret))
 (.seq
 (.reg [rg 12 (.bin .eql (.t 4) (.c (.s [114,107,52]))),mv 11 12])
 (.cond (.t 11)
 (.seq
 (.reg [rg 2 (.mov (.c (.s [10,48,124,10,49,47,50,124,49,47,50,10,49,47,50,124,48,44,49,47,50,10,49,124,48,44,48,44,49,10,98,32,49,47,54,44,49,47,51,44,49,47,51,44,49,47,54])))])
 (.pre (.norm false [2]) .ret))
 (.seq
 (.reg [rg 14 (.bin .eql (.t 4) (.c (.s [98,115,50,51]))),mv 13 14])
 (.cond (.t 13)
 (.seq
 (.reg [rg 2 (.mov (.c (.s [10,48,124,10,49,47,50,124,49,47,50,10,51,47,52,124,48,44,51,47,52,10,49,124,50,47,57,44,49,47,51,44,52,47,57,10,98,32,50,47,57,44,49,47,51,44,52,47,57,44,48,10,101,32,55,47,50,52,44,49,47,52,44,49,47,51,44,49,47,56])))])
 (.pre (.norm false [2]) .ret))
 (.seq
 (.reg [rg 16 (.bin .eql (.t 4) (.c (.s [100,112,52,53]))),mv 15 16])
 (.cond (.t 15)
 (.seq
 (.reg [rg 3 (.mov (.c (.s [10,48,124,10,49,47,53,124,49,47,53,10,51,47,49,48,124,51,47,52,48,44,57,47,52,48,10,52,47,53,124,52,52,47,52,53,44,45,53,54,47,49,53,44,51,50,47,57,10,56,47,57,124,49,57,51,55,50,47,54,53,54,49,44,45,50,53,51,54,48,47,50,49,56,55,44,54,52,52,52,56,47,54,53,54,49,44,45,50,49,50,47,55,50,57])))])
 (.seq
 (.reg [mv 17 3,rg 18 (.bin .add (.t 17) (.c (.s [10,49,124,57,48,49,55,47,51,49,54,56,44,45,51,53,53,47,51,51,44,52,54,55,51,50,47,53,50,52,55,44,52,57,47,49,55,54,44,45,53,49,48,51,47,49,56,54,53,54,10,49,124,51,53,47,51,56,52,44,48,44,53,48,48,47,49,49,49,51,44,49,50,53,47,49,57,50,44,45,50,49,56,55,47,54,55,56,52,44,49,49,47,56,52]))),mv 3 18])
 (.seq
 (.reg [mv 19 3,rg 20 (.bin .add (.t 19) (.c (.s [10,98,32,51,53,47,51,56,52,44,48,44,53,48,48,47,49,49,49,51,44,49,50,53,47,49,57,50,44,45,50,49,56,55,47,54,55,56,52,44,49,49,47,56,52,44,48,10,101,32,53,49,55,57,47,53,55,54,48,48,44,48,44,55,53,55,49,47,49,54,54,57,53,44,51,57,51,47,54,52,48,44,45,57,50,48,57,55,47,51,51,57,50,48,48,44,49,56,55,47,50,49,48,48,44,49,47,52,48]))),mv 2 20])
 (.pre (.norm false [2]) .ret))))
 .skip))))))))))))))
 (.seq
 (.reg [rg 2 (.mov (.c (.s [])))])
 (.pre (.norm false [2]) .ret))))
def row629:AFx:=⟨1,222,[.cell 2 (some 5),.cell 3 (some 2)],b629,none,false⟩
def row636:AFx:=⟨1,27,[.t 2],b636,none,false⟩
def row637:AFx:=⟨1,17,[.t 2],b637,none,false⟩
def row628:AFx:=⟨1,20,[.cell 2 (some 5),.t 3],b628,none,false⟩
def row633:AFx:=⟨0,2,[.t 0],b633,none,false⟩
def row635:AFx:=⟨1,21,[.t 2],b635,none,false⟩
class Zan (T:Tbl):Prop where
 h629:T 629=some row629
 h636:T 636=some row636
 h637:T 637=some row637
 h628:T 628=some row628
 h633:T 633=some row633
 h635:T 635=some row635
section
variable{T:Tbl}[Zan T]{d:Option Nat}{st:St}{xs:List AV}{ps:List Opd}{e:Env}{h:Heap}{ol:List Heap}
@[simp] theorem x629:Zd (orc T) T 629 xs d st=cP T 629 false xs d st:=zaa Zan.h629
@[simp] theorem x636:Zd (orc T) T 636 xs d st=cP T 636 false xs d st:=zaa Zan.h636
@[simp] theorem x637:Zd (orc T) T 637 xs d st=cP T 637 false xs d st:=zaa Zan.h637
@[simp] theorem x628:Zd (orc T) T 628 xs d st=cP T 628 false xs d st:=zaa Zan.h628
@[simp] theorem x633:Zd (orc T) T 633 xs d st=cP T 633 false xs d st:=zaa Zan.h633
@[simp] theorem x635:Zd (orc T) T 635 xs d st=cP T 635 false xs d st:=zaa Zan.h635
end
end Go.Ab
end
section
namespace Go.Ab
def b623:AX:=
 (.seq
 (.reg [rg 2 (.mov (.c (.b false)))])
 (.seq
 (.seq
 (.reg [mv 13 0,rg 14 (.lens (.t 13)),rg 15 (.bin .gtr (.t 14) (.c (.i .i64 1500)))])
 (.cond (.t 15)
 (.seq
 (.reg [rg 16 (.call 626 []),mv 2 16])
 (.pre (.norm false [2]) .ret))
 .skip))
 (.seq
 (.reg [mv 18 0,rg 19 (.call 603 [(.t 18)]),mv 17 19,rg 20 (.ext (.t 17) 0),rg 21 (.ext (.t 17) 1),rg 3 (.alloc [(.s []),(.sl [] .nl),(.sl [] .nl),(.sl [] .nl),(.sl [] .nl)]),so (.store 5 (.t 3) (.t 20)),mv 4 21])
 (.seq
 (.reg [mv 23 0,rg 24 (.call 627 [(.t 23)]),mv 22 24,rg 25 (.ext (.t 22) 0),rg 26 (.ext (.t 22) 1),rg 5 (.alloc [(.s []),(.sl [] .nl),(.sl [] .nl),(.sl [] .nl),(.sl [] .nl)]),rg 6 (.alloc [(.i .i64 0),(.i .i64 0),(.i .i64 0),(.i .i64 0)]),so (.store 5 (.t 5) (.t 25)),so (.store 4 (.t 6) (.t 26))])
 (.seq
 (.reg [mv 28 0,rg 29 (.call 628 [(.t 28)]),mv 27 29,rg 30 (.ext (.t 27) 0),rg 31 (.ext (.t 27) 1),rg 7 (.alloc [(.s []),(.sl [] .nl),(.sl [] .nl),(.sl [] .nl),(.sl [] .nl)]),so (.store 5 (.t 7) (.t 30)),mv 8 31])
 (.seq
 (.reg [rg 32 (.build [(.i .i64 0),(.i .i64 0),(.i .i64 0),(.i .i64 0)] []),rg 9 (.alloc [(.i .i64 0),(.i .i64 0),(.i .i64 0),(.i .i64 0)]),so (.store 4 (.t 9) (.t 32))])
 (.seq
 (.reg [rg 33 (.load (some 5) (.t 7)),rg 10 (.alloc [(.s []),(.sl [] .nl),(.sl [] .nl),(.sl [] .nl),(.sl [] .nl)]),so (.store 5 (.t 10) (.t 33))])
 (.seq
 (.seq
 (.reg [mv 34 8,rg 35 (.un .not (.t 34))])
 (.cond (.t 35)
 (.seq
 (.reg [mv 37 0,rg 38 (.call 629 [(.t 37)]),mv 36 38,rg 39 (.ext (.t 36) 0),rg 40 (.ext (.t 36) 1),rg 11 (.alloc [(.s []),(.sl [] .nl),(.sl [] .nl),(.sl [] .nl),(.sl [] .nl)]),rg 12 (.alloc [(.i .i64 0),(.i .i64 0)]),so (.store 5 (.t 11) (.t 39)),so (.store 2 (.t 12) (.t 40))])
 (.seq
 (.reg [rg 41 (.load (some 5) (.t 11)),so (.store 5 (.t 10) (.t 41))])
 (.reg [rg 42 (.iaa 1 2 (.t 12) (.c (.i .i64 0))),rg 43 (.load none (.t 42)),rg 44 (.iaa 1 2 (.t 12) (.c (.i .i64 1))),rg 45 (.load none (.t 44)),rg 46 (.build [(.i .i64 0),(.i .i64 0),(.i .i64 0),(.i .i64 0)] [(0,1,(.t 43)),(3,1,(.t 45))]),so (.store 4 (.t 9) (.t 46))])))
 .skip))
 (.seq
 (.drawT [rg 47 (.load (some 5) (.t 3)),rg 48 (.call 630 [(.t 47)]),rg 49 (.load (some 5) (.t 7)),rg 50 (.call 599 [(.t 48),(.t 49)]),mv 51 50,gd 52 51 true (.mov (.t 4)),gd 53 51 true (.mov (.t 8)),gd 54 51 true (.eqb false (.t 52) (.t 53)),rg 55 (.pick (.t 51) (.t 54) (.c (.b false))),mv 56 55,gd 57 56 true (.load (some 5) (.t 5)),gd 58 56 true (.call 630 [(.t 57)]),gd 59 56 true (.load (some 5) (.t 10)),gd 60 56 true (.call 599 [(.t 58),(.t 59)]),rg 61 (.pick (.t 56) (.t 60) (.c (.b false))),mv 62 61,gd 63 62 true (.load (some 4) (.t 6)),gd 64 62 true (.load (some 4) (.t 9))]
 [gd 65 62 true (.eqs false [(0,.int),(1,.int),(2,.int),(3,.int)] (.t 63) (.t 64)),rg 66 (.pick (.t 62) (.t 65) (.c (.b false))),mv 67 66,gd 68 67 true (.call 632 []),gd 69 67 true (.call 633 []),gd 70 67 true (.call 631 [(.t 68),(.t 69)]),rg 71 (.pick (.t 67) (.t 70) (.c (.b false))),mv 72 71,gd 73 72 true (.call 626 []),rg 74 (.pick (.t 72) (.t 73) (.c (.b false))),mv 2 74])
 (.pre (.norm false [2]) .ret))))))))))
def l630_0:AX:=
 (.note
 (.seq
 (.seq
 (.reg [mv 17 4,rg 18 (.fad 2 (.t 1)),rg 19 (.load none (.t 18)),rg 20 (.len (.t 19)),rg 21 (.bin .lss (.t 17) (.t 20))])
 (.cond (.t 21)
 .skip
 (.exit 0)))
 (.seq
 (.block 1
 (.drawT [rg 24 (.fad 2 (.t 3)),rg 25 (.load none (.t 24)),rg 26 (.fad 2 (.t 1)),rg 27 (.load none (.t 26)),mv 28 4,rg 29 (.iad 1 (.t 27) (.t 28)),rg 30 (.load none (.t 29)),rg 31 (.call 288 [(.t 30)]),rg 32 (.bsl 1 [(.sl [] .nl)] 1 [(0,(.t 31))])]
 [rg 33 (.app 1 (.t 25) (.t 32)),rg 34 (.fad 2 (.t 3)),so (.store 1 (.t 34) (.t 33))]))
 (.reg [mv 22 4,rg 23 (.bin .add (.t 22) (.c (.i .i64 1))),mv 4 23])))
 (.norm false [1,2,3,4]))
def b630:AX:=
 (.seq
 (.reg [rg 1 (.xop (.box 5) [(.t 0)]),rg 2 (.alloc [(.s []),(.sl [] .nl),(.sl [] .nl),(.sl [] .nl),(.sl [] .nl)])])
 (.seq
 (.draw [⟨rg 5 (.fad 0 (.t 1)),0,1⟩,⟨rg 6 (.load none (.t 5)),0,1⟩,⟨rg 7 (.fad 1 (.t 1)),0,1⟩,⟨rg 8 (.load none (.t 7)),0,1⟩,⟨rg 9 (.call 288 [(.t 8)]),0,1⟩,⟨rg 10 (.fad 3 (.t 1)),0,1⟩,⟨rg 11 (.load none (.t 10)),0,1⟩,⟨rg 12 (.call 288 [(.t 11)]),0,1⟩,⟨rg 13 (.fad 4 (.t 1)),0,1⟩,⟨rg 14 (.load none (.t 13)),0,1⟩,⟨rg 15 (.call 288 [(.t 14)]),0,1⟩,⟨rg 16 (.build [(.s []),(.sl [] .nl),(.sl [] .nl),(.sl [] .nl),(.sl [] .nl)] [(0,1,(.t 6)),(1,1,(.t 9)),(3,1,(.t 12)),(4,1,(.t 15))]),0,1⟩,⟨rg 3 (.alloc [(.s []),(.sl [] .nl),(.sl [] .nl),(.sl [] .nl),(.sl [] .nl)]),0,1⟩,⟨so (.store 5 (.t 3) (.t 16)),1,2⟩])
 (.seq
 (.seq
 (.reg [rg 4 (.mov (.c (.i .i64 0)))])
 (.pre (.fld 3 0 2 1) (.lp 0 (.norm false [1,2,3,4]) l630_0 (.norm false [2,3]))))
 (.seq
 (.reg [rg 35 (.load (some 5) (.t 3)),so (.store 5 (.t 2) (.t 35))])
 (.pre (.norm false [2]) .ret)))))
def l631_0:AX:=
 (.note
 (.seq
 (.seq
 (.reg [mv 12 5,mv 13 12,gd 14 13 true (.mov (.t 6)),gd 15 13 true (.mov (.t 0)),gd 16 13 true (.len (.t 15)),gd 17 13 true (.bin .lss (.t 14) (.t 16)),rg 18 (.pick (.t 13) (.t 17) (.c (.b false))),mv 19 18,gd 20 19 true (.mov (.t 6)),gd 21 19 true (.mov (.t 1)),gd 22 19 true (.len (.t 21)),gd 23 19 true (.bin .lss (.t 20) (.t 22)),rg 24 (.pick (.t 19) (.t 23) (.c (.b false)))])
 (.cond (.t 24)
 .skip
 (.exit 0)))
 (.seq
 (.block 1
 (.drawT [mv 27 0,mv 28 6,rg 29 (.iad 1 (.t 27) (.t 28)),rg 30 (.load none (.t 29)),mv 31 1,mv 32 6,rg 33 (.iad 1 (.t 31) (.t 32)),rg 34 (.load none (.t 33))]
 [rg 35 (.bin .eql (.t 30) (.t 34)),mv 5 35]))
 (.reg [mv 25 6,rg 26 (.bin .add (.t 25) (.c (.i .i64 1))),mv 6 26])))
 (.norm false [0,1,5,6]))
def b631:AX:=
 (.seq
 (.reg [rg 4 (.mov (.c (.b false)))])
 (.seq
 (.reg [mv 7 0,rg 8 (.len (.t 7)),mv 9 1,rg 10 (.len (.t 9)),rg 11 (.bin .eql (.t 8) (.t 10)),mv 5 11])
 (.seq
 (.seq
 (.reg [rg 6 (.mov (.c (.i .i64 0)))])
 (.lp 0 (.norm false [0,1,5,6]) l631_0 (.norm false [5])))
 (.seq
 (.reg [mv 36 5,mv 4 36])
 (.pre (.norm false [4]) .ret)))))
def row623:AFx:=⟨1,75,[.t 2],b623,none,false⟩
def row630:AFx:=⟨1,36,[.cell 2 (some 5)],b630,none,false⟩
def row631:AFx:=⟨2,37,[.t 4],b631,none,false⟩
class Zdl (T:Tbl):Prop where
 h623:T 623=some row623
 h630:T 630=some row630
 h631:T 631=some row631
section
variable{T:Tbl}[Zdl T]{d:Option Nat}{st:St}{xs:List AV}{ps:List Opd}{e:Env}{h:Heap}{ol:List Heap}
@[simp] theorem y630:opD (orc T) T (.call 630 ps) e h ol=dP T 630 false ps e:=zao Zdl.h630
@[simp] theorem x631:Zd (orc T) T 631 xs d st=cP T 631 false xs d st:=zaa Zdl.h631
end
end Go.Ab
end
section
namespace Go.Ab
open Go.RowKit
def opU:AOp→List Nat
 | .call u _=>[u]
 | .ifc k _=>[1000000+k]
 | .inv _ k u _ _=>[1000000+k,u]
 | .xop (.mkf k) _ | .xop (.mkv k) _=>[1000000+k]
 | _=>[]
def cXs:AX→List Nat
 | .reg l=>l.flatMap fun o=>opU o.op
 | .draw l=>l.flatMap fun o=>opU o.ao.op
 | .drawT hd tl=>(hd.flatMap fun o=>opU o.op)++tl.flatMap fun o=>opU o.op
 | .drawM hd tl=>(hd.flatMap fun o=>opU o.op)++tl.flatMap fun o=>opU o.op
 | .seq a b=>cXs a++cXs b
 | .cond _ x y=>cXs x++cXs y
 | .block _ c | .loop c | .note c _ | .pre _ c | .scope c | .lp _ _ c _=>cXs c
 | .gsc _ c r=>cXs c++cXs r
 | _=>[]
structure Agr (R:Nat→Bool) (T T':Tbl) (O O':Orc):Prop where
 tbl:∀u,R u=true→T u=T' u
 call:∀u xs hb,R u=true→O.call u xs hb=O'.call u xs hb
 loop:∀k c st,(∀u∈cXs c,R u=true)→O.loop k c st=O'.loop k c st
section
variable{R:Nat→Bool}{T T':Tbl}{O O':Orc}
theorem zlr(h:Agr R T T' O O'){u:Nat}(hu:R u=true){xs:List AV}{d:Option Nat}{st:St}:Zd O T u xs d st=Zd O' T' u xs d st:=by
 unfold Zd;rw[h.tbl u hu];simp only[h.call u _ _ hu]
theorem z0l(h:Agr R T T' O O'){op:AOp}(hu:∀u∈opU op,R u=true){d:Option Nat}{st:St}:opX O T op d st=opX O' T' op d st:=by
 cases op<;>simp only[opX]
 case call u args=>exact zlr h (hu _ (by simp[opU]))
 case ifc k x=>unfold Zt;rw[h.tbl _ (hu _ (by simp[opU]))]
 case inv nm k u r args=>
  have e1:Zt T k=Zt T' k:=by unfold Zt;rw[h.tbl _ (hu _ (by simp[opU]))]
  have e2:Zcp T k=Zcp T' k:=by unfold Zcp;rw[h.tbl _ (hu _ (by simp[opU]))]
  have e3:Zg9 T k=Zg9 T' k:=by unfold Zg9;rw[h.tbl _ (hu _ (by simp[opU]))]
  rw[e1,e2,e3];simp only[zlr h (hu u (by simp[opU]))]
 case xop k xs=>
  cases k<;>simp only
  all_goals rename_i k
  all_goals
   have e1:Zt T k=Zt T' k:=by unfold Zt;rw[h.tbl _ (hu _ (by simp[opU]))]
   rw[e1]
theorem zth(h:Agr R T T' O O'){o:AO}(hu:∀u∈opU o.op,R u=true){st:St}:Zga O T o st=Zga O' T' o st:=by
 unfold Zga gX;simp only[z0l h hu]
theorem zgm(h:Agr R T T' O O'):∀(l:List AO),(∀o∈l,∀u∈opU o.op,R u=true)→∀st,Zdu O T l st=Zdu O' T' l st
 | [],_,st=>rfl
 | o::l,hu,st=>by
  simp only[Zdu];rw[zth h (hu o Y9)];congr 1
  funext s
  exact zgm h l (fun o ho=>hu o (Ys _ ho)) s
theorem z0m(h:Agr R T T' O O'){op:AOp}(hu:∀u∈opU op,R u=true){e:Env}{hp:Heap}{older:List Heap}:opD O T op e hp older=opD O' T' op e hp older:=by
 by_cases hap:∃z x0 y,op=.app z x0 y
 ·obtain⟨z,x0,y,rfl⟩:=hap;by_cases hc:x0=.c (.sl [] .nl)
  ·subst hc;rfl
  ·rw[znx hc,znx hc]
 cases op<;>(try exact absurd ⟨_,_,_,rfl⟩ hap)<;>simp only[opD]
 case call u args=>
  rw[h.tbl _ (hu _ (by simp[opU]))];simp only[h.call _ _ _ (hu _ (show u∈_ by simp[opU]))]
 case ifc k x=>unfold Zt;rw[h.tbl _ (hu _ (by simp[opU]))]
 case inv nm k u r args=>
  have e1:Zt T k=Zt T' k:=by unfold Zt;rw[h.tbl _ (hu _ (by simp[opU]))]
  have e2:Zcp T k=Zcp T' k:=by unfold Zcp;rw[h.tbl _ (hu _ (by simp[opU]))]
  rw[e1,e2,h.tbl u (hu u (by simp[opU]))];simp only[h.call u _ _ (hu u (by simp[opU]))]
theorem zti(h:Agr R T T' O O'){o:AO}(hu:∀u∈opU o.op,R u=true){e:Env}{hp:Heap}{older:List Heap}:qX O T o e hp older=qX O' T' o e hp older:=by
 unfold qX;simp only[z0m h hu]
theorem ztj(h:Agr R T T' O O'){u:Nat}(hu:R u=true){ys:List AV}:Zfp O T u ys=Zfp O' T' u ys:=by
 unfold Zfp;rw[h.tbl u hu];simp only[h.call u _ _ hu]
theorem zls(h:Agr R T T' O O'):∀(l:List DO),(∀o∈l,∀u∈opU o.ao.op,R u=true)→∀e hp clk older pend,Zb3 O T l e hp clk older pend=Zb3 O' T' l e hp clk older pend
 | [],_,e,hp,clk,older,pend=>rfl
 | o::l,hu,e,hp,clk,older,pend=>by
  have ih:=zls h l (fun o ho=>hu o (Ys _ ho));simp only[Zb3];rw[zti h (hu o Y9)];simp only[ih];cases o.ao.op.writes with
  | true=>rfl
  | false=>
   simp only;cases hrow:Zgt o.ao.guard o.ao.op.callN e hp (older.take (older.length-o.lo)) with
   | none=>rfl
   | some p=>
    obtain⟨_,args,hop,_⟩:=zlq hrow;have hp:R p.1=true:=hu o Y9 _ (by rw[hop];simp[opU]);simp only[ztj h hp]
theorem zlt(h:Agr R T T' O O')(tl:List AO)(ht:∀o∈tl,∀u∈opU o.op,R u=true):∀(l:List AO),(∀o∈l,∀u∈opU o.op,R u=true)→∀e hp clk,Zdm O T tl l e hp clk=Zdm O' T' tl l e hp clk
 | [],_,e,hp,clk=>zgm h tl ht _
 | o::l,hu,e,hp,clk=>by
  have ih:=zlt h tl ht l (fun o ho=>hu o (Ys _ ho));simp only[Zdm];rw[zti h (hu o Y9)];simp only[ih]
theorem ztk(h:Agr R T T' O O'){u:Nat}(hu:R u=true){xs:List AV}{d clk:Nat}:Ze9 O T u xs d clk=Ze9 O' T' u xs d clk:=by
 unfold Ze9;rw[h.tbl u hu];simp only[h.call u _ _ hu]
theorem zlu(h:Agr R T T' O O')(tl:List AO)(ht:∀o∈tl,∀u∈opU o.op,R u=true)(h0:Heap)(c0:Nat)(X:Heap):∀(l:List AO),(∀o∈l,∀u∈opU o.op,R u=true)→∀e hp clk,Zbm O T tl h0 c0 X l e hp clk=Zbm O' T' tl h0 c0 X l e hp clk
 | [],_,e,hp,clk=>zgm h tl ht _
 | o::l,hu,e,hp,clk=>by
  have ih:=zlu h tl ht h0 c0 X l (fun o ho=>hu o (Ys _ ho));simp only[Zbm];rw[zti h (hu o Y9)];simp only[ih];cases hm:o.op.maker with
  | true=>rfl
  | false=>
   cases hst:o.op.isStore with
   | true=>rfl
   | false=>
   cases hl:o.op.lentN with
   | none=>rfl
   | some ua=>
    have hua:R ua.1=true:=hu o Y9 _ (by rw[zi7 hl];simp[opU]);simp only[ztk h hua]
theorem zbw(h:Agr R T T' O O')(k:Nat):∀(c:AX),(∀u∈cXs c,R u=true)→∀st,evX O T k c st=evX O' T' k c st
 | .skip,_,st=>rfl
 | .reg l,hu,st=>by
  simp only[evX];rw[zgm h l fun o ho u hou=>hu u (Yas.2 ⟨o,ho,hou⟩)]
 | .draw l,hu,st=>by
  simp only[evX];rw[zls h l fun o ho u hou=>hu u (Yas.2 ⟨o,ho,hou⟩)]
 | .drawT hd tl,hu,st=>by
  simp only[evX];rw[zlt h tl (fun o ho u hou=>hu u (Yap _ (Yas.2 ⟨o,ho,hou⟩))) hd (fun o ho u hou=>hu u (Yaw _ (Yas.2 ⟨o,ho,hou⟩)))]
 | .drawM hd tl,hu,st=>by
  simp only[evX];rw[zlu h tl (fun o ho u hou=>hu u (Yap _ (Yas.2 ⟨o,ho,hou⟩))) _ _ _ hd (fun o ho u hou=>hu u (Yaw _ (Yas.2 ⟨o,ho,hou⟩)))]
 | .bad,_,st=>rfl
 | .prim f,_,st=>rfl
 | .seq a b,hu,st=>by
  simp only[evX];rw[zbw h k a fun u hm=>hu u (Yaw _ hm)];congr 1
  funext r
  rw[zbw h k b fun u hm=>hu u (Yap _ hm)]
 | .cond c x y,hu,st=>by
  simp only[evX];rw[zbw h k x fun u hm=>hu u (Yaw _ hm),zbw h k y fun u hm=>hu u (Yap _ hm)]
 | .block id c,hu,st=>by
  simp only[evX];rw[zbw h k c hu]
 | .loop c,hu,st=>h.loop k c st hu
 | .exit id,_,st=>rfl
 | .ret,_,st=>rfl
 | .note c g,hu,st=>by
  simp only[evX];rw[zbw h k c hu]
 | .pre g c,hu,st=>by
  simp only[evX];congr 1
  funext s
  exact zbw h k c hu s
 | .scope c,hu,st=>by
  simp only[evX];rw[zbw h k c hu]
 | .label _,_,st=>rfl
 | .goto _,_,st=>rfl
 | .gsc l c r,hu,st=>by
  simp only[evX];rw[zbw h k c fun u hm=>hu u (Yaw _ hm)];congr 1
  funext s
  exact zbw h k r (fun u hm=>hu u (Yap _ hm)) s
 | .lp id g c g2,hu,st=>by
  simp only[evX,h.loop k c _ hu]
theorem ztl(hc:∀u af,R u=true→T u=some af→∀v∈cXs af.body,R v=true)(h:Agr R T T' O O'):Agr R T T' (Zc2 T O) (Zc2 T' O') where
 tbl:=h.tbl
 call u xs hb hu:=by
  simp only[Zc2];rw[←h.tbl u hu];cases ht:T u with
  | none=>rfl
  | some af=>
   simp only;rw[zbw h hb.length af.body (hc u af hu ht)]
 loop k c st hu:=by
  simp only[Zc2];rw[zbw h k c hu];congr 1
  funext r
  rw[h.loop k c _ hu]
theorem zj5(ht:∀u,R u=true→T u=T' u)(hc:∀u af,R u=true→T u=some af→∀v∈cXs af.body,R v=true):∀n,Agr R T T' (orcN T n) (orcN T' n)
 | 0=>⟨ht,fun _ _ _ _=>rfl,fun _ _ _ _=>rfl⟩
 | n+1=>ztl hc (zj5 ht hc n)
theorem z0n(ht:∀u,R u=true→T u=T' u)(hc:∀u af,R u=true→T u=some af→∀v∈cXs af.body,R v=true):Agr R T T' (orc T) (orc T'):=by
 refine⟨ht,fun u xs hb hu=>?_,fun k c st hu=>?_⟩
 ·simp only[orc];congr 1
  funext n
  exact(zj5 ht hc n).call u xs hb hu
 ·simp only[orc];congr 1
  funext n
  exact(zj5 ht hc n).loop k c st hu
end
theorem zdg{l:List (Nat×AFx)}{u:Nat}{af:AFx}(h:l.lookup u=some af):(u,af)∈l:=by
 induction l with
 | nil=>cases h
 | cons q l ih=>
  obtain⟨q1,q2⟩:=q;simp only[Y3]at h;split at h
  ·rename_i he;have:=eq_of_beq he;subst this;cases h;exact Y9
  ·exact Ys _ (ih h)
structure Part (l l':List (Nat×AFx)):Prop where
 sub:∀p∈l',l.lookup p.1=some p.2
 clo:(l'.all fun p=>(cXs p.2.body).all fun v=>(l'.lookup v).isSome || (l.lookup v).isNone)=true
theorem Part.agr{l l':List (Nat×AFx)}(h:Part l l'):Agr (fun u=>(l'.lookup u).isSome || (l.lookup u).isNone) (fun u=>l.lookup u) (fun u=>l'.lookup u) (orc fun u=>l.lookup u) (orc fun u=>l'.lookup u):=by
 refine z0n (fun v hv=>?_) (fun v a hv hva w hw=>?_)
 ·cases hv2:l'.lookup v with
  | none=>
   simp only[hv2]at hv;cases hv3:l.lookup v with
   | none=>rfl
   | some a=>rw[hv3]at hv;cases hv
  | some a=>exact h.sub _ (zdg hv2)
 ·cases hv2:l'.lookup v with
  | none=>simp only[hv2,hva]at hv;cases hv
  | some b=>
   have hb:=zdg hv2;have h1:=h.sub _ hb;simp only at hva h1;rw[hva]at h1;cases h1;exact Yh.1 (Yh.1 h.clo _ hb) w hw
theorem Part.ev{l l':List (Nat×AFx)}(h:Part l l'){c:AX}(hc:((cXs c).all fun v=>(l'.lookup v).isSome)=true){st:St}{r:Option (Ex×St)}
  (he:evX (orc fun u=>l.lookup u) (fun u=>l.lookup u) 0 c st=r):evX (orc fun u=>l'.lookup u) (fun u=>l'.lookup u) 0 c st=r:=by
 rw[←zbw h.agr 0 c (fun v hv=>by rw[Yh.1 hc v hv];rfl) st];exact he
theorem Part.call{l l':List (Nat×AFx)}(h:Part l l'){u:Nat}(hu:(l'.lookup u).isSome=true){xs:List AV}{r:Option AV}(he:Zb (fun u=>l.lookup u) u xs=r):Zb (fun u=>l'.lookup u) u xs=r:=by
 rw[←he];unfold Zb;rw[h.agr.call u xs [] (by rw[hu];rfl)]
end Go.Ab
end