/-
  A calculus of values, boxes and code, and what functions of the program compute, proved in it.
  Conditions: none beyond those that the theorems state. (Part 5.)
-/
import Derived.Test.YtjhilbodpmnbmaaGreatDoorPart4

set_option linter.unusedSectionVars false
set_option linter.unusedVariables false
set_option linter.unusedSimpArgs false
set_option linter.unnecessarySimpa false

namespace Go.Ab
def l263_0:AX:=
 (.note
 (.seq
 (.reg [rg 12 (.bin .lss (.t 11) (.t 10))])
 (.seq
 (.cond (.t 12)
 .skip
 (.exit 0))
 (.seq
 (.block 1
 (.seq
 (.reg [mv 13 11,mv 4 13])
 (.reg [mv 14 3,mv 15 4,rg 16 (.call 205 [(.c (.i .i64 0))]),rg 17 (.iad 3 (.t 14) (.t 15)),so (.store 3 (.t 17) (.t 16))])))
 (.reg [rg 18 (.bin .add (.t 11) (.c (.i .i64 1))),mv 11 18]))))
 (.norm false [3,10,11]))
def b263:AX:=
 (.seq
 (.reg [rg 2 (.mov (.c (.sl [] .nl)))])
 (.seq
 (.reg [mv 5 0,rg 6 (.mm true [(.t 5),(.c (.i .i64 0))]),rg 7 (.mm false [(.t 6),(.c (.i .i64 300))]),mv 0 7])
 (.seq
 (.reg [mv 8 0,rg 9 (.mks 3 [(.b false),(.sl [] .nl),(.sl [] .nl)] (.t 8) (.t 8)),mv 3 9])
 (.seq
 (.seq
 (.reg [mv 10 0,rg 11 (.mov (.c (.i .i64 0)))])
 (.lp 0 (.norm false [3,10,11]) l263_0 (.norm false [3])))
 (.seq
 (.reg [mv 19 3,mv 2 19])
 (.pre (.norm false [2]) .ret))))))
def l265_0:AX:=
 (.note
 (.seq
 (.reg [rg 14 (.bin .lss (.t 13) (.t 12))])
 (.seq
 (.cond (.t 14)
 .skip
 (.exit 0))
 (.seq
 (.block 1
 (.seq
 (.reg [mv 15 13,mv 5 15])
 (.seq
 (.drawT [mv 16 0,mv 17 5,rg 18 (.iad 3 (.t 16) (.t 17)),rg 19 (.load (some 3) (.t 18)),mv 20 1,mv 21 5,rg 22 (.iad 3 (.t 20) (.t 21)),rg 23 (.load (some 3) (.t 22))]
 [rg 24 (.call 212 [(.t 19),(.t 23)]),rg 25 (.un .not (.t 24))])
 (.cond (.t 25)
 (.seq
 (.reg [rg 4 (.mov (.c (.b false)))])
 (.pre (.norm false [4]) .ret))
 .skip))))
 (.reg [rg 26 (.bin .add (.t 13) (.c (.i .i64 1))),mv 13 26]))))
 (.norm false [0,1,12,13]))
def b265:AX:=
 (.seq
 (.reg [rg 4 (.mov (.c (.b false)))])
 (.seq
 (.seq
 (.reg [mv 6 0,rg 7 (.len (.t 6)),mv 8 1,rg 9 (.len (.t 8)),rg 10 (.bin .neq (.t 7) (.t 9))])
 (.cond (.t 10)
 (.seq
 (.reg [rg 4 (.mov (.c (.b false)))])
 (.pre (.norm false [4]) .ret))
 .skip))
 (.seq
 (.seq
 (.reg [mv 11 0,rg 12 (.len (.t 11)),rg 13 (.mov (.c (.i .i64 0)))])
 (.lp 0 (.norm false [0,1,12,13]) l265_0 (.norm false [])))
 (.seq
 (.reg [rg 4 (.mov (.c (.b true)))])
 (.pre (.norm false [4]) .ret)))))
def row263:AFx:=⟨1,20,[.t 2],b263,none,false⟩
def row265:AFx:=⟨2,27,[.t 4],b265,none,false⟩
class Zdq (T:Tbl):Prop where
 h263:T 263=some row263
 h265:T 265=some row265
section
variable{T:Tbl}[Zdq T]{d:Option Nat}{st:St}{xs:List AV}{ps:List Opd}{e:Env}{h:Heap}{ol:List Heap}
@[simp] theorem y263:opD (orc T) T (.call 263 ps) e h ol=dP T 263 false ps e:=zal Zdq.h263
@[simp] theorem x265:Zc (orc T) T 265 xs d st=cP T 265 false xs d st:=zaa Zdq.h265
end
def b189:AX:=
 (.seq
 (.reg [rg 2 (.mov (.c (.b false)))])
 (.seq
 (.reg [mv 3 0,rg 4 (.bin .geq (.t 3) (.c (u8 48))),mv 5 4,gd 6 5 true (.mov (.t 0)),gd 7 5 true (.bin .leq (.t 6) (.c (u8 57))),rg 8 (.pick (.t 5) (.t 7) (.c (.b false))),mv 2 8])
 (.pre (.norm false [2]) .ret)))
def b190:AX:=
 (.seq
 (.reg [rg 2 (.mov (.c (.b false)))])
 (.seq
 (.reg [mv 3 0,rg 4 (.bin .geq (.t 3) (.c (u8 97))),mv 5 4,gd 6 5 true (.mov (.t 0)),gd 7 5 true (.bin .leq (.t 6) (.c (u8 122))),rg 8 (.pick (.t 5) (.t 7) (.c (.b false))),mv 9 8,gd 10 9 false (.mov (.t 0)),gd 11 9 false (.bin .geq (.t 10) (.c (u8 65))),gd 12 9 false (.mov (.t 11)),gd 13 12 true (.mov (.t 0)),gd 14 12 true (.bin .leq (.t 13) (.c (u8 90))),gd 15 9 false (.pick (.t 12) (.t 14) (.c (.b false))),rg 16 (.pick (.t 9) (.c (.b true)) (.t 15)),mv 17 16,gd 18 17 false (.mov (.t 0)),gd 19 17 false (.bin .eql (.t 18) (.c (u8 95))),rg 20 (.pick (.t 17) (.c (.b true)) (.t 19)),mv 2 20])
 (.pre (.norm false [2]) .ret)))
def l181_0:AX:=
 (.note
 (.seq
 (.seq
 (.reg [mv 9 4,mv 10 3,rg 11 (.lens (.t 10)),rg 12 (.bin .lss (.t 9) (.t 11))])
 (.cond (.t 12)
 .skip
 (.exit 0)))
 (.seq
 (.block 1
 (.seq
 (.reg [mv 15 3,mv 16 4,rg 17 (.ixs (.t 15) (.t 16)),mv 18 0,rg 19 (.bin .eql (.t 17) (.t 18))])
 (.cond (.t 19)
 (.seq
 (.reg [rg 2 (.mov (.c (.i .i64 3)))])
 (.pre (.norm false [2]) .ret))
 .skip)))
 (.reg [mv 13 4,rg 14 (.bin .add (.t 13) (.c (.i .i64 1))),mv 4 14])))
 (.norm false [0,3,4]))
def b181:AX:=
 (.seq
 (.reg [rg 2 (.mov (.c (.i .i64 0)))])
 (.seq
 (.seq
 (.reg [mv 5 0,rg 6 (.call 189 [(.t 5)])])
 (.cond (.t 6)
 (.seq
 (.reg [rg 2 (.mov (.c (.i .i64 1)))])
 (.pre (.norm false [2]) .ret))
 .skip))
 (.seq
 (.seq
 (.reg [mv 7 0,rg 8 (.call 190 [(.t 7)])])
 (.cond (.t 8)
 (.seq
 (.reg [rg 2 (.mov (.c (.i .i64 2)))])
 (.pre (.norm false [2]) .ret))
 .skip))
 (.seq
 (.reg [rg 3 (.mov (.c (.s [43,45,42,47,94,40,41,91,93,44,59,61])))])
 (.seq
 (.seq
 (.reg [rg 4 (.mov (.c (.i .i64 0)))])
 (.lp 0 (.norm false [0,3,4]) l181_0 (.norm false [])))
 (.seq
 (.reg [rg 2 (.mov (.c (.i .i64 0)))])
 (.pre (.norm false [2]) .ret)))))))
def b180:AX:=
 (.seq
 (.reg [rg 4 (.mov (.c (.b false)))])
 (.seq
 (.reg [mv 5 0,rg 6 (.bin .eql (.t 5) (.c (.i .i64 1))),mv 7 6,gd 8 7 true (.mov (.t 1)),gd 9 7 true (.call 189 [(.t 8)]),rg 10 (.pick (.t 7) (.t 9) (.c (.b false))),mv 11 10,gd 12 11 false (.mov (.t 0)),gd 13 11 false (.bin .eql (.t 12) (.c (.i .i64 2))),gd 14 11 false (.mov (.t 13)),gd 15 14 true (.mov (.t 1)),gd 16 14 true (.call 189 [(.t 15)]),gd 17 14 true (.mov (.t 16)),gd 18 17 false (.mov (.t 1)),gd 19 17 false (.call 190 [(.t 18)]),gd 20 14 true (.pick (.t 17) (.c (.b true)) (.t 19)),gd 21 11 false (.pick (.t 14) (.t 20) (.c (.b false))),rg 22 (.pick (.t 11) (.c (.b true)) (.t 21)),mv 4 22])
 (.pre (.norm false [4]) .ret)))
def b182:AX:=
 (.seq
 (.reg [rg 2 (.mov (.c (.i .i64 0)))])
 (.seq
 (.seq
 (.reg [mv 3 0,rg 4 (.bin .eql (.t 3) (.c (.i .i64 1)))])
 (.cond (.t 4)
 (.seq
 (.reg [rg 2 (.mov (.c (.i .i64 60)))])
 (.pre (.norm false [2]) .ret))
 .skip))
 (.seq
 (.seq
 (.reg [mv 5 0,rg 6 (.bin .eql (.t 5) (.c (.i .i64 2)))])
 (.cond (.t 6)
 (.seq
 (.reg [rg 2 (.mov (.c (.i .i64 12)))])
 (.pre (.norm false [2]) .ret))
 .skip))
 (.seq
 (.reg [rg 2 (.mov (.c (.i .i64 1)))])
 (.pre (.norm false [2]) .ret)))))
def l168_0:AX:=
 (.note
 (.seq
 (.seq
 (.reg [mv 14 6,mv 15 0,rg 16 (.lens (.t 15)),rg 17 (.bin .lss (.t 14) (.t 16))])
 (.cond (.t 17)
 .skip
 (.exit 0)))
 (.seq
 (.block 1
 (.seq
 (.reg [mv 20 0,mv 21 6,rg 22 (.ixs (.t 20) (.t 21)),mv 7 22])
 (.seq
 (.seq
 (.reg [mv 23 7,rg 24 (.bin .eql (.t 23) (.c (u8 10)))])
 (.cond (.t 24)
 (.reg [rg 5 (.mov (.c (.b false)))])
 .skip))
 (.seq
 (.seq
 (.reg [mv 25 7,rg 26 (.bin .eql (.t 25) (.c (u8 35)))])
 (.cond (.t 26)
 (.reg [rg 5 (.mov (.c (.b true)))])
 .skip))
 (.seq
 (.seq
 (.reg [mv 27 5,mv 28 27,gd 29 28 false (.mov (.t 7)),gd 30 28 false (.bin .eql (.t 29) (.c (u8 32))),rg 31 (.pick (.t 28) (.c (.b true)) (.t 30)),mv 32 31,gd 33 32 false (.mov (.t 7)),gd 34 32 false (.bin .eql (.t 33) (.c (u8 9))),rg 35 (.pick (.t 32) (.c (.b true)) (.t 34)),mv 36 35,gd 37 36 false (.mov (.t 7)),gd 38 36 false (.bin .eql (.t 37) (.c (u8 10))),rg 39 (.pick (.t 36) (.c (.b true)) (.t 38)),mv 40 39,gd 41 40 false (.mov (.t 7)),gd 42 40 false (.bin .eql (.t 41) (.c (u8 13))),rg 43 (.pick (.t 40) (.c (.b true)) (.t 42))])
 (.cond (.t 43)
 (.exit 1)
 .skip))
 (.seq
 (.reg [mv 44 4,rg 45 (.len (.t 44)),mv 8 45])
 (.seq
 (.seq
 (.drawT [mv 46 8,rg 47 (.bin .gtr (.t 46) (.c (.i .i64 0))),mv 48 47,gd 49 48 true (.mov (.t 4)),gd 50 48 true (.mov (.t 8)),gd 51 48 true (.bin .sub (.t 50) (.c (.i .i64 1))),gd 52 48 true (.iad 3 (.t 49) (.t 51)),gd 53 48 true (.fad 2 (.t 52)),gd 54 48 true (.load none (.t 53)),gd 55 48 true (.mov (.t 4)),gd 56 48 true (.mov (.t 8)),gd 57 48 true (.bin .sub (.t 56) (.c (.i .i64 1))),gd 58 48 true (.iad 3 (.t 55) (.t 57)),gd 59 48 true (.fad 1 (.t 58)),gd 60 48 true (.load none (.t 59)),gd 61 48 true (.lens (.t 60)),gd 62 48 true (.bin .add (.t 54) (.t 61)),gd 63 48 true (.mov (.t 6)),gd 64 48 true (.bin .eql (.t 62) (.t 63)),rg 65 (.pick (.t 48) (.t 64) (.c (.b false))),mv 66 65,gd 67 66 true (.mov (.t 4)),gd 68 66 true (.mov (.t 8)),gd 69 66 true (.bin .sub (.t 68) (.c (.i .i64 1))),gd 70 66 true (.iad 3 (.t 67) (.t 69)),gd 71 66 true (.fad 0 (.t 70)),gd 72 66 true (.load none (.t 71)),gd 73 66 true (.mov (.t 7))]
 [gd 74 66 true (.call 180 [(.t 72),(.t 73)]),rg 75 (.pick (.t 66) (.t 74) (.c (.b false)))])
 (.cond (.t 75)
 (.drawT [mv 76 4,mv 77 8,rg 78 (.bin .sub (.t 77) (.c (.i .i64 1))),rg 79 (.iad 3 (.t 76) (.t 78)),rg 80 (.fad 1 (.t 79)),rg 81 (.load none (.t 80)),mv 82 0,mv 83 6,mv 84 6,rg 85 (.bin .add (.t 84) (.c (.i .i64 1))),rg 86 (.slstr (.t 82) (some (.t 83)) (some (.t 85)))]
 [rg 87 (.bin .add (.t 81) (.t 86)),rg 88 (.iad 3 (.t 76) (.t 78)),rg 89 (.fad 1 (.t 88)),so (.store 1 (.t 89) (.t 87))])
 (.drawT [mv 90 4,mv 91 7,rg 92 (.call 181 [(.t 91)]),mv 93 0,mv 94 6,mv 95 6,rg 96 (.bin .add (.t 95) (.c (.i .i64 1))),rg 97 (.slstr (.t 93) (some (.t 94)) (some (.t 96))),mv 98 6,rg 99 (.build [(.i .i64 0),(.s []),(.i .i64 0)] [(0,1,(.t 92)),(1,1,(.t 97)),(2,1,(.t 98))]),rg 100 (.bsl 3 [(.i .i64 0),(.s []),(.i .i64 0)] 1 [(0,(.t 99))])]
 [rg 101 (.app 3 (.t 90) (.t 100)),mv 4 101])))
 (.seq
 (.reg [mv 102 4,mv 103 4,rg 104 (.len (.t 103)),rg 105 (.bin .sub (.t 104) (.c (.i .i64 1))),rg 106 (.iad 3 (.t 102) (.t 105)),rg 107 (.load (some 3) (.t 106)),rg 9 (.alloc [(.i .i64 0),(.s []),(.i .i64 0)]),so (.store 3 (.t 9) (.t 107))])
 (.seq
 (.drawT [rg 108 (.fad 0 (.t 9)),rg 109 (.load none (.t 108)),rg 110 (.bin .eql (.t 109) (.c (.i .i64 0))),mv 111 110,gd 112 111 false (.fad 1 (.t 9)),gd 113 111 false (.load none (.t 112)),gd 114 111 false (.lens (.t 113)),gd 115 111 false (.fad 0 (.t 9)),gd 116 111 false (.load none (.t 115)),gd 117 111 false (.call 182 [(.t 116)])]
 [gd 118 111 false (.bin .gtr (.t 114) (.t 117)),rg 119 (.pick (.t 111) (.c (.b true)) (.t 118))])
 (.cond (.t 119)
 (.seq
 (.reg [rg 120 (.bsl 3 [(.i .i64 0),(.s []),(.i .i64 0)] 0 []),mv 121 6,mv 2 120,mv 3 121])
 (.pre (.norm false [2,3]) .ret))
 .skip))))))))))
 (.reg [mv 18 6,rg 19 (.bin .add (.t 18) (.c (.i .i64 1))),mv 6 19])))
 (.norm false [0,4,5,6]))
def b168:AX:=
 (.seq
 (.reg [rg 2 (.mov (.c (.sl [] .nl))),rg 3 (.mov (.c (.i .i64 0)))])
 (.seq
 (.seq
 (.reg [mv 10 0,rg 11 (.lens (.t 10)),rg 12 (.bin .gtr (.t 11) (.c (.i .i64 4000)))])
 (.cond (.t 12)
 (.seq
 (.reg [rg 13 (.bsl 3 [(.i .i64 0),(.s []),(.i .i64 0)] 0 []),mv 2 13,rg 3 (.mov (.c (.i .i64 4000)))])
 (.pre (.norm false [2,3]) .ret))
 .skip))
 (.seq
 (.note (.reg [rg 4 (.mov (.c (.sl [] .nl)))]) (.nil 4 3))
 (.seq
 (.reg [rg 5 (.mov (.c (.b false)))])
 (.seq
 (.seq
 (.reg [rg 6 (.mov (.c (.i .i64 0)))])
 (.lp 0 (.norm false [0,4,5,6]) l168_0 (.norm false [4])))
 (.seq
 (.reg [mv 122 4,mv 2 122,rg 3 (.mov (.c (.i .i64 (-1))))])
 (.pre (.norm false [2,3]) .ret)))))))
def b173:AX:=
 (.seq
 (.reg [rg 1 (.xop (.box 3) [(.t 0)]),rg 2 (.mov (.c (.b false)))])
 (.seq
 (.reg [rg 6 (.fad 1 (.t 1)),rg 7 (.load none (.t 6)),rg 8 (.call 168 [(.t 7)]),mv 5 8,rg 9 (.ext (.t 5) 0),rg 10 (.ext (.t 5) 1),mv 3 9,mv 4 10])
 (.seq
 (.drawT [mv 11 4,rg 12 (.bin .lss (.t 11) (.c (.i .i64 0))),mv 13 12,gd 14 13 true (.mov (.t 3)),gd 15 13 true (.len (.t 14)),gd 16 13 true (.bin .eql (.t 15) (.c (.i .i64 1))),rg 17 (.pick (.t 13) (.t 16) (.c (.b false))),mv 18 17,gd 19 18 true (.mov (.t 3)),gd 20 18 true (.iad 3 (.t 19) (.c (.i .i64 0))),gd 21 18 true (.fad 0 (.t 20)),gd 22 18 true (.load none (.t 21)),gd 23 18 true (.fad 0 (.t 1)),gd 24 18 true (.load none (.t 23)),gd 25 18 true (.bin .eql (.t 22) (.t 24)),rg 26 (.pick (.t 18) (.t 25) (.c (.b false))),mv 27 26,gd 28 27 true (.mov (.t 3)),gd 29 27 true (.iad 3 (.t 28) (.c (.i .i64 0))),gd 30 27 true (.fad 1 (.t 29)),gd 31 27 true (.load none (.t 30)),gd 32 27 true (.fad 1 (.t 1)),gd 33 27 true (.load none (.t 32))]
 [gd 34 27 true (.bin .eql (.t 31) (.t 33)),rg 35 (.pick (.t 27) (.t 34) (.c (.b false))),mv 2 35])
 (.pre (.norm false [2]) .ret))))
def row189:AFx:=⟨1,9,[.t 2],b189,none,false⟩
def row190:AFx:=⟨1,21,[.t 2],b190,none,false⟩
def row181:AFx:=⟨1,20,[.t 2],b181,none,false⟩
def row180:AFx:=⟨2,23,[.t 4],b180,none,false⟩
def row182:AFx:=⟨1,7,[.t 2],b182,none,false⟩
def row168:AFx:=⟨1,123,[.t 2,.t 3],b168,none,false⟩
def row173:AFx:=⟨1,36,[.t 2],b173,none,false⟩
class Zat (T:Tbl):Prop where
 h189:T 189=some row189
 h190:T 190=some row190
 h181:T 181=some row181
 h180:T 180=some row180
 h182:T 182=some row182
 h168:T 168=some row168
 h173:T 173=some row173
section
variable{T:Tbl}[Zat T]{d:Option Nat}{st:St}
@[simp] theorem x189(xs:List AV):Zc (orc T) T 189 xs d st=cP T 189 false xs d st:=zaa Zat.h189
@[simp] theorem x190(xs:List AV):Zc (orc T) T 190 xs d st=cP T 190 false xs d st:=zaa Zat.h190
@[simp] theorem y181{e:Env}{h:Heap}{older:List Heap}(args:List Opd):opD (orc T) T (.call 181 args) e h older=dR (Zb T 181 ((args.map (ev e.get)).map (wkIf false))) (args.map (ev e.get)):=zal Zat.h181
@[simp] theorem x180(xs:List AV):Zc (orc T) T 180 xs d st=cP T 180 false xs d st:=zaa Zat.h180
@[simp] theorem y182{e:Env}{h:Heap}{older:List Heap}(args:List Opd):opD (orc T) T (.call 182 args) e h older=dR (Zb T 182 ((args.map (ev e.get)).map (wkIf false))) (args.map (ev e.get)):=zal Zat.h182
@[simp] theorem x168(xs:List AV):Zc (orc T) T 168 xs d st=cP T 168 false xs d st:=zaa Zat.h168
@[simp] theorem x173(xs:List AV):Zc (orc T) T 173 xs d st=cP T 173 false xs d st:=zaa Zat.h173
end
def l478_0:AX:=
 (.note
 (.seq
 (.seq
 (.reg [mv 8 5,mv 9 4,rg 10 (.len (.t 9)),rg 11 (.bin .lss (.t 8) (.t 10))])
 (.cond (.t 11)
 .skip
 (.exit 0)))
 (.seq
 (.block 1
 (.reg [mv 14 3,mv 15 4,mv 16 5,rg 17 (.iad 1 (.t 15) (.t 16)),rg 18 (.load none (.t 17)),rg 19 (.len (.t 18)),rg 20 (.bin .add (.t 14) (.t 19)),mv 3 20]))
 (.reg [mv 12 5,rg 13 (.bin .add (.t 12) (.c (.i .i64 1))),mv 5 13])))
 (.norm false [3,4,5]))
def b478:AX:=
 (.seq
 (.reg [rg 1 (.xop (.box 2) [(.t 0)]),rg 2 (.mov (.c (.i .i64 0)))])
 (.seq
 (.reg [rg 3 (.mov (.c (.i .i64 0)))])
 (.seq
 (.reg [rg 6 (.load (some 2) (.t 1)),rg 7 (.call 479 [(.t 6)]),mv 4 7])
 (.seq
 (.seq
 (.reg [rg 5 (.mov (.c (.i .i64 0)))])
 (.lp 0 (.norm false [3,4,5]) l478_0 (.norm false [3])))
 (.seq
 (.reg [mv 21 3,mv 2 21])
 (.pre (.norm false [2]) .ret))))))
def l479_0:AX:=
 (.note
 (.seq
 (.seq
 (.reg [mv 5 4,rg 6 (.fad 0 (.t 1)),rg 7 (.load none (.t 6)),rg 8 (.len (.t 7)),rg 9 (.bin .lss (.t 5) (.t 8))])
 (.cond (.t 9)
 .skip
 (.exit 0)))
 (.seq
 (.block 1
 (.reg [mv 12 3,rg 13 (.fad 0 (.t 1)),rg 14 (.load none (.t 13)),mv 15 4,rg 16 (.iad 2 (.t 14) (.t 15)),rg 17 (.fad 1 (.t 16)),rg 18 (.load none (.t 17)),rg 19 (.bsl 1 [(.sl [] .nl)] 1 [(0,(.t 18))]),rg 20 (.app 1 (.t 12) (.t 19)),mv 3 20]))
 (.reg [mv 10 4,rg 11 (.bin .add (.t 10) (.c (.i .i64 1))),mv 4 11])))
 (.norm false [1,3,4]))
def b479:AX:=
 (.seq
 (.reg [rg 1 (.xop (.box 2) [(.t 0)]),rg 2 (.mov (.c (.sl [] .nl)))])
 (.seq
 (.note (.reg [rg 3 (.mov (.c (.sl [] .nl)))]) (.nil 3 1))
 (.seq
 (.seq
 (.reg [rg 4 (.mov (.c (.i .i64 0)))])
 (.lp 0 (.norm false [1,3,4]) l479_0 (.norm false [1,3])))
 (.seq
 (.reg [mv 21 3,rg 22 (.fad 1 (.t 1)),rg 23 (.load none (.t 22)),rg 24 (.app 1 (.t 21) (.t 23)),mv 2 24])
 (.pre (.norm false [2]) .ret)))))
def b481:AX:=
 (.seq
 (.reg [rg 2 (.mov (.c (.i .i64 0)))])
 (.seq
 (.seq
 (.reg [mv 5 0,rg 6 (.call 80 [(.t 5)]),rg 7 (.bin .geq (.t 6) (.c (.i .i64 0)))])
 (.cond (.t 7)
 (.seq
 (.reg [rg 2 (.mov (.c (.i .i64 0)))])
 (.pre (.norm false [2]) .ret))
 .skip))
 (.seq
 (.reg [mv 9 0,mv 10 0,rg 11 (.len (.t 10)),rg 12 (.bin .sub (.t 11) (.c (.i .i64 1))),rg 13 (.call 114 [(.t 9),(.t 12)]),mv 8 13,rg 14 (.ext (.t 8) 0),rg 15 (.ext (.t 8) 1),mv 3 14,mv 4 15])
 (.seq
 (.reg [mv 16 3,mv 2 16])
 (.pre (.norm false [2]) .ret)))))
def b480:AX:=
 (.seq
 (.reg [rg 2 (.mov (.c (.b false)))])
 (.seq
 (.reg [mv 3 0,rg 4 (.build [(.i .i64 0),(.s []),(.i .i64 0)] [(0,1,(.c (.i .i64 2))),(1,1,(.t 3))]),rg 5 (.call 173 [(.t 4)]),mv 6 5,gd 7 6 true (.mov (.t 0)),gd 8 6 true (.bin .neq (.t 7) (.c (.s [116]))),rg 9 (.pick (.t 6) (.t 8) (.c (.b false))),mv 10 9,gd 11 10 true (.mov (.t 0)),gd 12 10 true (.bin .neq (.t 11) (.c (.s [121]))),rg 13 (.pick (.t 10) (.t 12) (.c (.b false))),mv 14 13,gd 15 14 true (.mov (.t 0)),gd 16 14 true (.bin .neq (.t 15) (.c (.s [112]))),rg 17 (.pick (.t 14) (.t 16) (.c (.b false))),mv 18 17,gd 19 18 true (.mov (.t 0)),gd 20 18 true (.bin .neq (.t 19) (.c (.s [108,101,116]))),rg 21 (.pick (.t 18) (.t 20) (.c (.b false))),mv 2 21])
 (.pre (.norm false [2]) .ret)))
def l469_0:AX:=
 (.note
 (.seq
 (.seq
 (.reg [mv 72 12,mv 73 9,rg 74 (.bin .lss (.t 72) (.t 73))])
 (.cond (.t 74)
 .skip
 (.exit 2)))
 (.seq
 (.block 3
 (.drawT [mv 77 11,mv 78 77,gd 79 78 true (.fad 0 (.t 3)),gd 80 78 true (.load none (.t 79)),gd 81 78 true (.mov (.t 12)),gd 82 78 true (.iad 2 (.t 80) (.t 81)),gd 83 78 true (.fad 0 (.t 82)),gd 84 78 true (.load none (.t 83)),gd 85 78 true (.fad 0 (.t 3)),gd 86 78 true (.load none (.t 85)),gd 87 78 true (.mov (.t 9)),gd 88 78 true (.iad 2 (.t 86) (.t 87)),gd 89 78 true (.fad 0 (.t 88)),gd 90 78 true (.load none (.t 89))]
 [gd 91 78 true (.bin .neq (.t 84) (.t 90)),rg 92 (.pick (.t 78) (.t 91) (.c (.b false))),mv 11 92]))
 (.reg [mv 75 12,rg 76 (.bin .add (.t 75) (.c (.i .i64 1))),mv 12 76])))
 (.norm false [1,2,3,7,8,9,10,11,12]))
def l469_1:AX:=
 (.note
 (.seq
 (.seq
 (.reg [mv 49 9,mv 50 8,rg 51 (.len (.t 50)),rg 52 (.bin .lss (.t 49) (.t 51))])
 (.cond (.t 52)
 .skip
 (.exit 0)))
 (.seq
 (.block 1
 (.seq
 (.reg [mv 55 9,rg 56 (.fad 0 (.t 3)),rg 57 (.load none (.t 56)),rg 58 (.len (.t 57)),rg 59 (.mm false [(.t 55),(.t 58)]),mv 10 59])
 (.seq
 (.seq
 (.reg [mv 60 9,rg 61 (.fad 0 (.t 3)),rg 62 (.load none (.t 61)),rg 63 (.len (.t 62)),rg 64 (.bin .lss (.t 60) (.t 63))])
 (.cond (.t 64)
 (.seq
 (.reg [rg 65 (.fad 0 (.t 3)),rg 66 (.load none (.t 65)),mv 67 9,rg 68 (.iad 2 (.t 66) (.t 67)),rg 69 (.fad 0 (.t 68)),rg 70 (.load none (.t 69)),rg 71 (.call 480 [(.t 70)]),mv 11 71])
 (.seq
 (.seq
 (.reg [rg 12 (.mov (.c (.i .i64 0)))])
 (.lp 2 (.norm false [1,2,3,7,8,9,10,11,12]) l469_0 (.norm false [1,2,3,7,8,9,10,11])))
 (.seq
 (.reg [mv 93 11,rg 94 (.un .not (.t 93))])
 (.cond (.t 94)
 (.seq
 (.reg [mv 95 9,rg 96 (.bin .add (.t 95) (.c (.i .i64 1))),rg 97 (.build [(.i .i64 0),(.i .i64 0),(.i .i64 0)] [(0,1,(.t 96)),(1,1,(.c (.i .i64 1))),(2,1,(.c (.i .i64 0)))]),rg 6 (.mov (.c (.b true))),so (.store 3 (.t 7) (.t 97))])
 (.pre (.norm false [6,7]) .ret))
 .skip))))
 .skip))
 (.seq
 (.reg [mv 98 8,mv 99 9,rg 100 (.iad 1 (.t 98) (.t 99)),rg 101 (.load none (.t 100)),mv 102 1,mv 103 2,mv 104 10,rg 105 (.call 50 [(.t 101),(.t 102),(.t 103),(.t 104)]),mv 13 105])
 (.seq
 (.seq
 (.reg [mv 106 13,rg 107 (.bin .geq (.t 106) (.c (.i .i64 0)))])
 (.cond (.t 107)
 (.seq
 (.reg [mv 108 9,rg 109 (.bin .add (.t 108) (.c (.i .i64 1))),mv 110 13,rg 111 (.build [(.i .i64 0),(.i .i64 0),(.i .i64 0)] [(0,1,(.t 109)),(1,1,(.c (.i .i64 0))),(2,1,(.t 110))]),rg 6 (.mov (.c (.b true))),so (.store 3 (.t 7) (.t 111))])
 (.pre (.norm false [6,7]) .ret))
 .skip))
 (.seq
 (.reg [mv 112 8,mv 113 9,rg 114 (.iad 1 (.t 112) (.t 113)),rg 115 (.load none (.t 114)),rg 116 (.call 481 [(.t 115)]),rg 117 (.bin .gtr (.t 116) (.c (.i .i64 40)))])
 (.cond (.t 117)
 (.seq
 (.drawT [mv 118 9,rg 119 (.bin .add (.t 118) (.c (.i .i64 1))),mv 120 8,mv 121 9,rg 122 (.iad 1 (.t 120) (.t 121)),rg 123 (.load none (.t 122)),rg 124 (.len (.t 123)),rg 125 (.build [(.i .i64 0),(.i .i64 0),(.i .i64 0)] [(0,1,(.t 119)),(1,1,(.c (.i .i64 0))),(2,1,(.t 124))]),rg 6 (.mov (.c (.b true)))]
 [so (.store 3 (.t 7) (.t 125))])
 (.pre (.norm false [6,7]) .ret))
 .skip)))))))
 (.reg [mv 53 9,rg 54 (.bin .add (.t 53) (.c (.i .i64 1))),mv 9 54])))
 (.norm false [1,2,3,7,8,9]))
def b469:AX:=
 (.seq
 (.reg [rg 3 (.xop (.box 2) [(.t 0)]),rg 6 (.mov (.c (.b false))),rg 7 (.alloc [(.i .i64 0),(.i .i64 0),(.i .i64 0)])])
 (.seq
 (.seq
 (.reg [mv 14 1,rg 15 (.bin .lss (.t 14) (.c (.i .i64 1))),mv 16 15,gd 17 16 false (.mov (.t 1)),gd 18 16 false (.bin .gtr (.t 17) (.c (.i .i64 6))),rg 19 (.pick (.t 16) (.c (.b true)) (.t 18)),mv 20 19,gd 21 20 false (.mov (.t 2)),gd 22 20 false (.bin .lss (.t 21) (.c (.i .i64 0))),rg 23 (.pick (.t 20) (.c (.b true)) (.t 22)),mv 24 23,gd 25 24 false (.mov (.t 2)),gd 26 24 false (.bin .gtr (.t 25) (.c (.i .i64 6))),rg 27 (.pick (.t 24) (.c (.b true)) (.t 26)),mv 28 27,gd 29 28 false (.fad 1 (.t 3)),gd 30 28 false (.load none (.t 29)),gd 31 28 false (.len (.t 30)),gd 32 28 false (.mov (.t 1)),gd 33 28 false (.bin .neq (.t 31) (.t 32)),rg 34 (.pick (.t 28) (.c (.b true)) (.t 33)),mv 35 34,gd 36 35 false (.fad 0 (.t 3)),gd 37 35 false (.load none (.t 36)),gd 38 35 false (.len (.t 37)),gd 39 35 false (.bin .gtr (.t 38) (.c (.i .i64 10))),rg 40 (.pick (.t 35) (.c (.b true)) (.t 39)),mv 41 40,gd 42 41 false (.load (some 2) (.t 3)),gd 43 41 false (.call 478 [(.t 42)]),gd 44 41 false (.bin .gtr (.t 43) (.c (.i .i64 300))),rg 45 (.pick (.t 41) (.c (.b true)) (.t 44))])
 (.cond (.t 45)
 (.seq
 (.reg [rg 46 (.build [(.i .i64 0),(.i .i64 0),(.i .i64 0)] []),rg 6 (.mov (.c (.b true))),so (.store 3 (.t 7) (.t 46))])
 (.pre (.norm false [6,7]) .ret))
 .skip))
 (.seq
 (.reg [rg 47 (.load (some 2) (.t 3)),rg 48 (.call 479 [(.t 47)]),mv 8 48])
 (.seq
 (.seq
 (.reg [rg 9 (.mov (.c (.i .i64 0)))])
 (.lp 0 (.norm false [1,2,3,7,8,9]) l469_1 (.norm false [7])))
 (.seq
 (.reg [rg 126 (.build [(.i .i64 0),(.i .i64 0),(.i .i64 0)] []),rg 6 (.mov (.c (.b false))),so (.store 3 (.t 7) (.t 126))])
 (.pre (.norm false [6,7]) .ret))))))
def l466_0:AX:=
 (.note
 (.seq
 (.seq
 (.reg [mv 23 9,rg 24 (.fad 0 (.t 4)),rg 25 (.load none (.t 24)),rg 26 (.len (.t 25)),rg 27 (.bin .lss (.t 23) (.t 26))])
 (.cond (.t 27)
 .skip
 (.exit 0)))
 (.seq
 (.block 1
 (.seq
 (.reg [rg 30 (.fad 0 (.t 4)),rg 31 (.load none (.t 30)),mv 32 9,rg 33 (.iad 2 (.t 31) (.t 32)),rg 34 (.fad 0 (.t 33)),rg 35 (.load none (.t 34)),rg 36 (.lens (.t 35)),rg 37 (.bin .gtr (.t 36) (.c (.i .i64 100))),mv 38 37,gd 39 38 false (.fad 0 (.t 4)),gd 40 38 false (.load none (.t 39)),gd 41 38 false (.mov (.t 9)),gd 42 38 false (.iad 2 (.t 40) (.t 41)),gd 43 38 false (.fad 1 (.t 42)),gd 44 38 false (.load none (.t 43)),gd 45 38 false (.mov (.t 2)),gd 46 38 false (.mov (.t 3)),gd 47 38 false (.call 10 [(.t 44),(.t 45),(.t 46)]),rg 48 (.pick (.t 38) (.c (.b true)) (.t 47))])
 (.cond (.t 48)
 (.seq
 (.reg [rg 8 (.mov (.c (.b true)))])
 (.pre (.norm false [8]) .ret))
 .skip)))
 (.reg [mv 28 9,rg 29 (.bin .add (.t 28) (.c (.i .i64 1))),mv 9 29])))
 (.norm false [2,3,4,9]))
def l466_1:AX:=
 (.note
 (.seq
 (.seq
 (.reg [mv 49 10,rg 50 (.fad 1 (.t 4)),rg 51 (.load none (.t 50)),rg 52 (.len (.t 51)),rg 53 (.bin .lss (.t 49) (.t 52))])
 (.cond (.t 53)
 .skip
 (.exit 2)))
 (.seq
 (.block 3
 (.seq
 (.reg [rg 56 (.fad 1 (.t 4)),rg 57 (.load none (.t 56)),mv 58 10,rg 59 (.iad 1 (.t 57) (.t 58)),rg 60 (.load none (.t 59)),mv 61 2,mv 62 3,rg 63 (.call 10 [(.t 60),(.t 61),(.t 62)])])
 (.cond (.t 63)
 (.seq
 (.reg [rg 8 (.mov (.c (.b true)))])
 (.pre (.norm false [8]) .ret))
 .skip)))
 (.reg [mv 54 10,rg 55 (.bin .add (.t 54) (.c (.i .i64 1))),mv 10 55])))
 (.norm false [2,3,4,10]))
def b466:AX:=
 (.seq
 (.reg [rg 4 (.xop (.box 2) [(.t 0)]),rg 8 (.mov (.c (.b false)))])
 (.seq
 (.seq
 (.reg [rg 11 (.fad 0 (.t 4)),rg 12 (.load none (.t 11)),rg 13 (.len (.t 12)),mv 14 1,rg 15 (.bin .gtr (.t 13) (.t 14)),mv 16 15,gd 17 16 false (.fad 1 (.t 4)),gd 18 16 false (.load none (.t 17)),gd 19 16 false (.len (.t 18)),gd 20 16 false (.mov (.t 1)),gd 21 16 false (.bin .gtr (.t 19) (.t 20)),rg 22 (.pick (.t 16) (.c (.b true)) (.t 21))])
 (.cond (.t 22)
 (.seq
 (.reg [rg 8 (.mov (.c (.b true)))])
 (.pre (.norm false [8]) .ret))
 .skip))
 (.seq
 (.seq
 (.reg [rg 9 (.mov (.c (.i .i64 0)))])
 (.lp 0 (.norm false [2,3,4,9]) l466_0 (.norm false [2,3,4])))
 (.seq
 (.seq
 (.reg [rg 10 (.mov (.c (.i .i64 0)))])
 (.lp 2 (.norm false [2,3,4,10]) l466_1 (.norm false [])))
 (.seq
 (.reg [rg 8 (.mov (.c (.b false)))])
 (.pre (.norm false [8]) .ret))))))
def row478:AFx:=⟨1,22,[.t 2],b478,none,false⟩
def row479:AFx:=⟨1,25,[.t 2],b479,none,false⟩
def row481:AFx:=⟨1,17,[.t 2],b481,none,false⟩
def row480:AFx:=⟨1,22,[.t 2],b480,none,false⟩
def row469:AFx:=⟨3,127,[.t 6,.cell 7 (some 3)],b469,none,false⟩
def row466:AFx:=⟨4,64,[.t 8],b466,none,false⟩
class Zai (T:Tbl):Prop where
 h478:T 478=some row478
 h479:T 479=some row479
 h481:T 481=some row481
 h480:T 480=some row480
 h469:T 469=some row469
 h466:T 466=some row466
section
variable{T:Tbl}[Zai T]{d:Option Nat}{st:St}{xs:List AV}{ps:List Opd}{e:Env}{h:Heap}{ol:List Heap}
@[simp] theorem x478:Zc (orc T) T 478 xs d st=cP T 478 false xs d st:=zaa Zai.h478
@[simp] theorem x479:Zc (orc T) T 479 xs d st=cP T 479 false xs d st:=zaa Zai.h479
@[simp] theorem x481:Zc (orc T) T 481 xs d st=cP T 481 false xs d st:=zaa Zai.h481
@[simp] theorem x480:Zc (orc T) T 480 xs d st=cP T 480 false xs d st:=zaa Zai.h480
@[simp] theorem x469:Zc (orc T) T 469 xs d st=cP T 469 false xs d st:=zaa Zai.h469
@[simp] theorem x466:Zc (orc T) T 466 xs d st=cP T 466 false xs d st:=zaa Zai.h466
end
def b402:AX:=
 (.seq
 (.reg [rg 1 (.xop (.box 5) [(.t 0)]),rg 2 (.alloc [(.b false),(.sl [] .nl),(.sl [] .nl),(.sl [] .nl),(.sl [] .nl)])])
 (.seq
 (.drawT [rg 3 (.fad 0 (.t 1)),rg 4 (.load (some 3) (.t 3)),rg 5 (.call 231 [(.t 4)]),rg 6 (.fad 3 (.t 1)),rg 7 (.load none (.t 6)),rg 8 (.call 278 [(.t 7)]),rg 9 (.fad 4 (.t 1)),rg 10 (.load none (.t 9))]
 [rg 11 (.call 278 [(.t 10)]),rg 12 (.build [(.b false),(.sl [] .nl),(.sl [] .nl),(.sl [] .nl),(.sl [] .nl)] [(0,3,(.t 5)),(3,1,(.t 8)),(4,1,(.t 11))]),so (.store 5 (.t 2) (.t 12))])
 (.pre (.norm false [2]) .ret)))
def b465:AX:=
 (.seq
 (.reg [rg 2 (.mov (.c (.i .i64 0)))])
 (.seq
 (.reg [mv 3 0,rg 4 (.mm true [(.t 3),(.c (.i .i64 0))]),rg 5 (.mm false [(.t 4),(.c (.i .i64 4096))]),mv 2 5])
 (.pre (.norm false [2]) .ret)))
def b475:AX:=
 (.seq
 (.reg [rg 6 (.xop (.box 3) [(.t 2)]),rg 7 (.xop (.box 3) [(.t 3)]),rg 8 (.alloc [(.b false),(.sl [] .nl),(.sl [] .nl)]),rg 9 (.mov (.c (.b false)))])
 (.seq
 (.seq
 (.reg [mv 10 0,rg 11 (.bin .eql (.t 10) (.c (.i .i64 6)))])
 (.cond (.t 11)
 (.seq
 (.reg [rg 12 (.load (some 3) (.t 6)),rg 13 (.call 237 [(.t 12)]),so (.store 3 (.t 8) (.t 13)),rg 9 (.mov (.c (.b true)))])
 (.pre (.norm false [8,9]) .ret))
 .skip))
 (.seq
 (.seq
 (.reg [mv 14 0,rg 15 (.bin .eql (.t 14) (.c (.i .i64 7)))])
 (.cond (.t 15)
 (.seq
 (.reg [rg 16 (.load (some 3) (.t 6)),rg 17 (.load (some 3) (.t 7)),rg 18 (.call 239 [(.t 16),(.t 17)]),so (.store 3 (.t 8) (.t 18)),rg 9 (.mov (.c (.b true)))])
 (.pre (.norm false [8,9]) .ret))
 .skip))
 (.seq
 (.seq
 (.reg [mv 19 0,rg 20 (.bin .eql (.t 19) (.c (.i .i64 8)))])
 (.cond (.t 20)
 (.seq
 (.reg [rg 21 (.load (some 3) (.t 6)),rg 22 (.load (some 3) (.t 7)),rg 23 (.call 240 [(.t 21),(.t 22)]),so (.store 3 (.t 8) (.t 23)),rg 9 (.mov (.c (.b true)))])
 (.pre (.norm false [8,9]) .ret))
 .skip))
 (.seq
 (.seq
 (.reg [mv 24 0,rg 25 (.bin .eql (.t 24) (.c (.i .i64 9)))])
 (.cond (.t 25)
 (.seq
 (.reg [rg 26 (.load (some 3) (.t 6)),rg 27 (.load (some 3) (.t 7)),rg 28 (.call 241 [(.t 26),(.t 27)]),so (.store 3 (.t 8) (.t 28)),rg 9 (.mov (.c (.b true)))])
 (.pre (.norm false [8,9]) .ret))
 .skip))
 (.seq
 (.seq
 (.reg [mv 29 0,rg 30 (.bin .eql (.t 29) (.c (.i .i64 11)))])
 (.cond (.t 30)
 (.seq
 (.reg [rg 31 (.load (some 3) (.t 6)),mv 32 1,rg 33 (.call 244 [(.t 31),(.t 32)]),rg 34 (.ext (.t 33) 0),rg 35 (.ext (.t 33) 1),so (.store 3 (.t 8) (.t 34)),mv 9 35])
 (.pre (.norm false [8,9]) .ret))
 .skip))
 (.seq
 (.seq
 (.reg [rg 36 (.load (some 3) (.t 7)),rg 37 (.call 235 [(.t 36)])])
 (.cond (.t 37)
 (.seq
 (.reg [rg 38 (.load (some 3) (.t 7)),so (.store 3 (.t 8) (.t 38)),rg 9 (.mov (.c (.b false)))])
 (.pre (.norm false [8,9]) .ret))
 .skip))
 (.seq
 (.reg [rg 39 (.load (some 3) (.t 6)),rg 40 (.load (some 3) (.t 7)),rg 41 (.call 242 [(.t 39),(.t 40)]),so (.store 3 (.t 8) (.t 41)),rg 9 (.mov (.c (.b true)))])
 (.pre (.norm false [8,9]) .ret)))))))))
def b474:AX:=
 (.seq
 (.reg [rg 3 (.xop (.box 3) [(.t 0)]),rg 4 (.xop (.box 5) [(.t 1)]),rg 6 (.alloc [(.b false),(.sl [] .nl),(.sl [] .nl)])])
 (.seq
 (.seq
 (.reg [rg 7 (.fad 0 (.t 3)),rg 8 (.load none (.t 7)),rg 9 (.bin .eql (.t 8) (.c (.i .i64 1)))])
 (.cond (.t 9)
 (.seq
 (.reg [rg 10 (.fad 2 (.t 3)),rg 11 (.load none (.t 10)),rg 12 (.bsl 1 [(u32 0)] 1 [(0,(.c (u32 1)))]),rg 13 (.build [(.b false),(.sl [] .nl),(.sl [] .nl)] [(1,1,(.t 11)),(2,1,(.t 12))]),rg 14 (.call 231 [(.t 13)]),so (.store 3 (.t 6) (.t 14))])
 (.pre (.norm false [6]) .ret))
 .skip))
 (.seq
 (.seq
 (.reg [rg 15 (.fad 0 (.t 3)),rg 16 (.load none (.t 15)),rg 17 (.bin .eql (.t 16) (.c (.i .i64 3)))])
 (.cond (.t 17)
 (.seq
 (.reg [rg 18 (.fad 3 (.t 4)),rg 19 (.load none (.t 18)),rg 20 (.fad 1 (.t 3)),rg 21 (.load none (.t 20)),rg 22 (.iad 3 (.t 19) (.t 21)),rg 23 (.load (some 3) (.t 22)),so (.store 3 (.t 6) (.t 23))])
 (.pre (.norm false [6]) .ret))
 .skip))
 (.seq
 (.seq
 (.reg [rg 24 (.fad 0 (.t 3)),rg 25 (.load none (.t 24)),rg 26 (.bin .eql (.t 25) (.c (.i .i64 4)))])
 (.cond (.t 26)
 (.seq
 (.reg [rg 27 (.fad 4 (.t 4)),rg 28 (.load none (.t 27)),rg 29 (.fad 1 (.t 3)),rg 30 (.load none (.t 29)),rg 31 (.iad 3 (.t 28) (.t 30)),rg 32 (.load (some 3) (.t 31)),so (.store 3 (.t 6) (.t 32))])
 (.pre (.norm false [6]) .ret))
 .skip))
 (.seq
 (.seq
 (.reg [rg 33 (.fad 0 (.t 3)),rg 34 (.load none (.t 33)),rg 35 (.bin .eql (.t 34) (.c (.i .i64 5)))])
 (.cond (.t 35)
 (.seq
 (.reg [mv 36 2,rg 37 (.fad 1 (.t 3)),rg 38 (.load none (.t 37)),rg 39 (.iad 3 (.t 36) (.t 38)),rg 40 (.load (some 3) (.t 39)),so (.store 3 (.t 6) (.t 40))])
 (.pre (.norm false [6]) .ret))
 .skip))
 (.seq
 (.reg [rg 41 (.fad 0 (.t 4)),rg 42 (.load (some 3) (.t 41)),so (.store 3 (.t 6) (.t 42))])
 (.pre (.norm false [6]) .ret)))))))
def b476:AX:=
 (.seq
 (.reg [rg 2 (.xop (.box 3) [(.t 0)]),rg 4 (.mov (.c (.b false)))])
 (.seq
 (.reg [rg 5 (.load (some 3) (.t 2)),rg 6 (.call 245 [(.t 5)]),mv 7 1,rg 8 (.bin .leq (.t 6) (.t 7)),mv 4 8])
 (.pre (.norm false [4]) .ret)))
def l464_0:AX:=
 (.note
 (.seq
 (.seq
 (.reg [mv 17 12,mv 18 0,rg 19 (.len (.t 18)),rg 20 (.bin .lss (.t 17) (.t 19))])
 (.cond (.t 20)
 .skip
 (.exit 0)))
 (.seq
 (.block 1
 (.seq
 (.reg [mv 23 0,mv 24 12,rg 25 (.iad 3 (.t 23) (.t 24)),rg 26 (.load (some 3) (.t 25)),rg 13 (.alloc [(.i .i64 0),(.i .i64 0),(.sl [] .nl)]),so (.store 3 (.t 13) (.t 26))])
 (.seq
 (.reg [mv 27 11,rg 28 (.len (.t 27)),mv 14 28])
 (.seq
 (.reg [rg 29 (.call 232 [(.c (.i .i64 0))]),rg 15 (.alloc [(.b false),(.sl [] .nl),(.sl [] .nl)]),so (.store 3 (.t 15) (.t 29))])
 (.seq
 (.reg [rg 16 (.mov (.c (.b true)))])
 (.seq
 (.seq
 (.reg [rg 30 (.fad 0 (.t 13)),rg 31 (.load none (.t 30)),rg 32 (.bin .leq (.t 31) (.c (.i .i64 5)))])
 (.cond (.t 32)
 (.reg [rg 33 (.load (some 3) (.t 13)),rg 34 (.load (some 5) (.t 5)),mv 35 2,rg 36 (.call 474 [(.t 33),(.t 34),(.t 35)]),so (.store 3 (.t 15) (.t 36))])
 (.seq
 (.reg [rg 37 (.fad 0 (.t 13)),rg 38 (.load none (.t 37)),rg 39 (.bin .eql (.t 38) (.c (.i .i64 6))),mv 40 39,gd 41 40 false (.fad 0 (.t 13)),gd 42 40 false (.load none (.t 41)),gd 43 40 false (.bin .eql (.t 42) (.c (.i .i64 11))),rg 44 (.pick (.t 40) (.c (.b true)) (.t 43))])
 (.cond (.t 44)
 (.seq
 (.draw [⟨rg 46 (.fad 0 (.t 13)),0,0⟩,⟨rg 47 (.load none (.t 46)),0,0⟩,⟨rg 48 (.fad 1 (.t 13)),0,0⟩,⟨rg 49 (.load none (.t 48)),0,0⟩,⟨mv 50 11,0,0⟩,⟨mv 51 14,0,0⟩,⟨rg 52 (.bin .sub (.t 51) (.c (.i .i64 1))),0,0⟩,⟨rg 53 (.iad 3 (.t 50) (.t 52)),0,0⟩,⟨rg 54 (.load (some 3) (.t 53)),0,0⟩,⟨mv 55 11,0,0⟩,⟨mv 56 14,0,0⟩,⟨rg 57 (.bin .sub (.t 56) (.c (.i .i64 1))),0,0⟩,⟨rg 58 (.iad 3 (.t 55) (.t 57)),0,0⟩,⟨rg 59 (.load (some 3) (.t 58)),0,0⟩,⟨rg 60 (.call 475 [(.t 47),(.t 49),(.t 54),(.t 59)]),0,0⟩,⟨mv 45 60,0,0⟩,⟨rg 61 (.ext (.t 45) 0),0,0⟩,⟨rg 62 (.ext (.t 45) 1),0,1⟩,⟨so (.store 3 (.t 15) (.t 61)),0,1⟩,⟨mv 16 62,1,1⟩])
 (.reg [mv 63 14,rg 64 (.bin .sub (.t 63) (.c (.i .i64 1))),mv 14 64]))
 (.seq
 (.draw [⟨rg 66 (.fad 0 (.t 13)),0,0⟩,⟨rg 67 (.load none (.t 66)),0,0⟩,⟨mv 68 11,0,0⟩,⟨mv 69 14,0,0⟩,⟨rg 70 (.bin .sub (.t 69) (.c (.i .i64 2))),0,0⟩,⟨rg 71 (.iad 3 (.t 68) (.t 70)),0,0⟩,⟨rg 72 (.load (some 3) (.t 71)),0,0⟩,⟨mv 73 11,0,0⟩,⟨mv 74 14,0,0⟩,⟨rg 75 (.bin .sub (.t 74) (.c (.i .i64 1))),0,0⟩,⟨rg 76 (.iad 3 (.t 73) (.t 75)),0,0⟩,⟨rg 77 (.load (some 3) (.t 76)),0,0⟩,⟨rg 78 (.call 475 [(.t 67),(.c (.i .i64 0)),(.t 72),(.t 77)]),0,0⟩,⟨mv 65 78,0,0⟩,⟨rg 79 (.ext (.t 65) 0),0,0⟩,⟨rg 80 (.ext (.t 65) 1),0,1⟩,⟨so (.store 3 (.t 15) (.t 79)),0,1⟩,⟨mv 16 80,1,1⟩])
 (.reg [mv 81 14,rg 82 (.bin .sub (.t 81) (.c (.i .i64 2))),mv 14 82]))))))
 (.seq
 (.seq
 (.reg [mv 83 16,rg 84 (.un .not (.t 83))])
 (.cond (.t 84)
 (.seq
 (.reg [rg 85 (.call 232 [(.c (.i .i64 0))]),mv 86 12,so (.store 3 (.t 8) (.t 85)),rg 9 (.mov (.c (.i .i64 3))),mv 10 86])
 (.pre (.norm false [8,9,10]) .ret))
 .skip))
 (.seq
 (.seq
 (.reg [rg 87 (.load (some 3) (.t 15)),mv 88 3,rg 89 (.call 476 [(.t 87),(.t 88)]),rg 90 (.un .not (.t 89))])
 (.cond (.t 90)
 (.seq
 (.reg [rg 91 (.call 232 [(.c (.i .i64 0))]),mv 92 12,so (.store 3 (.t 8) (.t 91)),rg 9 (.mov (.c (.i .i64 6))),mv 10 92])
 (.pre (.norm false [8,9,10]) .ret))
 .skip))
 (.drawT [mv 93 11,mv 94 14,rg 95 (.slc 3 (.t 93) none (some (.t 94)) none),rg 96 (.load (some 3) (.t 15)),rg 97 (.bsl 3 [(.b false),(.sl [] .nl),(.sl [] .nl)] 1 [(0,(.t 96))])]
 [rg 98 (.app 3 (.t 95) (.t 97)),mv 11 98])))))))))
 (.reg [mv 21 12,rg 22 (.bin .add (.t 21) (.c (.i .i64 1))),mv 12 22])))
 (.norm false [0,2,3,5,8,11,12]))
def b464:AX:=
 (.seq
 (.reg [rg 5 (.xop (.box 5) [(.t 1)]),rg 8 (.alloc [(.b false),(.sl [] .nl),(.sl [] .nl)]),rg 9 (.mov (.c (.i .i64 0))),rg 10 (.mov (.c (.i .i64 0)))])
 (.seq
 (.note (.reg [rg 11 (.mov (.c (.sl [] .nl)))]) (.nil 11 3))
 (.seq
 (.seq
 (.reg [rg 12 (.mov (.c (.i .i64 0)))])
 (.lp 0 (.norm false [0,2,3,5,8,11,12]) l464_0 (.norm false [8,11])))
 (.seq
 (.reg [mv 99 11,rg 100 (.iad 3 (.t 99) (.c (.i .i64 0))),rg 101 (.load (some 3) (.t 100)),so (.store 3 (.t 8) (.t 101)),rg 9 (.mov (.c (.i .i64 0))),rg 10 (.mov (.c (.i .i64 0)))])
 (.pre (.norm false [8,9,10]) .ret)))))
def l471_0:AX:=
 (.note
 (.seq
 (.seq
 (.reg [mv 19 13,mv 20 11,rg 21 (.len (.t 20)),rg 22 (.bin .lss (.t 19) (.t 21))])
 (.cond (.t 22)
 .skip
 (.exit 0)))
 (.seq
 (.block 1
 (.seq
 (.draw [⟨mv 26 11,0,1⟩,⟨mv 27 13,0,1⟩,⟨rg 28 (.iad 1 (.t 26) (.t 27)),0,1⟩,⟨rg 29 (.load none (.t 28)),0,1⟩,⟨rg 30 (.load (some 5) (.t 4)),0,1⟩,⟨mv 31 9,0,1⟩,⟨mv 32 2,0,1⟩,⟨rg 33 (.call 464 [(.t 29),(.t 30),(.t 31),(.t 32)]),0,1⟩,⟨mv 25 33,0,1⟩,⟨rg 34 (.ext (.t 25) 0),0,1⟩,⟨rg 35 (.ext (.t 25) 1),0,2⟩,⟨rg 36 (.ext (.t 25) 2),0,2⟩,⟨rg 14 (.alloc [(.b false),(.sl [] .nl),(.sl [] .nl)]),0,1⟩,⟨so (.store 3 (.t 14) (.t 34)),1,2⟩,⟨mv 15 35,2,2⟩,⟨mv 16 36,2,2⟩])
 (.seq
 (.seq
 (.reg [mv 37 15,rg 38 (.bin .neq (.t 37) (.c (.i .i64 0)))])
 (.cond (.t 38)
 (.seq
 (.reg [rg 39 (.bsl 3 [(.b false),(.sl [] .nl),(.sl [] .nl)] 0 []),mv 40 15,mv 41 12,mv 42 16,rg 43 (.bin .add (.t 41) (.t 42)),mv 6 39,mv 7 40,mv 8 43])
 (.pre (.norm false [6,7,8]) .ret))
 .skip))
 (.seq
 (.reg [mv 44 12,mv 45 11,mv 46 13,rg 47 (.iad 1 (.t 45) (.t 46)),rg 48 (.load none (.t 47)),rg 49 (.len (.t 48)),rg 50 (.bin .add (.t 44) (.t 49)),mv 12 50])
 (.seq
 (.reg [mv 51 13,rg 52 (.fad 0 (.t 3)),rg 53 (.load none (.t 52)),rg 54 (.len (.t 53)),rg 55 (.bin .lss (.t 51) (.t 54))])
 (.cond (.t 55)
 (.reg [mv 56 9,rg 57 (.load (some 3) (.t 14)),rg 58 (.bsl 3 [(.b false),(.sl [] .nl),(.sl [] .nl)] 1 [(0,(.t 57))]),rg 59 (.app 3 (.t 56) (.t 58)),mv 9 59])
 (.reg [mv 60 10,rg 61 (.load (some 3) (.t 14)),rg 62 (.bsl 3 [(.b false),(.sl [] .nl),(.sl [] .nl)] 1 [(0,(.t 61))]),rg 63 (.app 3 (.t 60) (.t 62)),mv 10 63])))))))
 (.reg [mv 23 13,rg 24 (.bin .add (.t 23) (.c (.i .i64 1))),mv 13 24])))
 (.norm false [2,3,4,9,10,11,12,13]))
def b471:AX:=
 (.seq
 (.reg [rg 3 (.xop (.box 2) [(.t 0)]),rg 4 (.xop (.box 5) [(.t 1)]),rg 6 (.mov (.c (.sl [] .nl))),rg 7 (.mov (.c (.i .i64 0))),rg 8 (.mov (.c (.i .i64 0)))])
 (.seq
 (.note (.reg [rg 9 (.mov (.c (.sl [] .nl)))]) (.nil 9 3))
 (.seq
 (.note (.reg [rg 10 (.mov (.c (.sl [] .nl)))]) (.nil 10 3))
 (.seq
 (.reg [rg 17 (.load (some 2) (.t 3)),rg 18 (.call 479 [(.t 17)]),mv 11 18])
 (.seq
 (.note (.reg [rg 12 (.mov (.c (.i .i64 0)))]) (.shr 9))
 (.seq
 (.seq
 (.reg [rg 13 (.mov (.c (.i .i64 0)))])
 (.lp 0 (.norm false [2,3,4,9,10,11,12,13]) l471_0 (.norm false [10])))
 (.seq
 (.reg [mv 64 10,mv 6 64,rg 7 (.mov (.c (.i .i64 0))),rg 8 (.mov (.c (.i .i64 0)))])
 (.pre (.norm false [6,7,8]) .ret))))))))
def row402:AFx:=⟨1,13,[.cell 2 (some 5)],b402,none,false⟩
def row465:AFx:=⟨1,6,[.t 2],b465,none,false⟩
def row475:AFx:=⟨4,42,[.cell 8 (some 3),.t 9],b475,none,false⟩
def row474:AFx:=⟨3,43,[.cell 6 (some 3)],b474,none,false⟩
def row476:AFx:=⟨2,9,[.t 4],b476,none,false⟩
def row464:AFx:=⟨4,102,[.cell 8 (some 3),.t 9,.t 10],b464,none,false⟩
def row471:AFx:=⟨3,65,[.t 6,.t 7,.t 8],b471,none,false⟩
class Zap (T:Tbl):Prop where
 h402:T 402=some row402
 h465:T 465=some row465
 h475:T 475=some row475
 h474:T 474=some row474
 h476:T 476=some row476
 h464:T 464=some row464
 h471:T 471=some row471
section
variable{T:Tbl}[Zap T]{d:Option Nat}{st:St}{xs:List AV}{ps:List Opd}{e:Env}{h:Heap}{ol:List Heap}
@[simp] theorem y402:opD (orc T) T (.call 402 ps) e h ol=dP T 402 false ps e:=zal Zap.h402
@[simp] theorem y465:opD (orc T) T (.call 465 ps) e h ol=dP T 465 false ps e:=zal Zap.h465
@[simp] theorem y475:opD (orc T) T (.call 475 ps) e h ol=dP T 475 false ps e:=zal Zap.h475
@[simp] theorem x474:Zc (orc T) T 474 xs d st=cP T 474 false xs d st:=zaa Zap.h474
@[simp] theorem x476:Zc (orc T) T 476 xs d st=cP T 476 false xs d st:=zaa Zap.h476
@[simp] theorem y471:opD (orc T) T (.call 471 ps) e h ol=dP T 471 false ps e:=zal Zap.h471
end
def b245:AX:=
 (.seq
 (.reg [rg 1 (.xop (.box 3) [(.t 0)]),rg 2 (.mov (.c (.i .i64 0)))])
 (.seq
 (.drawT [rg 3 (.fad 1 (.t 1)),rg 4 (.load none (.t 3)),rg 5 (.call 95 [(.t 4)]),rg 6 (.fad 2 (.t 1)),rg 7 (.load none (.t 6))]
 [rg 8 (.call 95 [(.t 7)]),rg 9 (.bin .add (.t 5) (.t 8)),mv 2 9])
 (.pre (.norm false [2]) .ret)))
def row245:AFx:=⟨1,10,[.t 2],b245,none,false⟩
class Zd6 (T:Tbl):Prop where
 h245:T 245=some row245
section
variable{T:Tbl}[Zd6 T]{d:Option Nat}{st:St}{xs:List AV}{ps:List Opd}{e:Env}{h:Heap}{ol:List Heap}
@[simp] theorem x245:Zc (orc T) T 245 xs d st=cP T 245 false xs d st:=zaa Zd6.h245
end
def l244_0:AX:=
 (.note
 (.seq
 (.seq
 (.reg [mv 25 7,mv 26 1,rg 27 (.bin .lss (.t 25) (.t 26))])
 (.cond (.t 27)
 .skip
 (.exit 0)))
 (.seq
 (.block 1
 (.reg [rg 30 (.load (some 3) (.t 6)),rg 31 (.load (some 3) (.t 2)),rg 32 (.call 241 [(.t 30),(.t 31)]),so (.store 3 (.t 6) (.t 32))]))
 (.reg [mv 28 7,rg 29 (.bin .add (.t 28) (.c (.i .i64 1))),mv 7 29])))
 (.norm false [1,2,4,6,7]))
def l244_1:AX:=
 (.note
 (.seq
 (.seq
 (.reg [mv 33 8,mv 34 1,rg 35 (.bin .gtr (.t 33) (.t 34))])
 (.cond (.t 35)
 .skip
 (.exit 2)))
 (.seq
 (.block 3
 (.reg [rg 38 (.load (some 3) (.t 6)),rg 39 (.load (some 3) (.t 2)),rg 40 (.call 242 [(.t 38),(.t 39)]),so (.store 3 (.t 6) (.t 40))]))
 (.reg [mv 36 8,rg 37 (.bin .sub (.t 36) (.c (.i .i64 1))),mv 8 37])))
 (.norm false [1,2,4,6,8]))
def b244:AX:=
 (.seq
 (.reg [rg 2 (.xop (.box 3) [(.t 0)]),rg 4 (.alloc [(.b false),(.sl [] .nl),(.sl [] .nl)]),rg 5 (.mov (.c (.b false)))])
 (.seq
 (.seq
 (.reg [mv 9 1,rg 10 (.bin .lss (.t 9) (.c (.i .i64 (-8)))),mv 11 10,gd 12 11 false (.mov (.t 1)),gd 13 11 false (.bin .gtr (.t 12) (.c (.i .i64 8))),rg 14 (.pick (.t 11) (.c (.b true)) (.t 13)),mv 15 14,gd 16 15 false (.mov (.t 1)),gd 17 15 false (.bin .lss (.t 16) (.c (.i .i64 0))),gd 18 15 false (.mov (.t 17)),gd 19 18 true (.load (some 3) (.t 2)),gd 20 18 true (.call 235 [(.t 19)]),gd 21 15 false (.pick (.t 18) (.t 20) (.c (.b false))),rg 22 (.pick (.t 15) (.c (.b true)) (.t 21))])
 (.cond (.t 22)
 (.seq
 (.reg [rg 23 (.call 232 [(.c (.i .i64 0))]),so (.store 3 (.t 4) (.t 23)),rg 5 (.mov (.c (.b false)))])
 (.pre (.norm false [4,5]) .ret))
 .skip))
 (.seq
 (.reg [rg 24 (.call 232 [(.c (.i .i64 1))]),rg 6 (.alloc [(.b false),(.sl [] .nl),(.sl [] .nl)]),so (.store 3 (.t 6) (.t 24))])
 (.seq
 (.seq
 (.reg [rg 7 (.mov (.c (.i .i64 0)))])
 (.lp 0 (.norm false [1,2,4,6,7]) l244_0 (.norm false [1,2,4,6])))
 (.seq
 (.seq
 (.reg [rg 8 (.mov (.c (.i .i64 0)))])
 (.lp 2 (.norm false [1,2,4,6,8]) l244_1 (.norm false [4,6])))
 (.seq
 (.reg [rg 41 (.load (some 3) (.t 6)),so (.store 3 (.t 4) (.t 41)),rg 5 (.mov (.c (.b true)))])
 (.pre (.norm false [4,5]) .ret)))))))
def row244:AFx:=⟨2,42,[.cell 4 (some 3),.t 5],b244,none,false⟩
class Zc9 (T:Tbl):Prop where
 h244:T 244=some row244
section
variable{T:Tbl}[Zc9 T]{d:Option Nat}{st:St}{xs:List AV}{ps:List Opd}{e:Env}{h:Heap}{ol:List Heap}
@[simp] theorem x244:Zc (orc T) T 244 xs d st=cP T 244 false xs d st:=zaa Zc9.h244
end
def l468_0:AX:=
 (.note
 (.seq
 (.seq
 (.reg [mv 6 4,rg 7 (.fad 0 (.t 1)),rg 8 (.load none (.t 7)),rg 9 (.len (.t 8)),rg 10 (.bin .lss (.t 6) (.t 9))])
 (.cond (.t 10)
 .skip
 (.exit 0)))
 (.seq
 (.block 1
 (.drawT [rg 13 (.fad 0 (.t 3)),rg 14 (.load none (.t 13)),rg 15 (.fad 0 (.t 1)),rg 16 (.load none (.t 15)),mv 17 4,rg 18 (.iad 2 (.t 16) (.t 17)),rg 19 (.fad 0 (.t 18)),rg 20 (.load none (.t 19)),rg 21 (.fad 0 (.t 1)),rg 22 (.load none (.t 21)),mv 23 4,rg 24 (.iad 2 (.t 22) (.t 23)),rg 25 (.fad 1 (.t 24)),rg 26 (.load none (.t 25)),rg 27 (.call 13 [(.t 26)]),rg 28 (.build [(.s []),(.sl [] .nl)] [(0,1,(.t 20)),(1,1,(.t 27))]),rg 29 (.bsl 2 [(.s []),(.sl [] .nl)] 1 [(0,(.t 28))])]
 [rg 30 (.app 2 (.t 14) (.t 29)),rg 31 (.fad 0 (.t 3)),so (.store 1 (.t 31) (.t 30))]))
 (.reg [mv 11 4,rg 12 (.bin .add (.t 11) (.c (.i .i64 1))),mv 4 12])))
 (.norm false [1,2,3,4]))
def l468_1:AX:=
 (.note
 (.seq
 (.seq
 (.reg [mv 32 5,rg 33 (.fad 1 (.t 1)),rg 34 (.load none (.t 33)),rg 35 (.len (.t 34)),rg 36 (.bin .lss (.t 32) (.t 35))])
 (.cond (.t 36)
 .skip
 (.exit 2)))
 (.seq
 (.block 3
 (.drawT [rg 39 (.fad 1 (.t 3)),rg 40 (.load none (.t 39)),rg 41 (.fad 1 (.t 1)),rg 42 (.load none (.t 41)),mv 43 5,rg 44 (.iad 1 (.t 42) (.t 43)),rg 45 (.load none (.t 44)),rg 46 (.call 13 [(.t 45)]),rg 47 (.bsl 1 [(.sl [] .nl)] 1 [(0,(.t 46))])]
 [rg 48 (.app 1 (.t 40) (.t 47)),rg 49 (.fad 1 (.t 3)),so (.store 1 (.t 49) (.t 48))]))
 (.reg [mv 37 5,rg 38 (.bin .add (.t 37) (.c (.i .i64 1))),mv 5 38])))
 (.norm false [1,2,3,5]))
def b468:AX:=
 (.seq
 (.reg [rg 1 (.xop (.box 2) [(.t 0)]),rg 2 (.alloc [(.sl [] .nl),(.sl [] .nl)])])
 (.seq
 (.reg [rg 3 (.alloc [(.sl [] .nl),(.sl [] .nl)])])
 (.seq
 (.seq
 (.reg [rg 4 (.mov (.c (.i .i64 0)))])
 (.pre (.fld 3 0 0 2) (.pre (.fld 3 0 1 1) (.lp 0 (.norm false [1,2,3,4]) l468_0 (.norm false [1,2,3])))))
 (.seq
 (.seq
 (.reg [rg 5 (.mov (.c (.i .i64 0)))])
 (.lp 2 (.norm false [1,2,3,5]) l468_1 (.norm false [2,3])))
 (.seq
 (.reg [rg 50 (.load (some 2) (.t 3)),so (.store 2 (.t 2) (.t 50))])
 (.pre (.norm false [2]) .ret))))))
def b470:AX:=
 (.seq
 (.reg [rg 3 (.xop (.box 3) [(.t 1)]),rg 4 (.alloc [(.i .i64 0),(.i .i64 0),(.i .i64 0),(.i .i64 0)])])
 (.seq
 (.seq
 (.reg [mv 5 0,rg 6 (.un .not (.t 5))])
 (.cond (.t 6)
 (.seq
 (.reg [rg 7 (.build [(.i .i64 0),(.i .i64 0),(.i .i64 0),(.i .i64 0)] []),so (.store 4 (.t 4) (.t 7))])
 (.pre (.norm false [4]) .ret))
 .skip))
 (.seq
 (.reg [rg 8 (.iaa 1 3 (.t 3) (.c (.i .i64 0))),rg 9 (.load none (.t 8)),rg 10 (.iaa 1 3 (.t 3) (.c (.i .i64 1))),rg 11 (.load none (.t 10)),rg 12 (.iaa 1 3 (.t 3) (.c (.i .i64 2))),rg 13 (.load none (.t 12)),rg 14 (.build [(.i .i64 0),(.i .i64 0),(.i .i64 0),(.i .i64 0)] [(0,1,(.c (.i .i64 2))),(1,1,(.t 9)),(2,1,(.t 11)),(3,1,(.t 13))]),so (.store 4 (.t 4) (.t 14))])
 (.pre (.norm false [4]) .ret))))
def b463:AX:=
 (.seq
 (.reg [rg 0 (.mov (.c (.b false)))])
 (.seq
 (.reg [rg 9 (.bsl 1 [(u32 0)] 1 [(0,(.c (u32 1)))]),rg 10 (.build [(.i .i64 0),(.i .i64 0),(.sl [] .nl)] [(0,1,(.c (.i .i64 1))),(2,1,(.t 9))]),rg 1 (.alloc [(.i .i64 0),(.i .i64 0),(.sl [] .nl)]),so (.store 3 (.t 1) (.t 10))])
 (.seq
 (.reg [rg 11 (.load (some 3) (.t 1)),rg 12 (.load (some 3) (.t 1)),rg 13 (.build [(.i .i64 0),(.i .i64 0),(.sl [] .nl)] [(0,1,(.c (.i .i64 2)))]),rg 14 (.build [(.i .i64 0),(.i .i64 0),(.sl [] .nl)] [(0,1,(.c (.i .i64 8)))]),rg 15 (.build [(.i .i64 0),(.i .i64 0),(.sl [] .nl)] [(0,1,(.c (.i .i64 10)))]),rg 16 (.bsl 3 [(.i .i64 0),(.i .i64 0),(.sl [] .nl)] 5 [(0,(.t 11)),(1,(.t 12)),(2,(.t 13)),(3,(.t 14)),(4,(.t 15))]),rg 17 (.bsl 1 [(.sl [] .nl)] 1 [(0,(.t 16))]),rg 18 (.build [(.sl [] .nl),(.sl [] .nl)] [(1,1,(.t 17))]),rg 2 (.alloc [(.sl [] .nl),(.sl [] .nl)]),so (.store 2 (.t 2) (.t 18))])
 (.seq
 (.draw [⟨rg 20 (.load (some 2) (.t 2)),0,1⟩,⟨rg 21 (.call 263 [(.c (.i .i64 1))]),0,1⟩,⟨rg 22 (.build [(.b false),(.sl [] .nl),(.sl [] .nl),(.sl [] .nl),(.sl [] .nl)] [(3,1,(.t 21))]),0,1⟩,⟨rg 23 (.call 467 [(.t 20),(.t 22),(.c (.i .i64 100))]),0,1⟩,⟨mv 19 23,0,1⟩,⟨rg 24 (.ext (.t 19) 0),0,1⟩,⟨rg 25 (.ext (.t 19) 1),0,1⟩,⟨rg 4 (.alloc [(.i .i64 0),(.i .i64 0),(.i .i64 0),(.i .i64 0)]),0,1⟩,⟨mv 3 24,1,1⟩,⟨so (.store 4 (.t 4) (.t 25)),1,2⟩])
 (.seq
 (.draw [⟨rg 27 (.load (some 2) (.t 2)),0,1⟩,⟨rg 28 (.call 205 [(.c (.i .i64 1))]),0,1⟩,⟨rg 29 (.call 263 [(.c (.i .i64 1))]),0,1⟩,⟨rg 30 (.build [(.b false),(.sl [] .nl),(.sl [] .nl),(.sl [] .nl),(.sl [] .nl)] [(0,3,(.t 28)),(3,1,(.t 29))]),0,1⟩,⟨rg 31 (.call 467 [(.t 27),(.t 30),(.c (.i .i64 100))]),0,1⟩,⟨mv 26 31,0,1⟩,⟨rg 32 (.ext (.t 26) 0),0,1⟩,⟨rg 33 (.ext (.t 26) 1),0,1⟩,⟨rg 6 (.alloc [(.i .i64 0),(.i .i64 0),(.i .i64 0),(.i .i64 0)]),0,1⟩,⟨mv 5 32,1,1⟩,⟨so (.store 4 (.t 6) (.t 33)),1,2⟩])
 (.seq
 (.reg [rg 35 (.bsl 1 [(u32 0)] 1 [(0,(.c (u32 8)))]),rg 36 (.build [(.i .i64 0),(.i .i64 0),(.sl [] .nl)] [(0,1,(.c (.i .i64 1))),(2,1,(.t 35))]),rg 37 (.bsl 3 [(.i .i64 0),(.i .i64 0),(.sl [] .nl)] 1 [(0,(.t 36))]),rg 38 (.build [(.b false),(.sl [] .nl),(.sl [] .nl),(.sl [] .nl),(.sl [] .nl)] []),rg 39 (.call 462 [(.t 37),(.t 38),(.c (.sl [] .nl)),(.c (.i .i64 3))]),mv 34 39,rg 40 (.ext (.t 34) 0),rg 41 (.ext (.t 34) 1),rg 7 (.alloc [(.b false),(.sl [] .nl),(.sl [] .nl)]),rg 8 (.alloc [(.i .i64 0),(.i .i64 0),(.i .i64 0),(.i .i64 0)]),so (.store 3 (.t 7) (.t 40)),so (.store 4 (.t 8) (.t 41))])
 (.seq
 (.reg [mv 42 3,rg 43 (.call 205 [(.c (.i .i64 1))]),rg 44 (.bsl 3 [(.b false),(.sl [] .nl),(.sl [] .nl)] 1 [(0,(.t 43))]),rg 45 (.call 265 [(.t 42),(.t 44)]),mv 46 45,gd 47 46 true (.load (some 4) (.t 4)),gd 48 46 true (.build [(.i .i64 0),(.i .i64 0),(.i .i64 0),(.i .i64 0)] []),gd 49 46 true (.eqs false [(0,.int),(1,.int),(2,.int),(3,.int)] (.t 47) (.t 48)),rg 50 (.pick (.t 46) (.t 49) (.c (.b false))),mv 51 50,gd 52 51 true (.load (some 4) (.t 6)),gd 53 51 true (.build [(.i .i64 0),(.i .i64 0),(.i .i64 0),(.i .i64 0)] [(0,1,(.c (.i .i64 3))),(3,1,(.c (.i .i64 4)))]),gd 54 51 true (.eqs false [(0,.int),(1,.int),(2,.int),(3,.int)] (.t 52) (.t 53)),rg 55 (.pick (.t 51) (.t 54) (.c (.b false))),mv 56 55,gd 57 56 true (.load (some 4) (.t 8)),gd 58 56 true (.build [(.i .i64 0),(.i .i64 0),(.i .i64 0),(.i .i64 0)] [(0,1,(.c (.i .i64 6)))]),gd 59 56 true (.eqs false [(0,.int),(1,.int),(2,.int),(3,.int)] (.t 57) (.t 58)),rg 60 (.pick (.t 56) (.t 59) (.c (.b false))),mv 0 60])
 (.pre (.norm false [0]) .ret))))))))
def b459:AX:=
 (.seq
 (.reg [rg 3 (.xop (.box 2) [(.t 0)]),rg 4 (.xop (.box 5) [(.t 1)]),rg 6 (.mov (.c (.b false)))])
 (.seq
 (.seq
 (.reg [rg 14 (.load (some 2) (.t 3)),rg 15 (.call 466 [(.t 14),(.c (.i .i64 6)),(.c (.i .i64 20)),(.c (.i .i64 4))]),mv 16 15,gd 17 16 false (.load (some 5) (.t 4)),gd 18 16 false (.call 380 [(.t 17),(.c (.i .i64 6)),(.c (.i .i64 2))]),rg 19 (.pick (.t 16) (.c (.b true)) (.t 18)),mv 20 19,gd 21 20 false (.mov (.t 2)),gd 22 20 false (.bin .gtr (.t 21) (.c (.i .i64 600))),rg 23 (.pick (.t 20) (.c (.b true)) (.t 22))])
 (.cond (.t 23)
 (.seq
 (.reg [rg 24 (.call 463 []),mv 6 24])
 (.pre (.norm false [6]) .ret))
 .skip))
 (.seq
 (.draw [⟨rg 26 (.load (some 2) (.t 3)),0,1⟩,⟨rg 27 (.call 468 [(.t 26)]),0,1⟩,⟨rg 28 (.load (some 5) (.t 4)),0,1⟩,⟨rg 29 (.call 383 [(.t 28)]),0,1⟩,⟨mv 30 2,0,1⟩,⟨rg 31 (.call 467 [(.t 27),(.t 29),(.t 30)]),0,1⟩,⟨mv 25 31,0,1⟩,⟨rg 32 (.ext (.t 25) 0),0,1⟩,⟨rg 33 (.ext (.t 25) 1),0,1⟩,⟨rg 8 (.alloc [(.i .i64 0),(.i .i64 0),(.i .i64 0),(.i .i64 0)]),0,1⟩,⟨mv 7 32,1,1⟩,⟨so (.store 4 (.t 8) (.t 33)),1,2⟩])
 (.seq
 (.reg [rg 35 (.load (some 2) (.t 3)),rg 36 (.fad 3 (.t 4)),rg 37 (.load none (.t 36)),rg 38 (.len (.t 37)),rg 39 (.fad 4 (.t 4)),rg 40 (.load none (.t 39)),rg 41 (.len (.t 40)),rg 42 (.call 469 [(.t 35),(.t 38),(.t 41)]),mv 34 42,rg 43 (.ext (.t 34) 0),rg 44 (.ext (.t 34) 1),rg 10 (.alloc [(.i .i64 0),(.i .i64 0),(.i .i64 0)]),mv 9 43,so (.store 3 (.t 10) (.t 44))])
 (.seq
 (.seq
 (.reg [mv 45 9])
 (.cond (.t 45)
 (.seq
 (.drawT [mv 46 7,rg 47 (.len (.t 46)),rg 48 (.bin .eql (.t 47) (.c (.i .i64 0))),mv 49 48,gd 50 49 true (.load (some 4) (.t 8)),gd 51 49 true (.mov (.t 9)),gd 52 49 true (.load (some 3) (.t 10)),gd 53 49 true (.call 470 [(.t 51),(.t 52)])]
 [gd 54 49 true (.eqs false [(0,.int),(1,.int),(2,.int),(3,.int)] (.t 50) (.t 53)),rg 55 (.pick (.t 49) (.t 54) (.c (.b false))),mv 56 55,gd 57 56 true (.call 463 []),rg 58 (.pick (.t 56) (.t 57) (.c (.b false))),mv 6 58])
 (.pre (.norm false [6]) .ret))
 .skip))
 (.seq
 (.drawT [rg 60 (.load (some 2) (.t 3)),rg 61 (.load (some 5) (.t 4)),rg 62 (.call 402 [(.t 61)]),mv 63 2,rg 64 (.call 465 [(.t 63)]),rg 65 (.call 471 [(.t 60),(.t 62),(.t 64)]),mv 59 65,rg 66 (.ext (.t 59) 0),rg 67 (.ext (.t 59) 1),rg 68 (.ext (.t 59) 2),mv 11 66,mv 12 67]
 [mv 13 68])
 (.seq
 (.reg [mv 69 7,mv 70 11,rg 71 (.call 289 [(.t 69),(.t 70)]),mv 72 71,gd 73 72 true (.load (some 4) (.t 8)),gd 74 72 true (.mov (.t 12)),gd 75 72 true (.mov (.t 13)),gd 76 72 true (.build [(.i .i64 0),(.i .i64 0),(.i .i64 0),(.i .i64 0)] [(0,1,(.t 74)),(3,1,(.t 75))]),gd 77 72 true (.eqs false [(0,.int),(1,.int),(2,.int),(3,.int)] (.t 73) (.t 76)),rg 78 (.pick (.t 72) (.t 77) (.c (.b false))),mv 79 78,gd 80 79 true (.call 463 []),rg 81 (.pick (.t 79) (.t 80) (.c (.b false))),mv 6 81])
 (.pre (.norm false [6]) .ret))))))))
def row468:AFx:=⟨1,51,[.cell 2 (some 2)],b468,none,false⟩
def row470:AFx:=⟨2,15,[.cell 4 (some 4)],b470,none,false⟩
def row463:AFx:=⟨0,61,[.t 0],b463,none,false⟩
def row459:AFx:=⟨3,82,[.t 6],b459,none,false⟩
class Zb9 (T:Tbl):Prop where
 h468:T 468=some row468
 h470:T 470=some row470
 h463:T 463=some row463
 h459:T 459=some row459
section
variable{T:Tbl}[Zb9 T]{d:Option Nat}{st:St}{xs:List AV}{ps:List Opd}{e:Env}{h:Heap}{ol:List Heap}
@[simp] theorem y468:opD (orc T) T (.call 468 ps) e h ol=dP T 468 false ps e:=zal Zb9.h468
@[simp] theorem y470:opD (orc T) T (.call 470 ps) e h ol=dP T 470 false ps e:=zal Zb9.h470
@[simp] theorem x463:Zc (orc T) T 463 xs d st=cP T 463 false xs d st:=zaa Zb9.h463
end
section
open Go.RowKit
def opU:AOp→List Nat
 | .call u _=>[u]
 | .ifc k _=>[1000000+k]
 | .inv _ k u _ _=>[1000000+k,u]
 | .xop (.mkf k) _ | .xop (.mkv k) _=>[1000000+k]
 | _=>[]
def cXs:AX→List Nat
 | .reg l=>l.flatMap fun o=>opU o.op
 | .draw l=>l.flatMap fun o=>opU o.ao.op
 | .drawT hd tl=>(hd.flatMap fun o=>opU o.op)++tl.flatMap fun o=>opU o.op
 | .drawM hd tl=>(hd.flatMap fun o=>opU o.op)++tl.flatMap fun o=>opU o.op
 | .seq a b=>cXs a++cXs b
 | .cond _ x y=>cXs x++cXs y
 | .block _ c | .loop c | .note c _ | .pre _ c | .scope c | .lp _ _ c _=>cXs c
 | _=>[]
structure Agr (R:Nat→Bool) (T T':Tbl) (O O':Orc):Prop where
 tbl:∀u,R u=true→T u=T' u
 call:∀u xs hb,R u=true→O.call u xs hb=O'.call u xs hb
 loop:∀k c st,(∀u∈cXs c,R u=true)→O.loop k c st=O'.loop k c st
section
variable{R:Nat→Bool}{T T':Tbl}{O O':Orc}
theorem zl4(h:Agr R T T' O O'){u:Nat}(hu:R u=true){xs:List AV}{d:Option Nat}{st:St}:Zc O T u xs d st=Zc O' T' u xs d st:=by
 unfold Zc;rw[h.tbl u hu];simp only[h.call u _ _ hu]
theorem z1y(h:Agr R T T' O O'){op:AOp}(hu:∀u∈opU op,R u=true){d:Option Nat}{st:St}:opX O T op d st=opX O' T' op d st:=by
 cases op<;>simp only[opX]
 case call u args=>exact zl4 h (hu _ (by simp[opU]))
 case ifc k x=>unfold Zn;rw[h.tbl _ (hu _ (by simp[opU]))]
 case inv nm k u r args=>
  have e1:Zn T k=Zn T' k:=by unfold Zn;rw[h.tbl _ (hu _ (by simp[opU]))]
  have e2:Zb8 T k=Zb8 T' k:=by unfold Zb8;rw[h.tbl _ (hu _ (by simp[opU]))]
  have e3:Zg3 T k=Zg3 T' k:=by unfold Zg3;rw[h.tbl _ (hu _ (by simp[opU]))]
  rw[e1,e2,e3];simp only[zl4 h (hu u (by simp[opU]))]
 case xop k xs=>
  cases k<;>simp only
  all_goals rename_i k
  all_goals
   have e1:Zn T k=Zn T' k:=by unfold Zn;rw[h.tbl _ (hu _ (by simp[opU]))]
   rw[e1]
theorem zur(h:Agr R T T' O O'){o:AO}(hu:∀u∈opU o.op,R u=true){st:St}:Zf3 O T o st=Zf3 O' T' o st:=by
 unfold Zf3 gX;simp only[z1y h hu]
theorem zgw(h:Agr R T T' O O'):∀(l:List AO),(∀o∈l,∀u∈opU o.op,R u=true)→∀st,Zdf O T l st=Zdf O' T' l st
 | [],_,st=>rfl
 | o::l,hu,st=>by
  simp only[Zdf];rw[zur h (hu o Yaj)];congr 1
  funext s
  exact zgw h l (fun o ho=>hu o (Yw _ ho)) s
theorem z1z(h:Agr R T T' O O'){op:AOp}(hu:∀u∈opU op,R u=true){e:Env}{hp:Heap}{older:List Heap}:opD O T op e hp older=opD O' T' op e hp older:=by
 by_cases hap:∃z x0 y,op=.app z x0 y
 ·obtain⟨z,x0,y,rfl⟩:=hap;by_cases hc:x0=.c (.sl [] .nl)
  ·subst hc;rfl
  ·rw[zoi hc,zoi hc]
 cases op<;>(try exact absurd ⟨_,_,_,rfl⟩ hap)<;>simp only[opD]
 case call u args=>
  rw[h.tbl _ (hu _ (by simp[opU]))];simp only[h.call _ _ _ (hu _ (show u∈_ by simp[opU]))]
 case ifc k x=>unfold Zn;rw[h.tbl _ (hu _ (by simp[opU]))]
 case inv nm k u r args=>
  have e1:Zn T k=Zn T' k:=by unfold Zn;rw[h.tbl _ (hu _ (by simp[opU]))]
  have e2:Zb8 T k=Zb8 T' k:=by unfold Zb8;rw[h.tbl _ (hu _ (by simp[opU]))]
  rw[e1,e2,h.tbl u (hu u (by simp[opU]))];simp only[h.call u _ _ (hu u (by simp[opU]))]
theorem zus(h:Agr R T T' O O'){o:AO}(hu:∀u∈opU o.op,R u=true){e:Env}{hp:Heap}{older:List Heap}:qX O T o e hp older=qX O' T' o e hp older:=by
 unfold qX;simp only[z1z h hu]
theorem zut(h:Agr R T T' O O'){u:Nat}(hu:R u=true){ys:List AV}:Zej O T u ys=Zej O' T' u ys:=by
 unfold Zej;rw[h.tbl u hu];simp only[h.call u _ _ hu]
theorem zl5(h:Agr R T T' O O'):∀(l:List DO),(∀o∈l,∀u∈opU o.ao.op,R u=true)→∀e hp clk older pend,Zbu O T l e hp clk older pend=Zbu O' T' l e hp clk older pend
 | [],_,e,hp,clk,older,pend=>rfl
 | o::l,hu,e,hp,clk,older,pend=>by
  have ih:=zl5 h l (fun o ho=>hu o (Yw _ ho));simp only[Zbu];rw[zus h (hu o Yaj)];simp only[ih];cases o.ao.op.writes with
  | true=>rfl
  | false=>
   simp only;cases hrow:Zgp o.ao.guard o.ao.op.callN e hp (older.take (older.length-o.lo)) with
   | none=>rfl
   | some p=>
    obtain⟨_,args,hop,_⟩:=zl3 hrow;have hp:R p.1=true:=hu o Yaj _ (by rw[hop];simp[opU]);simp only[zut h hp]
theorem zl6(h:Agr R T T' O O')(tl:List AO)(ht:∀o∈tl,∀u∈opU o.op,R u=true):∀(l:List AO),(∀o∈l,∀u∈opU o.op,R u=true)→∀e hp clk,Zc7 O T tl l e hp clk=Zc7 O' T' tl l e hp clk
 | [],_,e,hp,clk=>zgw h tl ht _
 | o::l,hu,e,hp,clk=>by
  have ih:=zl6 h tl ht l (fun o ho=>hu o (Yw _ ho));simp only[Zc7];rw[zus h (hu o Yaj)];simp only[ih]
theorem zuu(h:Agr R T T' O O'){u:Nat}(hu:R u=true){xs:List AV}{d clk:Nat}:Ze4 O T u xs d clk=Ze4 O' T' u xs d clk:=by
 unfold Ze4;rw[h.tbl u hu];simp only[h.call u _ _ hu]
theorem zl7(h:Agr R T T' O O')(tl:List AO)(ht:∀o∈tl,∀u∈opU o.op,R u=true)(h0:Heap)(c0:Nat)(X:Heap):∀(l:List AO),(∀o∈l,∀u∈opU o.op,R u=true)→∀e hp clk,Zbc O T tl h0 c0 X l e hp clk=Zbc O' T' tl h0 c0 X l e hp clk
 | [],_,e,hp,clk=>zgw h tl ht _
 | o::l,hu,e,hp,clk=>by
  have ih:=zl7 h tl ht h0 c0 X l (fun o ho=>hu o (Yw _ ho));simp only[Zbc];rw[zus h (hu o Yaj)];simp only[ih];cases hm:o.op.maker with
  | true=>rfl
  | false=>
   cases hst:o.op.isStore with
   | true=>rfl
   | false=>
   cases hl:o.op.lentN with
   | none=>rfl
   | some ua=>
    have hua:R ua.1=true:=hu o Yaj _ (by rw[zjj hl];simp[opU]);simp only[zuu h hua]
theorem zcr(h:Agr R T T' O O')(k:Nat):∀(c:AX),(∀u∈cXs c,R u=true)→∀st,evX O T k c st=evX O' T' k c st
 | .skip,_,st=>rfl
 | .reg l,hu,st=>by
  simp only[evX];rw[zgw h l fun o ho u hou=>hu u (Yau.2 ⟨o,ho,hou⟩)]
 | .draw l,hu,st=>by
  simp only[evX];rw[zl5 h l fun o ho u hou=>hu u (Yau.2 ⟨o,ho,hou⟩)]
 | .drawT hd tl,hu,st=>by
  simp only[evX];rw[zl6 h tl (fun o ho u hou=>hu u (Ya1 _ (Yau.2 ⟨o,ho,hou⟩))) hd (fun o ho u hou=>hu u (Ya3 _ (Yau.2 ⟨o,ho,hou⟩)))]
 | .drawM hd tl,hu,st=>by
  simp only[evX];rw[zl7 h tl (fun o ho u hou=>hu u (Ya1 _ (Yau.2 ⟨o,ho,hou⟩))) _ _ _ hd (fun o ho u hou=>hu u (Ya3 _ (Yau.2 ⟨o,ho,hou⟩)))]
 | .bad,_,st=>rfl
 | .prim f,_,st=>rfl
 | .seq a b,hu,st=>by
  simp only[evX];rw[zcr h k a fun u hm=>hu u (Ya3 _ hm)];congr 1
  funext r
  rw[zcr h k b fun u hm=>hu u (Ya1 _ hm)]
 | .cond c x y,hu,st=>by
  simp only[evX];rw[zcr h k x fun u hm=>hu u (Ya3 _ hm),zcr h k y fun u hm=>hu u (Ya1 _ hm)]
 | .block id c,hu,st=>by
  simp only[evX];rw[zcr h k c hu]
 | .loop c,hu,st=>h.loop k c st hu
 | .exit id,_,st=>rfl
 | .ret,_,st=>rfl
 | .note c g,hu,st=>by
  simp only[evX];rw[zcr h k c hu]
 | .pre g c,hu,st=>by
  simp only[evX];congr 1
  funext s
  exact zcr h k c hu s
 | .scope c,hu,st=>by
  simp only[evX];exact zcr h k c hu st
 | .lp id g c g2,hu,st=>by
  simp only[evX,h.loop k c _ hu]
theorem zuv(hc:∀u af,R u=true→T u=some af→∀v∈cXs af.body,R v=true)(h:Agr R T T' O O'):Agr R T T' (Zcn T O) (Zcn T' O') where
 tbl:=h.tbl
 call u xs hb hu:=by
  simp only[Zcn];rw[←h.tbl u hu];cases ht:T u with
  | none=>rfl
  | some af=>
   simp only;rw[zcr h hb.length af.body (hc u af hu ht)]
 loop k c st hu:=by
  simp only[Zcn];rw[zcr h k c hu];congr 1
  funext r
  rw[h.loop k c _ hu]
theorem zkp(ht:∀u,R u=true→T u=T' u)(hc:∀u af,R u=true→T u=some af→∀v∈cXs af.body,R v=true):∀n,Agr R T T' (orcN T n) (orcN T' n)
 | 0=>⟨ht,fun _ _ _ _=>rfl,fun _ _ _ _=>rfl⟩
 | n+1=>zuv hc (zkp ht hc n)
theorem z10(ht:∀u,R u=true→T u=T' u)(hc:∀u af,R u=true→T u=some af→∀v∈cXs af.body,R v=true):Agr R T T' (orc T) (orc T'):=by
 refine⟨ht,fun u xs hb hu=>?_,fun k c st hu=>?_⟩
 ·simp only[orc];congr 1
  funext n
  exact(zkp ht hc n).call u xs hb hu
 ·simp only[orc];congr 1
  funext n
  exact(zkp ht hc n).loop k c st hu
end
theorem zdj{l:List (Nat×AFx)}{u:Nat}{af:AFx}(h:l.lookup u=some af):(u,af)∈l:=by
 induction l with
 | nil=>cases h
 | cons q l ih=>
  obtain⟨q1,q2⟩:=q;simp only[Yab]at h;split at h
  ·rename_i he;have:=eq_of_beq he;subst this;cases h;exact Yaj
  ·exact Yw _ (ih h)
structure Part (l l':List (Nat×AFx)):Prop where
 sub:∀p∈l',l.lookup p.1=some p.2
 clo:(l'.all fun p=>(cXs p.2.body).all fun v=>(l'.lookup v).isSome || (l.lookup v).isNone)=true
theorem Part.agr{l l':List (Nat×AFx)}(h:Part l l'):Agr (fun u=>(l'.lookup u).isSome || (l.lookup u).isNone) (fun u=>l.lookup u) (fun u=>l'.lookup u) (orc fun u=>l.lookup u) (orc fun u=>l'.lookup u):=by
 refine z10 (fun v hv=>?_) (fun v a hv hva w hw=>?_)
 ·cases hv2:l'.lookup v with
  | none=>
   simp only[hv2]at hv;cases hv3:l.lookup v with
   | none=>rfl
   | some a=>rw[hv3]at hv;cases hv
  | some a=>exact h.sub _ (zdj hv2)
 ·cases hv2:l'.lookup v with
  | none=>simp only[hv2,hva]at hv;cases hv
  | some b=>
   have hb:=zdj hv2;have h1:=h.sub _ hb;simp only at hva h1;rw[hva]at h1;cases h1;exact Yo.1 (Yo.1 h.clo _ hb) w hw
theorem Part.ev{l l':List (Nat×AFx)}(h:Part l l'){c:AX}(hc:((cXs c).all fun v=>(l'.lookup v).isSome)=true){st:St}{r:Option (Ex×St)}
  (he:evX (orc fun u=>l.lookup u) (fun u=>l.lookup u) 0 c st=r):evX (orc fun u=>l'.lookup u) (fun u=>l'.lookup u) 0 c st=r:=by
 rw[←zcr h.agr 0 c (fun v hv=>by rw[Yo.1 hc v hv];rfl) st];exact he
theorem Part.call{l l':List (Nat×AFx)}(h:Part l l'){u:Nat}(hu:(l'.lookup u).isSome=true){xs:List AV}{r:Option AV}(he:Zb (fun u=>l.lookup u) u xs=r):Zb (fun u=>l'.lookup u) u xs=r:=by
 rw[←he];unfold Zb;rw[h.agr.call u xs [] (by rw[hu];rfl)]
end
end Go.Ab