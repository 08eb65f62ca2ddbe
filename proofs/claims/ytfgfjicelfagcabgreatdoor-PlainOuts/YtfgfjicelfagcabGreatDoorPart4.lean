/-
  A calculus of values, boxes and code, and what functions of the program compute, proved in it.
  Conditions: none beyond those that the theorems state. (Part 4.)
-/
import Derived.Test.YtfgfjicelfagcabGreatDoorPart3

set_option linter.unusedSectionVars false
set_option linter.unusedVariables false
set_option linter.unusedSimpArgs false
set_option linter.unnecessarySimpa false

namespace Go.Ab
def b76:AX:=
 (.seq
 (.reg [rg 2 (.mov (.c (.i .i64 0)))])
 (.seq
 (.seq
 (.reg [mv 3 0])
 (.block 0
 (.seq
 (.seq
 (.reg [rg 5 (.bin .eql (.t 3) (.c (.i .i64 1))),mv 4 5])
 (.cond (.t 4)
 .skip
 (.seq
 (.reg [rg 6 (.bin .eql (.t 3) (.c (.i .i64 2))),mv 4 6])
 (.cond (.t 4)
 .skip
 (.seq
 (.reg [rg 7 (.bin .eql (.t 3) (.c (.i .i64 3))),mv 4 7])
 (.cond (.t 4)
 .skip
 (.seq
 (.reg [rg 8 (.bin .eql (.t 3) (.c (.i .i64 4))),mv 4 8])
 (.cond (.t 4)
 .skip
 (.reg [rg 9 (.bin .eql (.t 3) (.c (.i .i64 5))),mv 4 9])))))))))
 (.cond (.t 4)
 (.seq
 (.reg [rg 2 (.mov (.c (.i .i64 0)))])
 (.pre (.norm false [2]) .ret))
 (.seq
 (.seq
 (.reg [rg 11 (.bin .eql (.t 3) (.c (.i .i64 6))),mv 10 11])
 (.cond (.t 10)
 .skip
 (.reg [rg 12 (.bin .eql (.t 3) (.c (.i .i64 11))),mv 10 12])))
 (.cond (.t 10)
 (.seq
 (.reg [rg 2 (.mov (.c (.i .i64 1)))])
 (.pre (.norm false [2]) .ret))
 (.seq
 (.seq
 (.reg [rg 14 (.bin .eql (.t 3) (.c (.i .i64 7))),mv 13 14])
 (.cond (.t 13)
 .skip
 (.seq
 (.reg [rg 15 (.bin .eql (.t 3) (.c (.i .i64 8))),mv 13 15])
 (.cond (.t 13)
 .skip
 (.seq
 (.reg [rg 16 (.bin .eql (.t 3) (.c (.i .i64 9))),mv 13 16])
 (.cond (.t 13)
 .skip
 (.reg [rg 17 (.bin .eql (.t 3) (.c (.i .i64 10))),mv 13 17])))))))
 (.cond (.t 13)
 (.seq
 (.reg [rg 2 (.mov (.c (.i .i64 2)))])
 (.pre (.norm false [2]) .ret))
 .skip))))))))
 (.seq
 (.reg [rg 2 (.mov (.c (.i .i64 (-1))))])
 (.pre (.norm false [2]) .ret))))
def l74_0:AX:=
 (.note
 (.seq
 (.reg [rg 10 (.bin .lss (.t 9) (.t 8))])
 (.seq
 (.cond (.t 10)
 .skip
 (.exit 0))
 (.seq
 (.block 1
 (.seq
 (.reg [mv 11 9,rg 12 (.iad 3 (.t 7) (.t 9)),rg 13 (.load (some 3) (.t 12)),rg 5 (.alloc [(.i .i64 0),(.i .i64 0),(.sl [] .nl)]),mv 4 11,so (.store 3 (.t 5) (.t 13))])
 (.seq
 (.reg [rg 14 (.fad 0 (.t 5)),rg 15 (.load none (.t 14)),rg 16 (.call 76 [(.t 15)]),mv 6 16])
 (.seq
 (.seq
 (.reg [mv 17 6,rg 18 (.bin .lss (.t 17) (.c (.i .i64 0))),mv 19 18,gd 20 19 false (.mov (.t 6)),gd 21 19 false (.mov (.t 3)),gd 22 19 false (.bin .gtr (.t 20) (.t 21)),rg 23 (.pick (.t 19) (.c (.b true)) (.t 22))])
 (.cond (.t 23)
 (.seq
 (.reg [mv 24 4,mv 2 24])
 (.pre (.norm false [2]) .ret))
 .skip))
 (.reg [mv 25 3,mv 26 6,rg 27 (.bin .sub (.c (.i .i64 1)) (.t 26)),rg 28 (.bin .add (.t 25) (.t 27)),mv 3 28])))))
 (.reg [rg 29 (.bin .add (.t 9) (.c (.i .i64 1))),mv 9 29]))))
 (.norm false [0,3,7,8,9]))
def b74:AX:=
 (.seq
 (.reg [rg 2 (.mov (.c (.i .i64 0)))])
 (.seq
 (.reg [rg 3 (.mov (.c (.i .i64 0)))])
 (.seq
 (.seq
 (.reg [mv 7 0,rg 8 (.len (.t 7)),rg 9 (.mov (.c (.i .i64 0)))])
 (.lp 0 (.norm false [0,3,7,8,9]) l74_0 (.norm false [0,3])))
 (.seq
 (.seq
 (.reg [mv 30 3,rg 31 (.bin .neq (.t 30) (.c (.i .i64 1)))])
 (.cond (.t 31)
 (.seq
 (.reg [mv 32 0,rg 33 (.len (.t 32)),mv 2 33])
 (.pre (.norm false [2]) .ret))
 .skip))
 (.seq
 (.reg [rg 2 (.mov (.c (.i .i64 (-1))))])
 (.pre (.norm false [2]) .ret))))))
def b44:AX:=
 (.seq
 (.reg [rg 2 (.mov (.c (.b false)))])
 (.seq
 (.reg [mv 3 0,rg 4 (.call 74 [(.t 3)]),rg 5 (.bin .lss (.t 4) (.c (.i .i64 0))),mv 2 5])
 (.pre (.norm false [2]) .ret)))
def b108:AX:=
 (.seq
 (.reg [rg 4 (.mov (.c (.b false)))])
 (.seq
 (.reg [mv 5 0,rg 6 (.bin .geq (.t 5) (.c (.i .i64 0))),mv 7 6,gd 8 7 true (.mov (.t 0)),gd 9 7 true (.mov (.t 1)),gd 10 7 true (.bin .lss (.t 8) (.t 9)),rg 11 (.pick (.t 7) (.t 10) (.c (.b false))),mv 4 11])
 (.pre (.norm false [4]) .ret)))
def b107:AX:=
 (.seq
 (.reg [rg 2 (.mov (.c (.b false)))])
 (.seq
 (.reg [mv 3 0,rg 4 (.call 71 [(.t 3)]),rg 5 (.len (.t 4)),mv 6 0,rg 7 (.len (.t 6)),rg 8 (.bin .eql (.t 5) (.t 7)),mv 9 8,gd 10 9 true (.mov (.t 0)),gd 11 9 true (.call 129 [(.t 10)]),gd 12 9 true (.bin .leq (.t 11) (.c (.i .i64 60))),rg 13 (.pick (.t 9) (.t 12) (.c (.b false))),mv 2 13])
 (.pre (.norm false [2]) .ret)))
def b75:AX:=
 (.seq
 (.reg [rg 4 (.xop (.box 3) [(.t 0)]),rg 8 (.mov (.c (.b false)))])
 (.seq
 (.seq
 (.reg [rg 9 (.fad 0 (.t 4)),rg 10 (.load none (.t 9)),rg 11 (.bin .neq (.t 10) (.c (.i .i64 1))),mv 12 11,gd 13 12 true (.fad 2 (.t 4)),gd 14 12 true (.load none (.t 13)),gd 15 12 true (.len (.t 14)),gd 16 12 true (.bin .gtr (.t 15) (.c (.i .i64 0))),rg 17 (.pick (.t 12) (.t 16) (.c (.b false)))])
 (.cond (.t 17)
 (.seq
 (.reg [rg 8 (.mov (.c (.b false)))])
 (.pre (.norm false [8]) .ret))
 .skip))
 (.seq
 (.seq
 (.reg [rg 18 (.fad 0 (.t 4)),rg 19 (.load none (.t 18))])
 (.block 0
 (.seq
 (.reg [rg 21 (.bin .eql (.t 19) (.c (.i .i64 1))),mv 20 21])
 (.cond (.t 20)
 (.seq
 (.reg [rg 22 (.fad 1 (.t 4)),rg 23 (.load none (.t 22)),rg 24 (.bin .eql (.t 23) (.c (.i .i64 0))),mv 25 24,gd 26 25 true (.fad 2 (.t 4)),gd 27 25 true (.load none (.t 26)),gd 28 25 true (.call 107 [(.t 27)]),rg 29 (.pick (.t 25) (.t 28) (.c (.b false))),mv 8 29])
 (.pre (.norm false [8]) .ret))
 (.seq
 (.reg [rg 31 (.bin .eql (.t 19) (.c (.i .i64 3))),mv 30 31])
 (.cond (.t 30)
 (.seq
 (.reg [rg 32 (.fad 1 (.t 4)),rg 33 (.load none (.t 32)),mv 34 1,rg 35 (.call 108 [(.t 33),(.t 34)]),mv 8 35])
 (.pre (.norm false [8]) .ret))
 (.seq
 (.reg [rg 37 (.bin .eql (.t 19) (.c (.i .i64 4))),mv 36 37])
 (.cond (.t 36)
 (.seq
 (.reg [rg 38 (.fad 1 (.t 4)),rg 39 (.load none (.t 38)),mv 40 2,rg 41 (.call 108 [(.t 39),(.t 40)]),mv 8 41])
 (.pre (.norm false [8]) .ret))
 (.seq
 (.reg [rg 43 (.bin .eql (.t 19) (.c (.i .i64 5))),mv 42 43])
 (.cond (.t 42)
 (.seq
 (.reg [rg 44 (.fad 1 (.t 4)),rg 45 (.load none (.t 44)),mv 46 3,rg 47 (.call 108 [(.t 45),(.t 46)]),mv 8 47])
 (.pre (.norm false [8]) .ret))
 (.seq
 (.reg [rg 49 (.bin .eql (.t 19) (.c (.i .i64 11))),mv 48 49])
 (.cond (.t 48)
 (.seq
 (.reg [rg 50 (.fad 1 (.t 4)),rg 51 (.load none (.t 50)),rg 52 (.bin .geq (.t 51) (.c (.i .i64 (-8)))),mv 53 52,gd 54 53 true (.fad 1 (.t 4)),gd 55 53 true (.load none (.t 54)),gd 56 53 true (.bin .leq (.t 55) (.c (.i .i64 8))),rg 57 (.pick (.t 53) (.t 56) (.c (.b false))),mv 8 57])
 (.pre (.norm false [8]) .ret))
 .skip))))))))))))
 (.seq
 (.reg [rg 58 (.fad 1 (.t 4)),rg 59 (.load none (.t 58)),rg 60 (.bin .eql (.t 59) (.c (.i .i64 0))),mv 61 60,gd 62 61 true (.fad 0 (.t 4)),gd 63 61 true (.load none (.t 62)),gd 64 61 true (.call 76 [(.t 63)]),gd 65 61 true (.bin .geq (.t 64) (.c (.i .i64 0))),rg 66 (.pick (.t 61) (.t 65) (.c (.b false))),mv 8 66])
 (.pre (.norm false [8]) .ret)))))
def l46_0:AX:=
 (.note
 (.seq
 (.reg [rg 17 (.bin .lss (.t 16) (.t 15))])
 (.seq
 (.cond (.t 17)
 .skip
 (.exit 0))
 (.seq
 (.block 1
 (.seq
 (.reg [mv 18 16,rg 19 (.iad 3 (.t 14) (.t 16)),rg 20 (.load (some 3) (.t 19)),rg 11 (.alloc [(.i .i64 0),(.i .i64 0),(.sl [] .nl)]),mv 10 18,so (.store 3 (.t 11) (.t 20))])
 (.seq
 (.reg [mv 21 10,mv 22 9,rg 23 (.bin .eql (.t 21) (.t 22)),mv 24 23,gd 25 24 false (.load (some 3) (.t 11)),gd 26 24 false (.mov (.t 1)),gd 27 24 false (.mov (.t 2)),gd 28 24 false (.mov (.t 3)),gd 29 24 false (.call 75 [(.t 25),(.t 26),(.t 27),(.t 28)]),gd 30 24 false (.un .not (.t 29)),rg 31 (.pick (.t 24) (.c (.b true)) (.t 30))])
 (.cond (.t 31)
 (.seq
 (.reg [mv 32 10,mv 8 32])
 (.pre (.norm false [8]) .ret))
 .skip))))
 (.reg [rg 33 (.bin .add (.t 16) (.c (.i .i64 1))),mv 16 33]))))
 (.norm false [1,2,3,9,14,15,16]))
def b46:AX:=
 (.seq
 (.reg [rg 8 (.mov (.c (.i .i64 0)))])
 (.seq
 (.reg [mv 12 0,rg 13 (.call 74 [(.t 12)]),mv 9 13])
 (.seq
 (.seq
 (.reg [mv 14 0,rg 15 (.len (.t 14)),rg 16 (.mov (.c (.i .i64 0)))])
 (.lp 0 (.norm false [1,2,3,9,14,15,16]) l46_0 (.norm false [9])))
 (.seq
 (.reg [mv 34 9,mv 8 34])
 (.pre (.norm false [8]) .ret)))))
class CTree (T:Tbl):Prop where
 h76:T 76=some ⟨1,18,[.t 2],b76,none,false⟩
 h74:T 74=some ⟨1,34,[.t 2],b74,none,false⟩
 h44:T 44=some ⟨1,6,[.t 2],b44,none,false⟩
 h108:T 108=some ⟨2,12,[.t 4],b108,none,false⟩
 h107:T 107=some ⟨1,14,[.t 2],b107,none,false⟩
 h75:T 75=some ⟨4,67,[.t 8],b75,none,false⟩
 h46:T 46=some ⟨4,35,[.t 8],b46,none,false⟩
section
variable{T:Tbl}[CTree T]{d:Option Nat}{st:St}{xs:List AV}{ps:List Opd}{e:Env}{h:Heap}{ol:List Heap}
@[simp] theorem x76:callX (orc T) T 76 xs d st=cP T 76 false xs d st:=zaa CTree.h76
theorem f76(xs:List AV)(hn:xs.length=1):callF T 76 xs=retF [.t 2] false (evX (orc T) T 0 b76 ⟨argEnv xs,[],1⟩):=zab CTree.h76 hn
@[simp] theorem x74:callX (orc T) T 74 xs d st=cP T 74 false xs d st:=zaa CTree.h74
theorem f74(xs:List AV)(hn:xs.length=1):callF T 74 xs=retF [.t 2] false (evX (orc T) T 0 b74 ⟨argEnv xs,[],1⟩):=zab CTree.h74 hn
@[simp] theorem x44:callX (orc T) T 44 xs d st=cP T 44 false xs d st:=zaa CTree.h44
theorem f44(xs:List AV)(hn:xs.length=1):callF T 44 xs=retF [.t 2] false (evX (orc T) T 0 b44 ⟨argEnv xs,[],1⟩):=zab CTree.h44 hn
@[simp] theorem x108:callX (orc T) T 108 xs d st=cP T 108 false xs d st:=zaa CTree.h108
theorem f108(xs:List AV)(hn:xs.length=2):callF T 108 xs=retF [.t 4] false (evX (orc T) T 0 b108 ⟨argEnv xs,[],1⟩):=zab CTree.h108 hn
@[simp] theorem x107:callX (orc T) T 107 xs d st=cP T 107 false xs d st:=zaa CTree.h107
theorem f107(xs:List AV)(hn:xs.length=1):callF T 107 xs=retF [.t 2] false (evX (orc T) T 0 b107 ⟨argEnv xs,[],1⟩):=zab CTree.h107 hn
@[simp] theorem x75:callX (orc T) T 75 xs d st=cP T 75 false xs d st:=zaa CTree.h75
theorem f75(xs:List AV)(hn:xs.length=4):callF T 75 xs=retF [.t 8] false (evX (orc T) T 0 b75 ⟨argEnv xs,[],1⟩):=zab CTree.h75 hn
@[simp] theorem x46:callX (orc T) T 46 xs d st=cP T 46 false xs d st:=zaa CTree.h46
theorem f46(xs:List AV)(hn:xs.length=4):callF T 46 xs=retF [.t 8] false (evX (orc T) T 0 b46 ⟨argEnv xs,[],1⟩):=zab CTree.h46 hn
end
def l483_0:AX:=
 (.note
 (.seq
 (.reg [rg 9 (.bin .lss (.t 8) (.t 7))])
 (.seq
 (.cond (.t 9)
 .skip
 (.exit 0))
 (.seq
 (.block 1
 (.seq
 (.reg [rg 10 (.iad 3 (.t 6) (.t 8)),rg 11 (.load (some 3) (.t 10)),rg 5 (.alloc [(.i .i64 0),(.i .i64 0),(.sl [] .nl)]),so (.store 3 (.t 5) (.t 11))])
 (.drawT [mv 12 3,rg 13 (.fad 0 (.t 5)),rg 14 (.load none (.t 13)),rg 15 (.fad 1 (.t 5)),rg 16 (.load none (.t 15)),rg 17 (.fad 2 (.t 5)),rg 18 (.load none (.t 17)),rg 19 (.app 1 (.c (.sl [] .nl)) (.t 18)),rg 20 (.build [(.i .i64 0),(.i .i64 0),(.sl [] .nl)] [(0,1,(.t 14)),(1,1,(.t 16)),(2,1,(.t 19))]),rg 21 (.bsl 3 [(.i .i64 0),(.i .i64 0),(.sl [] .nl)] 1 [(0,(.t 20))])]
 [rg 22 (.app 3 (.t 12) (.t 21)),mv 3 22])))
 (.reg [rg 23 (.bin .add (.t 8) (.c (.i .i64 1))),mv 8 23]))))
 (.norm false [3,6,7,8]))
def b483:AX:=
 (.seq
 (.reg [rg 2 (.mov (.c (.sl [] .nl)))])
 (.seq
 (.note (.reg [rg 3 (.mov (.c (.sl [] .nl)))]) (.nil 3 3))
 (.seq
 (.seq
 (.reg [mv 6 0,rg 7 (.len (.t 6)),rg 8 (.mov (.c (.i .i64 0)))])
 (.lp 0 (.norm false [3,6,7,8]) l483_0 (.norm false [3])))
 (.seq
 (.reg [mv 24 3,mv 2 24])
 (.pre (.norm false [2]) .ret)))))
def l493_0:AX:=
 (.note
 (.seq
 (.reg [rg 12 (.bin .lss (.t 11) (.t 10))])
 (.seq
 (.cond (.t 12)
 .skip
 (.exit 0))
 (.seq
 (.block 1
 (.seq
 (.reg [rg 13 (.iad 2 (.t 9) (.t 11)),rg 14 (.load (some 2) (.t 13)),rg 5 (.alloc [(.s []),(.sl [] .nl)]),so (.store 2 (.t 5) (.t 14))])
 (.reg [mv 15 3,rg 16 (.fad 1 (.t 5)),rg 17 (.load none (.t 16)),rg 18 (.call 483 [(.t 17)]),rg 19 (.bsl 1 [(.sl [] .nl)] 1 [(0,(.t 18))]),rg 20 (.app 1 (.t 15) (.t 19)),mv 3 20])))
 (.reg [rg 21 (.bin .add (.t 11) (.c (.i .i64 1))),mv 11 21]))))
 (.norm false [1,3,9,10,11]))
def l493_1:AX:=
 (.note
 (.seq
 (.reg [rg 26 (.bin .lss (.t 25) (.t 24))])
 (.seq
 (.cond (.t 26)
 .skip
 (.exit 2))
 (.seq
 (.block 3
 (.seq
 (.reg [rg 27 (.iad 1 (.t 23) (.t 25)),rg 28 (.load none (.t 27)),mv 7 28])
 (.reg [mv 29 3,mv 30 7,rg 31 (.call 483 [(.t 30)]),rg 32 (.bsl 1 [(.sl [] .nl)] 1 [(0,(.t 31))]),rg 33 (.app 1 (.t 29) (.t 32)),mv 3 33])))
 (.reg [rg 34 (.bin .add (.t 25) (.c (.i .i64 1))),mv 25 34]))))
 (.norm false [3,23,24,25]))
def b493:AX:=
 (.seq
 (.reg [rg 1 (.xop (.box 2) [(.t 0)]),rg 2 (.mov (.c (.sl [] .nl)))])
 (.seq
 (.note (.reg [rg 3 (.mov (.c (.sl [] .nl)))]) (.nil 3 1))
 (.seq
 (.seq
 (.reg [rg 8 (.fad 0 (.t 1)),rg 9 (.load none (.t 8)),rg 10 (.len (.t 9)),rg 11 (.mov (.c (.i .i64 0)))])
 (.lp 0 (.norm false [1,3,9,10,11]) l493_0 (.norm false [1,3])))
 (.seq
 (.seq
 (.reg [rg 22 (.fad 1 (.t 1)),rg 23 (.load none (.t 22)),rg 24 (.len (.t 23)),rg 25 (.mov (.c (.i .i64 0)))])
 (.lp 2 (.norm false [3,23,24,25]) l493_1 (.norm false [3])))
 (.seq
 (.reg [mv 35 3,mv 2 35])
 (.pre (.norm false [2]) .ret))))))
def l491_0:AX:=
 (.note
 (.seq
 (.reg [rg 10 (.bin .lss (.t 9) (.t 8))])
 (.seq
 (.cond (.t 10)
 .skip
 (.exit 0))
 (.seq
 (.block 1
 (.seq
 (.reg [rg 11 (.iad 1 (.t 7) (.t 9)),rg 12 (.load none (.t 11)),mv 5 12])
 (.reg [mv 13 3,mv 14 5,rg 15 (.len (.t 14)),rg 16 (.bin .add (.t 13) (.t 15)),mv 3 16])))
 (.reg [rg 17 (.bin .add (.t 9) (.c (.i .i64 1))),mv 9 17]))))
 (.norm false [3,7,8,9]))
def b491:AX:=
 (.seq
 (.reg [rg 1 (.xop (.box 2) [(.t 0)]),rg 2 (.mov (.c (.i .i64 0)))])
 (.seq
 (.reg [rg 3 (.mov (.c (.i .i64 0)))])
 (.seq
 (.seq
 (.reg [rg 6 (.load (some 2) (.t 1)),rg 7 (.call 493 [(.t 6)]),rg 8 (.len (.t 7)),rg 9 (.mov (.c (.i .i64 0)))])
 (.lp 0 (.norm false [3,7,8,9]) l491_0 (.norm false [3])))
 (.seq
 (.reg [mv 18 3,mv 2 18])
 (.pre (.norm false [2]) .ret)))))
def l492_0:AX:=
 (.note
 (.seq
 (.reg [rg 20 (.bin .lss (.t 19) (.t 18))])
 (.seq
 (.cond (.t 20)
 .skip
 (.exit 2))
 (.seq
 (.block 3
 (.seq
 (.reg [mv 21 6,mv 22 3,mv 23 3,rg 24 (.len (.t 23)),rg 25 (.bin .sub (.t 24) (.c (.i .i64 1))),rg 26 (.iad 1 (.t 22) (.t 25)),rg 27 (.load none (.t 26)),rg 28 (.mm true [(.t 21),(.t 27)]),mv 6 28])
 (.reg [mv 29 3,mv 30 3,rg 31 (.len (.t 30)),rg 32 (.bin .sub (.t 31) (.c (.i .i64 1))),rg 33 (.slc 1 (.t 29) none (some (.t 32)) none),mv 3 33])))
 (.reg [rg 34 (.bin .add (.t 19) (.c (.i .i64 1))),mv 19 34]))))
 (.norm false [3,6,10,11,12,18,19]))
def l492_1:AX:=
 (.note
 (.seq
 (.reg [rg 13 (.bin .lss (.t 12) (.t 11))])
 (.seq
 (.cond (.t 13)
 .skip
 (.exit 0))
 (.seq
 (.block 1
 (.seq
 (.reg [rg 14 (.iad 3 (.t 10) (.t 12)),rg 15 (.load (some 3) (.t 14)),rg 5 (.alloc [(.i .i64 0),(.i .i64 0),(.sl [] .nl)]),so (.store 3 (.t 5) (.t 15))])
 (.seq
 (.reg [rg 6 (.mov (.c (.i .i64 0)))])
 (.seq
 (.seq
 (.reg [rg 16 (.fad 0 (.t 5)),rg 17 (.load none (.t 16)),rg 18 (.call 76 [(.t 17)]),rg 19 (.mov (.c (.i .i64 0)))])
 (.lp 2 (.norm false [3,6,10,11,12,18,19]) l492_0 (.norm false [3,6,10,11,12])))
 (.reg [mv 35 3,mv 36 6,rg 37 (.bin .add (.t 36) (.c (.i .i64 1))),rg 38 (.bsl 1 [(.i .i64 0)] 1 [(0,(.t 37))]),rg 39 (.app 1 (.t 35) (.t 38)),mv 3 39])))))
 (.reg [rg 40 (.bin .add (.t 12) (.c (.i .i64 1))),mv 12 40]))))
 (.norm false [3,10,11,12]))
def b492:AX:=
 (.seq
 (.reg [rg 2 (.mov (.c (.i .i64 0)))])
 (.seq
 (.seq
 (.reg [mv 7 0,rg 8 (.call 44 [(.t 7)]),rg 9 (.un .not (.t 8))])
 (.cond (.t 9)
 (.seq
 (.reg [rg 2 (.mov (.c (.i .i64 0)))])
 (.pre (.norm false [2]) .ret))
 .skip))
 (.seq
 (.note (.reg [rg 3 (.mov (.c (.sl [] .nl)))]) (.nil 3 1))
 (.seq
 (.seq
 (.reg [mv 10 0,rg 11 (.len (.t 10)),rg 12 (.mov (.c (.i .i64 0)))])
 (.lp 0 (.norm false [3,10,11,12]) l492_1 (.norm false [3])))
 (.seq
 (.reg [mv 41 3,rg 42 (.iad 1 (.t 41) (.c (.i .i64 0))),rg 43 (.load none (.t 42)),mv 2 43])
 (.pre (.norm false [2]) .ret))))))
class CTree2 (T:Tbl):Prop where
 h483:T 483=some ⟨1,25,[.t 2],b483,none,false⟩
 h493:T 493=some ⟨1,36,[.t 2],b493,none,false⟩
 h491:T 491=some ⟨1,19,[.t 2],b491,none,false⟩
 h492:T 492=some ⟨1,44,[.t 2],b492,none,false⟩
section
variable{T:Tbl}[CTree2 T]{d:Option Nat}{st:St}{xs:List AV}{ps:List Opd}{e:Env}{h:Heap}{ol:List Heap}
@[simp] theorem x483:callX (orc T) T 483 xs d st=cP T 483 false xs d st:=zaa CTree2.h483
theorem f483(xs:List AV)(hn:xs.length=1):callF T 483 xs=retF [.t 2] false (evX (orc T) T 0 b483 ⟨argEnv xs,[],1⟩):=zab CTree2.h483 hn
@[simp] theorem x493:callX (orc T) T 493 xs d st=cP T 493 false xs d st:=zaa CTree2.h493
theorem f493(xs:List AV)(hn:xs.length=1):callF T 493 xs=retF [.t 2] false (evX (orc T) T 0 b493 ⟨argEnv xs,[],1⟩):=zab CTree2.h493 hn
@[simp] theorem x491:callX (orc T) T 491 xs d st=cP T 491 false xs d st:=zaa CTree2.h491
theorem f491(xs:List AV)(hn:xs.length=1):callF T 491 xs=retF [.t 2] false (evX (orc T) T 0 b491 ⟨argEnv xs,[],1⟩):=zab CTree2.h491 hn
@[simp] theorem x492:callX (orc T) T 492 xs d st=cP T 492 false xs d st:=zaa CTree2.h492
theorem f492(xs:List AV)(hn:xs.length=1):callF T 492 xs=retF [.t 2] false (evX (orc T) T 0 b492 ⟨argEnv xs,[],1⟩):=zab CTree2.h492 hn
end
def b113:AX:=
 (.seq
 (.reg [rg 2 (.mov (.c (.i .i64 0)))])
 (.seq
 (.seq
 (.reg [mv 3 0,rg 4 (.bin .geq (.t 3) (.c (.i .i64 1))),mv 5 4,gd 6 5 true (.mov (.t 0)),gd 7 5 true (.bin .leq (.t 6) (.c (.i .i64 5))),rg 8 (.pick (.t 5) (.t 7) (.c (.b false)))])
 (.cond (.t 8)
 (.seq
 (.reg [rg 2 (.mov (.c (.i .i64 0)))])
 (.pre (.norm false [2]) .ret))
 .skip))
 (.seq
 (.seq
 (.reg [mv 9 0,rg 10 (.bin .eql (.t 9) (.c (.i .i64 6))),mv 11 10,gd 12 11 false (.mov (.t 0)),gd 13 11 false (.bin .eql (.t 12) (.c (.i .i64 11))),rg 14 (.pick (.t 11) (.c (.b true)) (.t 13))])
 (.cond (.t 14)
 (.seq
 (.reg [rg 2 (.mov (.c (.i .i64 1)))])
 (.pre (.norm false [2]) .ret))
 .skip))
 (.seq
 (.seq
 (.reg [mv 15 0,rg 16 (.bin .geq (.t 15) (.c (.i .i64 7))),mv 17 16,gd 18 17 true (.mov (.t 0)),gd 19 17 true (.bin .leq (.t 18) (.c (.i .i64 10))),rg 20 (.pick (.t 17) (.t 19) (.c (.b false)))])
 (.cond (.t 20)
 (.seq
 (.reg [rg 2 (.mov (.c (.i .i64 2)))])
 (.pre (.norm false [2]) .ret))
 .skip))
 (.seq
 (.reg [rg 2 (.mov (.c (.i .i64 (-1))))])
 (.pre (.norm false [2]) .ret))))))
def l80_0:AX:=
 (.note
 (.seq
 (.seq
 (.reg [mv 6 4,mv 7 0,rg 8 (.len (.t 7)),rg 9 (.bin .lss (.t 6) (.t 8))])
 (.cond (.t 9)
 .skip
 (.exit 0)))
 (.seq
 (.block 1
 (.seq
 (.reg [mv 12 0,mv 13 4,rg 14 (.iad 3 (.t 12) (.t 13)),rg 15 (.fad 0 (.t 14)),rg 16 (.load none (.t 15)),rg 17 (.call 113 [(.t 16)]),mv 5 17])
 (.seq
 (.seq
 (.reg [mv 18 5,rg 19 (.bin .lss (.t 18) (.c (.i .i64 0))),mv 20 19,gd 21 20 false (.mov (.t 3)),gd 22 20 false (.mov (.t 5)),gd 23 20 false (.bin .lss (.t 21) (.t 22)),rg 24 (.pick (.t 20) (.c (.b true)) (.t 23))])
 (.cond (.t 24)
 (.seq
 (.reg [mv 25 4,mv 2 25])
 (.pre (.norm false [2]) .ret))
 .skip))
 (.reg [mv 26 3,mv 27 5,rg 28 (.bin .sub (.t 26) (.t 27)),rg 29 (.bin .add (.t 28) (.c (.i .i64 1))),mv 3 29]))))
 (.reg [mv 10 4,rg 11 (.bin .add (.t 10) (.c (.i .i64 1))),mv 4 11])))
 (.norm false [0,3,4]))
def b80:AX:=
 (.seq
 (.reg [rg 2 (.mov (.c (.i .i64 0)))])
 (.seq
 (.reg [rg 3 (.mov (.c (.i .i64 0)))])
 (.seq
 (.seq
 (.reg [rg 4 (.mov (.c (.i .i64 0)))])
 (.lp 0 (.norm false [0,3,4]) l80_0 (.norm false [0,3])))
 (.seq
 (.seq
 (.reg [mv 30 3,rg 31 (.bin .eql (.t 30) (.c (.i .i64 1)))])
 (.cond (.t 31)
 (.seq
 (.reg [rg 2 (.mov (.c (.i .i64 (-1))))])
 (.pre (.norm false [2]) .ret))
 .skip))
 (.seq
 (.reg [mv 32 0,rg 33 (.len (.t 32)),mv 2 33])
 (.pre (.norm false [2]) .ret))))))
def l114_0:AX:=
 (.note
 (.seq
 (.seq
 (.reg [mv 18 8,rg 19 (.bin .gtr (.t 18) (.c (.i .i64 0)))])
 (.cond (.t 19)
 .skip
 (.exit 0)))
 (.seq
 (.block 1
 (.seq
 (.reg [mv 23 0,mv 24 7,rg 25 (.bin .sub (.t 24) (.c (.i .i64 1))),rg 26 (.call 114 [(.t 23),(.t 25)]),mv 22 26,rg 27 (.ext (.t 22) 0),rg 28 (.ext (.t 22) 1),mv 9 27,mv 10 28])
 (.seq
 (.reg [mv 29 6,mv 30 9,rg 31 (.mm true [(.t 29),(.t 30)]),mv 6 31])
 (.reg [mv 32 10,mv 7 32]))))
 (.reg [mv 20 8,rg 21 (.bin .sub (.t 20) (.c (.i .i64 1))),mv 8 21])))
 (.norm false [0,6,7,8]))
def b114:AX:=
 (.seq
 (.reg [rg 4 (.mov (.c (.i .i64 0))),rg 5 (.mov (.c (.i .i64 0)))])
 (.seq
 (.reg [rg 6 (.mov (.c (.i .i64 0)))])
 (.seq
 (.reg [mv 11 1,mv 7 11])
 (.seq
 (.seq
 (.reg [mv 12 0,mv 13 1,rg 14 (.iad 3 (.t 12) (.t 13)),rg 15 (.fad 0 (.t 14)),rg 16 (.load none (.t 15)),rg 17 (.call 113 [(.t 16)]),mv 8 17])
 (.lp 0 (.norm false [0,6,7,8]) l114_0 (.norm false [6,7])))
 (.seq
 (.reg [mv 33 6,rg 34 (.bin .add (.t 33) (.c (.i .i64 1))),mv 35 7,mv 4 34,mv 5 35])
 (.pre (.norm false [4,5]) .ret))))))
def l16_0:AX:=
 (.note
 (.seq
 (.seq
 (.reg [mv 11 5,mv 12 0,rg 13 (.len (.t 12)),rg 14 (.bin .lss (.t 11) (.t 13))])
 (.cond (.t 14)
 .skip
 (.exit 0)))
 (.seq
 (.block 1
 (.seq
 (.drawT [mv 17 0,mv 18 5,rg 19 (.iad 3 (.t 17) (.t 18)),rg 20 (.fad 0 (.t 19)),rg 21 (.load none (.t 20)),mv 22 1,mv 23 5,rg 24 (.iad 3 (.t 22) (.t 23)),rg 25 (.fad 0 (.t 24)),rg 26 (.load none (.t 25)),rg 27 (.bin .neq (.t 21) (.t 26)),mv 28 27,gd 29 28 false (.mov (.t 0)),gd 30 28 false (.mov (.t 5)),gd 31 28 false (.iad 3 (.t 29) (.t 30)),gd 32 28 false (.fad 1 (.t 31)),gd 33 28 false (.load none (.t 32)),gd 34 28 false (.mov (.t 1)),gd 35 28 false (.mov (.t 5)),gd 36 28 false (.iad 3 (.t 34) (.t 35)),gd 37 28 false (.fad 1 (.t 36)),gd 38 28 false (.load none (.t 37)),gd 39 28 false (.bin .neq (.t 33) (.t 38)),rg 40 (.pick (.t 28) (.c (.b true)) (.t 39)),mv 41 40,gd 42 41 false (.mov (.t 0)),gd 43 41 false (.mov (.t 5)),gd 44 41 false (.iad 3 (.t 42) (.t 43)),gd 45 41 false (.fad 2 (.t 44)),gd 46 41 false (.load none (.t 45)),gd 47 41 false (.mov (.t 1)),gd 48 41 false (.mov (.t 5)),gd 49 41 false (.iad 3 (.t 47) (.t 48)),gd 50 41 false (.fad 2 (.t 49)),gd 51 41 false (.load none (.t 50))]
 [gd 52 41 false (.call 52 [(.t 46),(.t 51)]),gd 53 41 false (.bin .neq (.t 52) (.c (.i .i64 0))),rg 54 (.pick (.t 41) (.c (.b true)) (.t 53))])
 (.cond (.t 54)
 (.seq
 (.reg [rg 4 (.mov (.c (.b false)))])
 (.pre (.norm false [4]) .ret))
 .skip)))
 (.reg [mv 15 5,rg 16 (.bin .add (.t 15) (.c (.i .i64 1))),mv 5 16])))
 (.norm false [0,1,5]))
def b16:AX:=
 (.seq
 (.reg [rg 4 (.mov (.c (.b false)))])
 (.seq
 (.seq
 (.reg [mv 6 0,rg 7 (.len (.t 6)),mv 8 1,rg 9 (.len (.t 8)),rg 10 (.bin .neq (.t 7) (.t 9))])
 (.cond (.t 10)
 (.seq
 (.reg [rg 4 (.mov (.c (.b false)))])
 (.pre (.norm false [4]) .ret))
 .skip))
 (.seq
 (.seq
 (.reg [rg 5 (.mov (.c (.i .i64 0)))])
 (.lp 0 (.norm false [0,1,5]) l16_0 (.norm false [])))
 (.seq
 (.reg [rg 4 (.mov (.c (.b true)))])
 (.pre (.norm false [4]) .ret)))))
def l10_0:AX:=
 (.note
 (.seq
 (.seq
 (.reg [mv 8 7,mv 9 0,rg 10 (.len (.t 9)),rg 11 (.bin .lss (.t 8) (.t 10)),mv 12 11,gd 13 12 true (.mov (.t 7)),gd 14 12 true (.mov (.t 1)),gd 15 12 true (.bin .lss (.t 13) (.t 14)),rg 16 (.pick (.t 12) (.t 15) (.c (.b false)))])
 (.cond (.t 16)
 .skip
 (.exit 0)))
 (.seq
 (.block 1
 (.seq
 (.reg [mv 19 0,mv 20 7,rg 21 (.iad 3 (.t 19) (.t 20)),rg 22 (.fad 2 (.t 21)),rg 23 (.load none (.t 22)),rg 24 (.len (.t 23)),mv 25 2,rg 26 (.bin .gtr (.t 24) (.t 25))])
 (.cond (.t 26)
 (.seq
 (.reg [rg 6 (.mov (.c (.b true)))])
 (.pre (.norm false [6]) .ret))
 .skip)))
 (.reg [mv 17 7,rg 18 (.bin .add (.t 17) (.c (.i .i64 1))),mv 7 18])))
 (.norm false [0,1,2,7]))
def b10:AX:=
 (.seq
 (.reg [rg 6 (.mov (.c (.b false)))])
 (.seq
 (.seq
 (.reg [rg 7 (.mov (.c (.i .i64 0)))])
 (.lp 0 (.norm false [0,1,2,7]) l10_0 (.norm false [0,1])))
 (.seq
 (.reg [mv 27 0,rg 28 (.len (.t 27)),mv 29 1,rg 30 (.bin .gtr (.t 28) (.t 29)),mv 6 30])
 (.pre (.norm false [6]) .ret))))
def b79:AX:=
 (.seq
 (.reg [rg 4 (.xop (.box 3) [(.t 0)]),rg 8 (.mov (.c (.b false)))])
 (.seq
 (.seq
 (.reg [rg 9 (.fad 0 (.t 4)),rg 10 (.load none (.t 9)),rg 11 (.bin .eql (.t 10) (.c (.i .i64 1)))])
 (.cond (.t 11)
 (.seq
 (.drawT [rg 12 (.fad 1 (.t 4)),rg 13 (.load none (.t 12)),rg 14 (.bin .eql (.t 13) (.c (.i .i64 0))),mv 15 14,gd 16 15 true (.fad 2 (.t 4)),gd 17 15 true (.load none (.t 16)),gd 18 15 true (.call 43 [(.t 17)]),gd 19 15 true (.fad 2 (.t 4)),gd 20 15 true (.load none (.t 19))]
 [gd 21 15 true (.call 54 [(.t 18),(.t 20)]),rg 22 (.pick (.t 15) (.t 21) (.c (.b false))),mv 23 22,gd 24 23 true (.fad 2 (.t 4)),gd 25 23 true (.load none (.t 24)),gd 26 23 true (.call 69 [(.t 25)]),gd 27 23 true (.lens (.t 26)),gd 28 23 true (.bin .leq (.t 27) (.c (.i .i64 60))),rg 29 (.pick (.t 23) (.t 28) (.c (.b false))),mv 8 29])
 (.pre (.norm false [8]) .ret))
 .skip))
 (.seq
 (.seq
 (.reg [rg 30 (.fad 2 (.t 4)),rg 31 (.load none (.t 30)),rg 32 (.len (.t 31)),rg 33 (.bin .gtr (.t 32) (.c (.i .i64 0))),mv 34 33,gd 35 34 false (.fad 0 (.t 4)),gd 36 34 false (.load none (.t 35)),gd 37 34 false (.bin .lss (.t 36) (.c (.i .i64 1))),rg 38 (.pick (.t 34) (.c (.b true)) (.t 37)),mv 39 38,gd 40 39 false (.fad 0 (.t 4)),gd 41 39 false (.load none (.t 40)),gd 42 39 false (.bin .gtr (.t 41) (.c (.i .i64 11))),rg 43 (.pick (.t 39) (.c (.b true)) (.t 42))])
 (.cond (.t 43)
 (.seq
 (.reg [rg 8 (.mov (.c (.b false)))])
 (.pre (.norm false [8]) .ret))
 .skip))
 (.seq
 (.seq
 (.reg [rg 44 (.fad 0 (.t 4)),rg 45 (.load none (.t 44)),rg 46 (.bin .eql (.t 45) (.c (.i .i64 3)))])
 (.cond (.t 46)
 (.seq
 (.reg [rg 47 (.fad 1 (.t 4)),rg 48 (.load none (.t 47)),rg 49 (.bin .geq (.t 48) (.c (.i .i64 0))),mv 50 49,gd 51 50 true (.fad 1 (.t 4)),gd 52 50 true (.load none (.t 51)),gd 53 50 true (.mov (.t 1)),gd 54 50 true (.bin .lss (.t 52) (.t 53)),rg 55 (.pick (.t 50) (.t 54) (.c (.b false))),mv 8 55])
 (.pre (.norm false [8]) .ret))
 .skip))
 (.seq
 (.seq
 (.reg [rg 56 (.fad 0 (.t 4)),rg 57 (.load none (.t 56)),rg 58 (.bin .eql (.t 57) (.c (.i .i64 4)))])
 (.cond (.t 58)
 (.seq
 (.reg [rg 59 (.fad 1 (.t 4)),rg 60 (.load none (.t 59)),rg 61 (.bin .geq (.t 60) (.c (.i .i64 0))),mv 62 61,gd 63 62 true (.fad 1 (.t 4)),gd 64 62 true (.load none (.t 63)),gd 65 62 true (.mov (.t 2)),gd 66 62 true (.bin .lss (.t 64) (.t 65)),rg 67 (.pick (.t 62) (.t 66) (.c (.b false))),mv 8 67])
 (.pre (.norm false [8]) .ret))
 .skip))
 (.seq
 (.seq
 (.reg [rg 68 (.fad 0 (.t 4)),rg 69 (.load none (.t 68)),rg 70 (.bin .eql (.t 69) (.c (.i .i64 5)))])
 (.cond (.t 70)
 (.seq
 (.reg [rg 71 (.fad 1 (.t 4)),rg 72 (.load none (.t 71)),rg 73 (.bin .geq (.t 72) (.c (.i .i64 0))),mv 74 73,gd 75 74 true (.fad 1 (.t 4)),gd 76 74 true (.load none (.t 75)),gd 77 74 true (.mov (.t 3)),gd 78 74 true (.bin .lss (.t 76) (.t 77)),rg 79 (.pick (.t 74) (.t 78) (.c (.b false))),mv 8 79])
 (.pre (.norm false [8]) .ret))
 .skip))
 (.seq
 (.seq
 (.reg [rg 80 (.fad 0 (.t 4)),rg 81 (.load none (.t 80)),rg 82 (.bin .eql (.t 81) (.c (.i .i64 11)))])
 (.cond (.t 82)
 (.seq
 (.reg [rg 83 (.fad 1 (.t 4)),rg 84 (.load none (.t 83)),rg 85 (.bin .geq (.t 84) (.c (.i .i64 (-8)))),mv 86 85,gd 87 86 true (.fad 1 (.t 4)),gd 88 86 true (.load none (.t 87)),gd 89 86 true (.bin .leq (.t 88) (.c (.i .i64 8))),rg 90 (.pick (.t 86) (.t 89) (.c (.b false))),mv 8 90])
 (.pre (.norm false [8]) .ret))
 .skip))
 (.seq
 (.reg [rg 91 (.fad 1 (.t 4)),rg 92 (.load none (.t 91)),rg 93 (.bin .eql (.t 92) (.c (.i .i64 0))),mv 8 93])
 (.pre (.norm false [8]) .ret)))))))))
def l50_0:AX:=
 (.note
 (.seq
 (.seq
 (.reg [mv 13 10,mv 14 0,rg 15 (.len (.t 14)),rg 16 (.bin .lss (.t 13) (.t 15))])
 (.cond (.t 16)
 .skip
 (.exit 0)))
 (.seq
 (.block 1
 (.seq
 (.reg [mv 19 10,mv 20 9,rg 21 (.bin .eql (.t 19) (.t 20)),mv 22 21,gd 23 22 false (.mov (.t 0)),gd 24 22 false (.mov (.t 10)),gd 25 22 false (.iad 3 (.t 23) (.t 24)),gd 26 22 false (.load (some 3) (.t 25)),gd 27 22 false (.mov (.t 1)),gd 28 22 false (.mov (.t 2)),gd 29 22 false (.mov (.t 3)),gd 30 22 false (.call 79 [(.t 26),(.t 27),(.t 28),(.t 29)]),gd 31 22 false (.un .not (.t 30)),rg 32 (.pick (.t 22) (.c (.b true)) (.t 31))])
 (.cond (.t 32)
 (.seq
 (.reg [mv 33 10,mv 8 33])
 (.pre (.norm false [8]) .ret))
 .skip)))
 (.reg [mv 17 10,rg 18 (.bin .add (.t 17) (.c (.i .i64 1))),mv 10 18])))
 (.norm false [0,1,2,3,9,10]))
def b50:AX:=
 (.seq
 (.reg [rg 8 (.mov (.c (.i .i64 0)))])
 (.seq
 (.reg [mv 11 0,rg 12 (.call 80 [(.t 11)]),mv 9 12])
 (.seq
 (.seq
 (.reg [rg 10 (.mov (.c (.i .i64 0)))])
 (.lp 0 (.norm false [0,1,2,3,9,10]) l50_0 (.norm false [9])))
 (.seq
 (.reg [mv 34 9,mv 8 34])
 (.pre (.norm false [8]) .ret)))))
class CRef17 (T:Tbl):Prop where
 h113:T 113=some ⟨1,21,[.t 2],b113,none,false⟩
 h80:T 80=some ⟨1,34,[.t 2],b80,none,false⟩
 h114:T 114=some ⟨2,36,[.t 4,.t 5],b114,none,false⟩
 h16:T 16=some ⟨2,55,[.t 4],b16,none,false⟩
 h10:T 10=some ⟨3,31,[.t 6],b10,none,false⟩
 h79:T 79=some ⟨4,94,[.t 8],b79,none,false⟩
 h50:T 50=some ⟨4,35,[.t 8],b50,none,false⟩
section
variable{T:Tbl}[CRef17 T]{d:Option Nat}{st:St}{xs:List AV}{ps:List Opd}{e:Env}{h:Heap}{ol:List Heap}
@[simp] theorem x113:callX (orc T) T 113 xs d st=cP T 113 false xs d st:=zaa CRef17.h113
theorem f113(xs:List AV)(hn:xs.length=1):callF T 113 xs=retF [.t 2] false (evX (orc T) T 0 b113 ⟨argEnv xs,[],1⟩):=zab CRef17.h113 hn
@[simp] theorem x80:callX (orc T) T 80 xs d st=cP T 80 false xs d st:=zaa CRef17.h80
theorem f80(xs:List AV)(hn:xs.length=1):callF T 80 xs=retF [.t 2] false (evX (orc T) T 0 b80 ⟨argEnv xs,[],1⟩):=zab CRef17.h80 hn
@[simp] theorem x114:callX (orc T) T 114 xs d st=cP T 114 false xs d st:=zaa CRef17.h114
theorem f114(xs:List AV)(hn:xs.length=2):callF T 114 xs=retF [.t 4,.t 5] false (evX (orc T) T 0 b114 ⟨argEnv xs,[],1⟩):=zab CRef17.h114 hn
@[simp] theorem x16:callX (orc T) T 16 xs d st=cP T 16 false xs d st:=zaa CRef17.h16
@[simp] theorem y16:opD (orc T) T (.call 16 ps) e h ol=dP T 16 false ps e:=za0 CRef17.h16
theorem f16(xs:List AV)(hn:xs.length=2):callF T 16 xs=retF [.t 4] false (evX (orc T) T 0 b16 ⟨argEnv xs,[],1⟩):=zab CRef17.h16 hn
@[simp] theorem x10:callX (orc T) T 10 xs d st=cP T 10 false xs d st:=zaa CRef17.h10
theorem f10(xs:List AV)(hn:xs.length=3):callF T 10 xs=retF [.t 6] false (evX (orc T) T 0 b10 ⟨argEnv xs,[],1⟩):=zab CRef17.h10 hn
@[simp] theorem x79:callX (orc T) T 79 xs d st=cP T 79 false xs d st:=zaa CRef17.h79
theorem f79(xs:List AV)(hn:xs.length=4):callF T 79 xs=retF [.t 8] false (evX (orc T) T 0 b79 ⟨argEnv xs,[],1⟩):=zab CRef17.h79 hn
@[simp] theorem x50:callX (orc T) T 50 xs d st=cP T 50 false xs d st:=zaa CRef17.h50
theorem f50(xs:List AV)(hn:xs.length=4):callF T 50 xs=retF [.t 8] false (evX (orc T) T 0 b50 ⟨argEnv xs,[],1⟩):=zab CRef17.h50 hn
end
def l13_0:AX:=
 (.note
 (.seq
 (.seq
 (.reg [mv 5 4,mv 6 0,rg 7 (.len (.t 6)),rg 8 (.bin .lss (.t 5) (.t 7))])
 (.cond (.t 8)
 .skip
 (.exit 0)))
 (.seq
 (.block 1
 (.drawT [mv 11 3,mv 12 0,mv 13 4,rg 14 (.iad 3 (.t 12) (.t 13)),rg 15 (.fad 0 (.t 14)),rg 16 (.load none (.t 15)),mv 17 0,mv 18 4,rg 19 (.iad 3 (.t 17) (.t 18)),rg 20 (.fad 1 (.t 19)),rg 21 (.load none (.t 20)),mv 22 0,mv 23 4,rg 24 (.iad 3 (.t 22) (.t 23)),rg 25 (.fad 2 (.t 24)),rg 26 (.load none (.t 25)),rg 27 (.build [(.i .i64 0),(.i .i64 0),(.sl [] .nl)] [(0,1,(.t 16)),(1,1,(.t 21)),(2,1,(.t 26))]),rg 28 (.bsl 3 [(.i .i64 0),(.i .i64 0),(.sl [] .nl)] 1 [(0,(.t 27))])]
 [rg 29 (.app 3 (.t 11) (.t 28)),mv 3 29]))
 (.reg [mv 9 4,rg 10 (.bin .add (.t 9) (.c (.i .i64 1))),mv 4 10])))
 (.norm false [0,3,4]))
def b13:AX:=
 (.seq
 (.reg [rg 2 (.mov (.c (.sl [] .nl)))])
 (.seq
 (.note (.reg [rg 3 (.mov (.c (.sl [] .nl)))]) (.nil 3 3))
 (.seq
 (.seq
 (.reg [rg 4 (.mov (.c (.i .i64 0)))])
 (.lp 0 (.norm false [0,3,4]) l13_0 (.norm false [3])))
 (.seq
 (.reg [mv 30 3,mv 2 30])
 (.pre (.norm false [2]) .ret)))))
def l17_0:AX:=
 (.note
 (.seq
 (.seq
 (.reg [mv 5 4,mv 6 0,rg 7 (.len (.t 6)),rg 8 (.bin .lss (.t 5) (.t 7))])
 (.cond (.t 8)
 .skip
 (.exit 0)))
 (.seq
 (.block 1
 (.drawT [mv 11 3,mv 12 0,mv 13 4,rg 14 (.iad 3 (.t 12) (.t 13)),rg 15 (.fad 0 (.t 14)),rg 16 (.load none (.t 15)),mv 17 0,mv 18 4,rg 19 (.iad 3 (.t 17) (.t 18)),rg 20 (.fad 1 (.t 19)),rg 21 (.load none (.t 20)),mv 22 0,mv 23 4,rg 24 (.iad 3 (.t 22) (.t 23)),rg 25 (.fad 2 (.t 24)),rg 26 (.load none (.t 25)),rg 27 (.build [(.i .i64 0),(.i .i64 0),(.sl [] .nl)] [(0,1,(.t 16)),(1,1,(.t 21)),(2,1,(.t 26))]),rg 28 (.bsl 3 [(.i .i64 0),(.i .i64 0),(.sl [] .nl)] 1 [(0,(.t 27))])]
 [rg 29 (.app 3 (.t 11) (.t 28)),mv 3 29]))
 (.reg [mv 9 4,rg 10 (.bin .add (.t 9) (.c (.i .i64 1))),mv 4 10])))
 (.norm false [0,3,4]))
def b17:AX:=
 (.seq
 (.reg [rg 2 (.mov (.c (.sl [] .nl)))])
 (.seq
 (.note (.reg [rg 3 (.mov (.c (.sl [] .nl)))]) (.nil 3 3))
 (.seq
 (.seq
 (.reg [rg 4 (.mov (.c (.i .i64 0)))])
 (.lp 0 (.norm false [0,3,4]) l17_0 (.norm false [3])))
 (.seq
 (.reg [mv 30 3,mv 2 30])
 (.pre (.norm false [2]) .ret)))))
class CLaw17 (T:Tbl):Prop where
 h13:T 13=some ⟨1,31,[.t 2],b13,none,false⟩
 h17:T 17=some ⟨1,31,[.t 2],b17,none,false⟩
section
variable{T:Tbl}[CLaw17 T]{d:Option Nat}{st:St}{xs:List AV}{ps:List Opd}{e:Env}{h:Heap}{ol:List Heap}
@[simp] theorem x13:callX (orc T) T 13 xs d st=cP T 13 false xs d st:=zaa CLaw17.h13
@[simp] theorem y13:opD (orc T) T (.call 13 ps) e h ol=dP T 13 false ps e:=za0 CLaw17.h13
theorem f13(xs:List AV)(hn:xs.length=1):callF T 13 xs=retF [.t 2] false (evX (orc T) T 0 b13 ⟨argEnv xs,[],1⟩):=zab CLaw17.h13 hn
@[simp] theorem x17:callX (orc T) T 17 xs d st=cP T 17 false xs d st:=zaa CLaw17.h17
@[simp] theorem y17:opD (orc T) T (.call 17 ps) e h ol=dP T 17 false ps e:=za0 CLaw17.h17
theorem f17(xs:List AV)(hn:xs.length=1):callF T 17 xs=retF [.t 2] false (evX (orc T) T 0 b17 ⟨argEnv xs,[],1⟩):=zab CLaw17.h17 hn
end
def b485:AX:=
 (.seq
 (.reg [rg 3 (.xop (.box 2) [(.t 0)]),rg 6 (.mov (.c (.b false)))])
 (.seq
 (.reg [mv 7 1,rg 8 (.bin .geq (.t 7) (.c (.i .i64 1))),mv 9 8,gd 10 9 true (.mov (.t 1)),gd 11 9 true (.bin .leq (.t 10) (.c (.i .i64 6))),rg 12 (.pick (.t 9) (.t 11) (.c (.b false))),mv 13 12,gd 14 13 true (.mov (.t 2)),gd 15 13 true (.bin .geq (.t 14) (.c (.i .i64 0))),rg 16 (.pick (.t 13) (.t 15) (.c (.b false))),mv 17 16,gd 18 17 true (.mov (.t 2)),gd 19 17 true (.bin .leq (.t 18) (.c (.i .i64 6))),rg 20 (.pick (.t 17) (.t 19) (.c (.b false))),mv 21 20,gd 22 21 true (.fad 1 (.t 3)),gd 23 21 true (.load none (.t 22)),gd 24 21 true (.len (.t 23)),gd 25 21 true (.mov (.t 1)),gd 26 21 true (.bin .eql (.t 24) (.t 25)),rg 27 (.pick (.t 21) (.t 26) (.c (.b false))),mv 28 27,gd 29 28 true (.fad 0 (.t 3)),gd 30 28 true (.load none (.t 29)),gd 31 28 true (.len (.t 30)),gd 32 28 true (.bin .leq (.t 31) (.c (.i .i64 10))),rg 33 (.pick (.t 28) (.t 32) (.c (.b false))),mv 34 33,gd 35 34 true (.load (some 2) (.t 3)),gd 36 34 true (.call 491 [(.t 35)]),gd 37 34 true (.bin .leq (.t 36) (.c (.i .i64 300))),rg 38 (.pick (.t 34) (.t 37) (.c (.b false))),mv 6 38])
 (.pre (.norm false [6]) .ret)))
def b486:AX:=
 (.seq
 (.reg [rg 2 (.mov (.c (.b false)))])
 (.seq
 (.seq
 (.reg [mv 3 0])
 (.block 0
 (.seq
 (.seq
 (.reg [rg 5 (.bin .eql (.t 3) (.c (.s [116]))),mv 4 5])
 (.cond (.t 4)
 .skip
 (.seq
 (.reg [rg 6 (.bin .eql (.t 3) (.c (.s [121]))),mv 4 6])
 (.cond (.t 4)
 .skip
 (.seq
 (.reg [rg 7 (.bin .eql (.t 3) (.c (.s [112]))),mv 4 7])
 (.cond (.t 4)
 .skip
 (.reg [rg 8 (.bin .eql (.t 3) (.c (.s [108,101,116]))),mv 4 8])))))))
 (.cond (.t 4)
 (.seq
 (.reg [rg 2 (.mov (.c (.b false)))])
 (.pre (.norm false [2]) .ret))
 .skip))))
 (.seq
 (.reg [mv 9 0,rg 10 (.build [(.i .i64 0),(.s []),(.i .i64 0)] [(0,1,(.c (.i .i64 2))),(1,1,(.t 9))]),rg 11 (.call 172 [(.t 10)]),mv 2 11])
 (.pre (.norm false [2]) .ret))))
def l487_0:AX:=
 (.note
 (.seq
 (.reg [rg 8 (.bin .lss (.t 7) (.t 6))])
 (.seq
 (.cond (.t 8)
 .skip
 (.exit 0))
 (.seq
 (.block 1
 (.seq
 (.reg [mv 9 7,mv 5 9])
 (.seq
 (.drawT [mv 10 0,mv 11 5,rg 12 (.iad 2 (.t 10) (.t 11)),rg 13 (.fad 0 (.t 12)),rg 14 (.load none (.t 13)),mv 15 0,mv 16 1,rg 17 (.iad 2 (.t 15) (.t 16)),rg 18 (.fad 0 (.t 17)),rg 19 (.load none (.t 18))]
 [rg 20 (.bin .eql (.t 14) (.t 19))])
 (.cond (.t 20)
 (.seq
 (.reg [rg 4 (.mov (.c (.b true)))])
 (.pre (.norm false [4]) .ret))
 .skip))))
 (.reg [rg 21 (.bin .add (.t 7) (.c (.i .i64 1))),mv 7 21]))))
 (.norm false [0,1,6,7]))
def b487:AX:=
 (.seq
 (.reg [rg 4 (.mov (.c (.b false)))])
 (.seq
 (.seq
 (.reg [mv 6 1,rg 7 (.mov (.c (.i .i64 0)))])
 (.lp 0 (.norm false [0,1,6,7]) l487_0 (.norm false [])))
 (.seq
 (.reg [rg 4 (.mov (.c (.b false)))])
 (.pre (.norm false [4]) .ret))))
def b488:AX:=
 (.seq
 (.reg [rg 10 (.alloc [(.i .i64 0),(.i .i64 0),(.i .i64 0),(.i .i64 0)])])
 (.seq
 (.reg [mv 12 0,mv 13 2,mv 14 3,mv 15 4,rg 16 (.call 46 [(.t 12),(.t 13),(.t 14),(.t 15)]),mv 11 16])
 (.seq
 (.seq
 (.reg [mv 17 11,rg 18 (.bin .lss (.t 17) (.c (.i .i64 0))),mv 19 18,gd 20 19 true (.mov (.t 0)),gd 21 19 true (.call 492 [(.t 20)]),gd 22 19 true (.bin .gtr (.t 21) (.c (.i .i64 40))),rg 23 (.pick (.t 19) (.t 22) (.c (.b false)))])
 (.cond (.t 23)
 (.reg [mv 24 0,rg 25 (.len (.t 24)),mv 11 25])
 .skip))
 (.seq
 (.seq
 (.reg [mv 26 11,rg 27 (.bin .lss (.t 26) (.c (.i .i64 0)))])
 (.cond (.t 27)
 (.seq
 (.reg [rg 28 (.build [(.i .i64 0),(.i .i64 0),(.i .i64 0),(.i .i64 0)] []),so (.store 4 (.t 10) (.t 28))])
 (.pre (.norm false [10]) .ret))
 .skip))
 (.seq
 (.reg [mv 29 1,mv 30 11,rg 31 (.build [(.i .i64 0),(.i .i64 0),(.i .i64 0),(.i .i64 0)] [(0,1,(.c (.i .i64 2))),(1,1,(.t 29)),(3,1,(.t 30))]),so (.store 4 (.t 10) (.t 31))])
 (.pre (.norm false [10]) .ret))))))
def l477_0:AX:=
 (.note
 (.seq
 (.reg [rg 23 (.bin .lss (.t 22) (.t 21))])
 (.seq
 (.cond (.t 23)
 .skip
 (.exit 0))
 (.seq
 (.block 1
 (.seq
 (.reg [mv 24 22,rg 25 (.iad 2 (.t 20) (.t 22)),rg 26 (.load (some 2) (.t 25)),rg 8 (.alloc [(.s []),(.sl [] .nl)]),mv 7 24,so (.store 2 (.t 8) (.t 26))])
 (.seq
 (.seq
 (.reg [rg 27 (.fad 0 (.t 8)),rg 28 (.load none (.t 27)),rg 29 (.call 486 [(.t 28)]),rg 30 (.un .not (.t 29)),mv 31 30,gd 32 31 false (.fad 0 (.t 3)),gd 33 31 false (.load none (.t 32)),gd 34 31 false (.mov (.t 7)),gd 35 31 false (.call 487 [(.t 33),(.t 34)]),rg 36 (.pick (.t 31) (.c (.b true)) (.t 35))])
 (.cond (.t 36)
 (.seq
 (.reg [mv 37 7,rg 38 (.bin .add (.t 37) (.c (.i .i64 1))),rg 39 (.build [(.i .i64 0),(.i .i64 0),(.i .i64 0),(.i .i64 0)] [(0,1,(.c (.i .i64 2))),(1,1,(.t 38)),(2,1,(.c (.i .i64 1)))]),so (.store 4 (.t 6) (.t 39))])
 (.pre (.norm false [6]) .ret))
 .skip))
 (.seq
 (.reg [rg 40 (.fad 1 (.t 8)),rg 41 (.load none (.t 40)),mv 42 7,rg 43 (.bin .add (.t 42) (.c (.i .i64 1))),mv 44 1,mv 45 2,mv 46 7,rg 47 (.call 488 [(.t 41),(.t 43),(.t 44),(.t 45),(.t 46)]),rg 9 (.alloc [(.i .i64 0),(.i .i64 0),(.i .i64 0),(.i .i64 0)]),so (.store 4 (.t 9) (.t 47))])
 (.seq
 (.reg [rg 48 (.load (some 4) (.t 9)),rg 49 (.build [(.i .i64 0),(.i .i64 0),(.i .i64 0),(.i .i64 0)] []),rg 50 (.eqs true [(0,.int),(1,.int),(2,.int),(3,.int)] (.t 48) (.t 49))])
 (.cond (.t 50)
 (.seq
 (.reg [rg 51 (.load (some 4) (.t 9)),so (.store 4 (.t 6) (.t 51))])
 (.pre (.norm false [6]) .ret))
 .skip))))))
 (.reg [rg 52 (.bin .add (.t 22) (.c (.i .i64 1))),mv 22 52]))))
 (.norm false [1,2,3,6,20,21,22]))
def l477_1:AX:=
 (.note
 (.seq
 (.reg [rg 57 (.bin .lss (.t 56) (.t 55))])
 (.seq
 (.cond (.t 57)
 .skip
 (.exit 2))
 (.seq
 (.block 3
 (.seq
 (.reg [mv 58 56,rg 59 (.iad 1 (.t 54) (.t 56)),rg 60 (.load none (.t 59)),mv 10 58,mv 11 60])
 (.seq
 (.reg [mv 61 11,rg 62 (.fad 0 (.t 3)),rg 63 (.load none (.t 62)),rg 64 (.len (.t 63)),mv 65 10,rg 66 (.bin .add (.t 64) (.t 65)),rg 67 (.bin .add (.t 66) (.c (.i .i64 1))),mv 68 1,mv 69 2,rg 70 (.fad 0 (.t 3)),rg 71 (.load none (.t 70)),rg 72 (.len (.t 71)),rg 73 (.call 488 [(.t 61),(.t 67),(.t 68),(.t 69),(.t 72)]),rg 12 (.alloc [(.i .i64 0),(.i .i64 0),(.i .i64 0),(.i .i64 0)]),so (.store 4 (.t 12) (.t 73))])
 (.seq
 (.reg [rg 74 (.load (some 4) (.t 12)),rg 75 (.build [(.i .i64 0),(.i .i64 0),(.i .i64 0),(.i .i64 0)] []),rg 76 (.eqs true [(0,.int),(1,.int),(2,.int),(3,.int)] (.t 74) (.t 75))])
 (.cond (.t 76)
 (.seq
 (.reg [rg 77 (.load (some 4) (.t 12)),so (.store 4 (.t 6) (.t 77))])
 (.pre (.norm false [6]) .ret))
 .skip)))))
 (.reg [rg 78 (.bin .add (.t 56) (.c (.i .i64 1))),mv 56 78]))))
 (.norm false [1,2,3,6,54,55,56]))
def b477:AX:=
 (.seq
 (.reg [rg 3 (.xop (.box 2) [(.t 0)]),rg 6 (.alloc [(.i .i64 0),(.i .i64 0),(.i .i64 0),(.i .i64 0)])])
 (.seq
 (.seq
 (.reg [rg 13 (.load (some 2) (.t 3)),mv 14 1,mv 15 2,rg 16 (.call 485 [(.t 13),(.t 14),(.t 15)]),rg 17 (.un .not (.t 16))])
 (.cond (.t 17)
 (.seq
 (.reg [rg 18 (.build [(.i .i64 0),(.i .i64 0),(.i .i64 0),(.i .i64 0)] [(0,1,(.c (.i .i64 2)))]),so (.store 4 (.t 6) (.t 18))])
 (.pre (.norm false [6]) .ret))
 .skip))
 (.seq
 (.seq
 (.reg [rg 19 (.fad 0 (.t 3)),rg 20 (.load none (.t 19)),rg 21 (.len (.t 20)),rg 22 (.mov (.c (.i .i64 0)))])
 (.lp 0 (.norm false [1,2,3,6,20,21,22]) l477_0 (.norm false [1,2,3,6])))
 (.seq
 (.seq
 (.reg [rg 53 (.fad 1 (.t 3)),rg 54 (.load none (.t 53)),rg 55 (.len (.t 54)),rg 56 (.mov (.c (.i .i64 0)))])
 (.lp 2 (.norm false [1,2,3,6,54,55,56]) l477_1 (.norm false [6])))
 (.seq
 (.reg [rg 79 (.build [(.i .i64 0),(.i .i64 0),(.i .i64 0),(.i .i64 0)] []),so (.store 4 (.t 6) (.t 79))])
 (.pre (.norm false [6]) .ret))))))
class CCheck (T:Tbl):Prop where
 h485:T 485=some ⟨3,39,[.t 6],b485,none,false⟩
 h486:T 486=some ⟨1,12,[.t 2],b486,none,false⟩
 h487:T 487=some ⟨2,22,[.t 4],b487,none,false⟩
 h488:T 488=some ⟨5,32,[.cell 10 (some 4)],b488,none,false⟩
 h477:T 477=some ⟨3,80,[.cell 6 (some 4)],b477,none,false⟩
section
variable{T:Tbl}[CCheck T]{d:Option Nat}{st:St}{xs:List AV}{ps:List Opd}{e:Env}{h:Heap}{ol:List Heap}
@[simp] theorem x485:callX (orc T) T 485 xs d st=cP T 485 false xs d st:=zaa CCheck.h485
theorem f485(xs:List AV)(hn:xs.length=3):callF T 485 xs=retF [.t 6] false (evX (orc T) T 0 b485 ⟨argEnv xs,[],1⟩):=zab CCheck.h485 hn
@[simp] theorem x486:callX (orc T) T 486 xs d st=cP T 486 false xs d st:=zaa CCheck.h486
theorem f486(xs:List AV)(hn:xs.length=1):callF T 486 xs=retF [.t 2] false (evX (orc T) T 0 b486 ⟨argEnv xs,[],1⟩):=zab CCheck.h486 hn
@[simp] theorem x487:callX (orc T) T 487 xs d st=cP T 487 false xs d st:=zaa CCheck.h487
theorem f487(xs:List AV)(hn:xs.length=2):callF T 487 xs=retF [.t 4] false (evX (orc T) T 0 b487 ⟨argEnv xs,[],1⟩):=zab CCheck.h487 hn
@[simp] theorem x488:callX (orc T) T 488 xs d st=cP T 488 false xs d st:=zaa CCheck.h488
theorem f488(xs:List AV)(hn:xs.length=5):callF T 488 xs=retF [.cell 10 (some 4)] false (evX (orc T) T 0 b488 ⟨argEnv xs,[],1⟩):=zab CCheck.h488 hn
@[simp] theorem x477:callX (orc T) T 477 xs d st=cP T 477 false xs d st:=zaa CCheck.h477
theorem f477(xs:List AV)(hn:xs.length=3):callF T 477 xs=retF [.cell 6 (some 4)] false (evX (orc T) T 0 b477 ⟨argEnv xs,[],1⟩):=zab CCheck.h477 hn
end
def isD(c:UInt8):Bool:=decide (48≤c.toNat)&&decide (c.toNat≤57)
def isL(c:UInt8):Bool:=decide (97≤c.toNat)&&decide (c.toNat≤122) || decide (65≤c.toNat)&&decide (c.toNat≤90) || decide (c.toNat=95)
def signB:List UInt8:=[43,45,42,47,94,40,41,91,93,44,59,61]
def isS(c:UInt8):Bool:=signB.contains c
def kindN(c:UInt8):Nat:=if isD c then 1 else if isL c then 2 else if isS c then 3 else 0
def moreN(k:Nat)(c:UInt8):Bool:=decide (k=1)&&isD c || decide (k=2)&&(isL c || isD c)
def mostN(k:Nat):Nat:=if k=1 then 60 else if k=2 then 12 else 1
theorem zdb(k:Nat):1≤mostN k:=by
 grind[mostN]
def isB(c:UInt8):Bool:=decide (c=32) || decide (c=9) || decide (c=10) || decide (c=13)
abbrev Wd:=Nat×List UInt8×Nat
def skipC:Bool→List UInt8→Nat
 | _,[]=>0
 | note,c::r=>
  let note':=if c=35 then true else if c=10 then false else note
  if (note' || isB c)=true then 1+skipC note' r else 0
theorem zn6:∀(note:Bool) (l:List UInt8),skipC note l≤l.length
 | _,[]=>Nat.le_refl _
 | note,c::r=>by
  by_cases h:((if c=35 then true else if c=10 then false else note) || isB c)=true
  ·have:=zn6 (if c=35 then true else if c=10 then false else note) r
   simp only[skipC,h,if_true,List.length_cons]
   omega
  ·simp only[skipC,h,if_false,Bool.false_eq_true,Nat.zero_le]
def firstN(k:Nat)(r:List UInt8):Nat:=1+(r.takeWhile (moreN k)).length
def scanL(l:List UInt8)(i:Nat)(acc:List Wd):Except Nat (List Wd):=
 match l with
 | []=>.ok acc
 | c::r=>
  if kindN c=0 then .error i
  else if mostN (kindN c)<firstN (kindN c) r then .error (i+mostN (kindN c))
  else scanL ((r.drop (firstN (kindN c) r-1)).drop (skipC false (r.drop (firstN (kindN c) r-1)))) (i+firstN (kindN c) r+skipC false (r.drop (firstN (kindN c) r-1)))
   (acc++[(kindN c,(c::r).take (firstN (kindN c) r),i)])
termination_by l.length
decreasing_by grind
theorem ze3(c:UInt8)(r:List UInt8)(i:Nat)(acc:List Wd):scanL (c::r) i acc =
  if kindN c=0 then .error i
  else if mostN (kindN c)<firstN (kindN c) r then .error (i+mostN (kindN c))
  else scanL ((r.drop (firstN (kindN c) r-1)).drop (skipC false (r.drop (firstN (kindN c) r-1)))) (i+firstN (kindN c) r+skipC false (r.drop (firstN (kindN c) r-1)))
   (acc++[(kindN c,(c::r).take (firstN (kindN c) r),i)]):=by rw[scanL]
theorem zen(i:Nat)(acc:List Wd):scanL [] i acc=.ok acc:=by rw[scanL]
def stepWd(c:UInt8)(i:Nat)(acc:List Wd):List Wd:=
 match acc.getLast? with
 | some (k,t,a)=>if a+t.length=i∧moreN k c=true then acc.dropLast++[(k,t++[c],a)] else acc++[(kindN c,[c],i)]
 | none=>acc++[(kindN c,[c],i)]
def badWd(acc:List Wd):Bool:=
 match acc.getLast? with
 | some (k,t,_)=>decide (k=0) || decide (mostN k<t.length)
 | none=>false
def refL:List UInt8→Nat→Bool→List Wd→Except Nat (List Wd)
 | [],_,_,acc=>.ok acc
 | c::r,i,note,acc=>
  let note':=if c=35 then true else if c=10 then false else note
  if (note' || isB c)=true then refL r (i+1) note' acc
  else if badWd (stepWd c i acc)=true then .error i
  else refL r (i+1) note' (stepWd c i acc)
theorem zg2:∀(l:List UInt8) (i:Nat) (note:Bool) (acc:List Wd),refL l i note acc=refL (l.drop (skipC note l)) (i+skipC note l) false acc
 | [],_,_,_=>rfl
 | c::r,i,note,acc=>by
  by_cases h:((if c=35 then true else if c=10 then false else note) || isB c)=true
  ·have ih:=zg2 r (i+1) (if c=35 then true else if c=10 then false else note) acc
   simp only[refL,skipC,h,if_true]
   rw[ih,Nat.add_comm 1,List.drop_succ_cons,Nat.add_assoc i 1,Nat.add_comm 1]
  ·have h':=h
   simp only[Bool.or_eq_true,not_or,Bool.not_eq_true]at h'
   obtain⟨h1,h2⟩:=h'
   have h3:note=false:=by
    by_cases h35:c=35
    ·simp[h35]at h1
    ·by_cases h10:c=10
     ·subst h10;simp[isB]at h2
     ·simpa[h35,h10]using h1
   subst h3
   simp only[skipC,h,if_false,List.drop_zero,Nat.add_zero,Bool.false_eq_true]
theorem zvb{k:Nat}{c:UInt8}(h:moreN k c=true):(isL c=true∨isD c=true):=by
 grind[moreN]
theorem z17{c:UInt8}{n:Nat}(h:c.toNat≠n)(hn:n<256):c≠UInt8.ofNat n:=fun e=>h (by simp_all)
theorem zp4{c:UInt8}(h:isL c=true∨isD c=true):c≠35∧c≠10∧isB c=false:=by
 have h1:48≤c.toNat:=by
  grind[isL,isD]
 have e (n:Nat) (hn:n<48):c≠UInt8.ofNat n:=z17 (by omega) (by omega)
 refine⟨e 35 (by decide),e 10 (by decide),?_⟩
 simp only[isB,Bool.or_eq_false_iff,decide_eq_false_iff_not]
 exact⟨⟨⟨e 32 (by decide),e 9 (by decide)⟩,e 10 (by decide)⟩,e 13 (by decide)⟩
theorem zn7(k a:Nat)(acc:List Wd)(hk:k≠0):∀(r t:List UInt8),t.length≤mostN k →
  refL r (a+t.length) false (acc++[(k,t,a)]) =
   if mostN k<t.length+(r.takeWhile (moreN k)).length then .error (a+mostN k)
   else refL (r.drop (r.takeWhile (moreN k)).length) (a+t.length+(r.takeWhile (moreN k)).length) false (acc++[(k,t++r.takeWhile (moreN k),a)])
 | [],t,ht=>by
  rw[if_neg (by simp_all)]
  simp
 | c::r,t,ht=>by
  by_cases hc:moreN k c=true
  ·obtain⟨h1,h2,h3⟩:=zp4 (zvb hc)
   rw[List.takeWhile_cons_of_pos hc]
   have hs:stepWd c (a+t.length) (acc++[(k,t,a)])=acc++[(k,t++[c],a)]:=by
    simp[stepWd,hc]
   have hb:badWd (acc++[(k,t++[c],a)])=decide (mostN k<t.length+1):=by
    simp[badWd,hk]
   conv=>lhs;unfold refL
   simp only[h1,h2,h3,if_false,Bool.or_self,Bool.false_eq_true,hs,hb,decide_eq_true_eq]
   by_cases hm:mostN k<t.length+1
   ·grind
   ·have ih:=zn7 k a acc hk r (t++[c]) (by grind)
    grind
  grind[List.takeWhile_cons_of_neg]
theorem zk8(l:List UInt8):∀c r,l.drop (skipC false l)=c::r→c≠35∧isB c=false:=by
 have key:∀(l:List UInt8) (note:Bool) c r,l.drop (skipC note l)=c::r→c≠35∧isB c=false:=by
  intro l
  induction l with
  | nil=>grind
  | cons x l ih=>
   grind[skipC]
 grind
theorem ztc(p:UInt8→Bool):∀r:List UInt8,r.take (r.takeWhile p).length=r.takeWhile p
 | []=>rfl
 | c::r=>by
  by_cases h:p c=true
  ·rw[List.takeWhile_cons_of_pos h,List.length_cons,List.take_succ_cons,ztc p r]
  ·rw[List.takeWhile_cons_of_neg h];rfl
theorem ztd(p:UInt8→Bool):∀r:List UInt8,r.drop (r.takeWhile p).length=r.dropWhile p
 | []=>rfl
 | c::r=>by
  by_cases h:p c=true
  ·rw[List.takeWhile_cons_of_pos h,List.length_cons,List.drop_succ_cons,ztd p r,List.dropWhile_cons_of_pos h]
  ·rw[List.takeWhile_cons_of_neg h,List.dropWhile_cons_of_neg h];rfl
def Fresh(acc:List Wd)(i:Nat)(l:List UInt8):Prop:=∀k t a,acc.getLast? = some (k,t,a)→a+t.length=i→∀c r,l=c::r→moreN k c=false
theorem zte:∀(n:Nat) (l:List UInt8) (i:Nat) (acc:List Wd),l.length=n→Fresh acc i l→(∀c r,l=c::r→c≠35∧isB c=false) →
  refL l i false acc=scanL l i acc:=by
 intro n
 induction n using Nat.strongRecOn with
 | _ n ih=>
  intro l i acc hl hf hp
  cases l with
  | nil=>unfold scanL;rfl
  | cons c r=>
   obtain⟨h1,h2⟩:=hp c r rfl
   have h3:c≠10:=by intro h;subst h;simp[isB]at h2
   have hs:stepWd c i acc=acc++[(kindN c,[c],i)]:=by
    unfold stepWd
    split
    ·rename_i k t a hlast
     rw[if_neg]
     rintro⟨h4,h5⟩
     rw[hf k t a hlast h4 c r rfl]at h5
     grind
    ·rfl
   have hb:badWd (acc++[(kindN c,[c],i)])=decide (kindN c=0):=by
    grind[zdb,badWd]
   conv=>lhs;unfold refL
   conv=>rhs;unfold scanL
   simp only[h1,h2,h3,if_false,Bool.or_self,Bool.false_eq_true,hs,hb,decide_eq_true_eq]
   by_cases hk:kindN c=0
   ·grind
   ·simp only[hk,if_false]
    have hmost:=zdb (kindN c)
    have hrun:=zn7 (kindN c) i acc hk r [c] (by omega)
    simp only[List.length_cons,List.length_nil,Nat.zero_add,List.singleton_append]at hrun
    rw[hrun]
    unfold firstN
    by_cases hm:mostN (kindN c)<1+(List.takeWhile (moreN (kindN c)) r).length
    ·rw[if_pos hm,if_pos hm]
    ·rw[if_neg hm,if_neg hm]
     obtain⟨x,hx⟩:∃x,x=(List.takeWhile (moreN (kindN c)) r).length:=⟨_,rfl⟩
     have htk:r.take x=List.takeWhile (moreN (kindN c)) r:=by rw[hx,ztc]
     rw[←hx,zg2,Nat.add_comm 1 x,List.take_succ_cons,htk,Nat.add_assoc i 1 x,Nat.add_comm 1 x]
     refine ih _ ?_ _ _ _ rfl ?_ ?_
     ·grind
     ·intro k t a hlast hat c' r' hl'
      simp only[List.getLast?_append,List.getLast?_singleton,Option.some_or,Option.some.injEq,Prod.mk.injEq]at hlast
      obtain⟨rfl,rfl,rfl⟩:=hlast
      simp only[List.length_cons,←hx]at hat
      grind[ztd,List.head?_dropWhile_not]
     ·exact zk8 _
theorem ztf(l:List UInt8):refL l 0 false []=scanL (l.drop (skipC false l)) (skipC false l) []:=by
 rw[zg2,Nat.zero_add]
 exact zte _ _ _ _ rfl (fun _ _ _ h=>by cases h) (zk8 l)
def prim187:List AV→Option AV
 | [.i .u8 n]=>if 0≤n∧n<256 then some (.b (isS (UInt8.ofNat n.toNat))) else none
 | _=>none
theorem zp5(c:UInt8):prim187 [u8 c.toNat]=some (.b (isS c)):=by
 have:=c.toNat_lt
 simp only[prim187,u8]
 rw[if_pos ⟨by omega,by omega⟩]
 simp
def prim184:List AV→Option AV
 | [.s l,.s [c]]=>if l.length≤1000000 then some (.tup [.s (l.takeWhile (· != c)),.s ((l.dropWhile (· != c)).drop 1),.b (l.contains c)]) else none
 | _=>none
def textOf:List AV→Option (List UInt8)
 | [.s l]=>if l.length≤10000 then some l else none
 | _=>none
def prim183:List AV→Option AV
 | [.sl els .an,.s sep]=>if els.length≤1000∧sep.length≤100 then (els.mapM textOf).map fun ts=>.s (List.intercalate sep ts) else none
 | _=>none
def rowsT(l:List (List UInt8)):List (List AV):=l.map fun s=>[.s s]
class CJoin (T:Tbl):Prop where
def b185:AX:=
 (.seq
 (.reg [rg 2 (.mov (.c (.b false)))])
 (.seq
 (.reg [mv 3 0,rg 4 (.bin .geq (.t 3) (.c (u8 48))),mv 5 4,gd 6 5 true (.mov (.t 0)),gd 7 5 true (.bin .leq (.t 6) (.c (u8 57))),rg 8 (.pick (.t 5) (.t 7) (.c (.b false))),mv 2 8])
 (.pre (.norm false [2]) .ret)))
def b186:AX:=
 (.seq
 (.reg [rg 2 (.mov (.c (.b false)))])
 (.seq
 (.reg [mv 3 0,rg 4 (.bin .geq (.t 3) (.c (u8 97))),mv 5 4,gd 6 5 true (.mov (.t 0)),gd 7 5 true (.bin .leq (.t 6) (.c (u8 122))),rg 8 (.pick (.t 5) (.t 7) (.c (.b false))),mv 9 8,gd 10 9 false (.mov (.t 0)),gd 11 9 false (.bin .geq (.t 10) (.c (u8 65))),gd 12 9 false (.mov (.t 11)),gd 13 12 true (.mov (.t 0)),gd 14 12 true (.bin .leq (.t 13) (.c (u8 90))),gd 15 9 false (.pick (.t 12) (.t 14) (.c (.b false))),rg 16 (.pick (.t 9) (.c (.b true)) (.t 15)),mv 17 16,gd 18 17 false (.mov (.t 0)),gd 19 17 false (.bin .eql (.t 18) (.c (u8 95))),rg 20 (.pick (.t 17) (.c (.b true)) (.t 19)),mv 2 20])
 (.pre (.norm false [2]) .ret)))
def b177:AX:=
 (.seq
 (.reg [rg 2 (.mov (.c (.i .i64 0)))])
 (.seq
 (.block 0
 (.seq
 (.reg [mv 4 0,rg 5 (.call 185 [(.t 4)]),mv 3 5])
 (.cond (.t 3)
 (.seq
 (.reg [rg 2 (.mov (.c (.i .i64 1)))])
 (.pre (.norm false [2]) .ret))
 (.seq
 (.reg [mv 7 0,rg 8 (.call 186 [(.t 7)]),mv 6 8])
 (.cond (.t 6)
 (.seq
 (.reg [rg 2 (.mov (.c (.i .i64 2)))])
 (.pre (.norm false [2]) .ret))
 (.seq
 (.reg [mv 10 0,rg 11 (.call 187 [(.t 10)]),mv 9 11])
 (.cond (.t 9)
 (.seq
 (.reg [rg 2 (.mov (.c (.i .i64 3)))])
 (.pre (.norm false [2]) .ret))
 .skip)))))))
 (.seq
 (.reg [rg 2 (.mov (.c (.i .i64 0)))])
 (.pre (.norm false [2]) .ret))))
def b188:AX:=
 (.seq
 (.reg [rg 4 (.mov (.c (.b false)))])
 (.seq
 (.reg [mv 5 0,rg 6 (.bin .eql (.t 5) (.c (.i .i64 1))),mv 7 6,gd 8 7 true (.mov (.t 1)),gd 9 7 true (.call 185 [(.t 8)]),rg 10 (.pick (.t 7) (.t 9) (.c (.b false))),mv 11 10,gd 12 11 false (.mov (.t 0)),gd 13 11 false (.bin .eql (.t 12) (.c (.i .i64 2))),gd 14 11 false (.mov (.t 13)),gd 15 14 true (.mov (.t 1)),gd 16 14 true (.call 186 [(.t 15)]),gd 17 14 true (.mov (.t 16)),gd 18 17 false (.mov (.t 1)),gd 19 17 false (.call 185 [(.t 18)]),gd 20 14 true (.pick (.t 17) (.c (.b true)) (.t 19)),gd 21 11 false (.pick (.t 14) (.t 20) (.c (.b false))),rg 22 (.pick (.t 11) (.c (.b true)) (.t 21)),mv 4 22])
 (.pre (.norm false [4]) .ret)))
def b179:AX:=
 (.seq
 (.reg [rg 2 (.mov (.c (.i .i64 0)))])
 (.seq
 (.seq
 (.reg [mv 3 0])
 (.block 0
 (.seq
 (.reg [rg 5 (.bin .eql (.t 3) (.c (.i .i64 1))),mv 4 5])
 (.cond (.t 4)
 (.seq
 (.reg [rg 2 (.mov (.c (.i .i64 60)))])
 (.pre (.norm false [2]) .ret))
 (.seq
 (.reg [rg 7 (.bin .eql (.t 3) (.c (.i .i64 2))),mv 6 7])
 (.cond (.t 6)
 (.seq
 (.reg [rg 2 (.mov (.c (.i .i64 12)))])
 (.pre (.norm false [2]) .ret))
 .skip))))))
 (.seq
 (.reg [rg 2 (.mov (.c (.i .i64 1)))])
 (.pre (.norm false [2]) .ret))))
def l178_0:AX:=
 (.note
 (.seq
 (.seq
 (.reg [mv 6 5,mv 7 0,rg 8 (.lens (.t 7)),rg 9 (.bin .lss (.t 6) (.t 8)),mv 10 9,gd 11 10 true (.mov (.t 1)),gd 12 10 true (.mov (.t 0)),gd 13 10 true (.mov (.t 5)),gd 14 10 true (.ixs (.t 12) (.t 13)),gd 15 10 true (.call 188 [(.t 11),(.t 14)]),rg 16 (.pick (.t 10) (.t 15) (.c (.b false)))])
 (.cond (.t 16)
 .skip
 (.exit 0)))
 (.block 1
 (.reg [mv 17 5,rg 18 (.bin .add (.t 17) (.c (.i .i64 1))),mv 5 18])))
 (.norm false [0,1,5]))
def b178:AX:=
 (.seq
 (.reg [rg 4 (.mov (.c (.i .i64 0)))])
 (.seq
 (.reg [rg 5 (.mov (.c (.i .i64 1)))])
 (.seq
 (.lp 0 (.norm false [0,1,5]) l178_0 (.norm false [5]))
 (.seq
 (.reg [mv 19 5,mv 4 19])
 (.pre (.norm false [4]) .ret)))))
def b172:AX:=
 (.seq
 (.reg [rg 1 (.xop (.box 3) [(.t 0)]),rg 2 (.mov (.c (.b false)))])
 (.seq
 (.seq
 (.drawT [rg 3 (.fad 1 (.t 1)),rg 4 (.load none (.t 3)),rg 5 (.bin .eql (.t 4) (.c (.s []))),mv 6 5,gd 7 6 false (.fad 0 (.t 1)),gd 8 6 false (.load none (.t 7)),gd 9 6 false (.bin .eql (.t 8) (.c (.i .i64 0))),rg 10 (.pick (.t 6) (.c (.b true)) (.t 9)),mv 11 10,gd 12 11 false (.fad 1 (.t 1)),gd 13 11 false (.load none (.t 12)),gd 14 11 false (.ixs (.t 13) (.c (.i .i64 0))),gd 15 11 false (.call 177 [(.t 14)]),gd 16 11 false (.fad 0 (.t 1)),gd 17 11 false (.load none (.t 16))]
 [gd 18 11 false (.bin .neq (.t 15) (.t 17)),rg 19 (.pick (.t 11) (.c (.b true)) (.t 18))])
 (.cond (.t 19)
 (.seq
 (.reg [rg 2 (.mov (.c (.b false)))])
 (.pre (.norm false [2]) .ret))
 .skip))
 (.seq
 (.drawT [rg 20 (.fad 1 (.t 1)),rg 21 (.load none (.t 20)),rg 22 (.fad 0 (.t 1)),rg 23 (.load none (.t 22)),rg 24 (.call 178 [(.t 21),(.t 23)]),rg 25 (.fad 1 (.t 1)),rg 26 (.load none (.t 25)),rg 27 (.lens (.t 26)),rg 28 (.bin .eql (.t 24) (.t 27)),mv 29 28,gd 30 29 true (.fad 1 (.t 1)),gd 31 29 true (.load none (.t 30)),gd 32 29 true (.lens (.t 31)),gd 33 29 true (.fad 0 (.t 1)),gd 34 29 true (.load none (.t 33)),gd 35 29 true (.call 179 [(.t 34)])]
 [gd 36 29 true (.bin .leq (.t 32) (.t 35)),rg 37 (.pick (.t 29) (.t 36) (.c (.b false))),mv 2 37])
 (.pre (.norm false [2]) .ret))))
class CLex (T:Tbl):Prop where
 h185:T 185=some ⟨1,9,[.t 2],b185,none,false⟩
 h186:T 186=some ⟨1,21,[.t 2],b186,none,false⟩
 h187:T 187=some ⟨0,0,[],.prim prim187,none,false⟩
 h177:T 177=some ⟨1,12,[.t 2],b177,none,false⟩
 h188:T 188=some ⟨2,23,[.t 4],b188,none,false⟩
 h179:T 179=some ⟨1,8,[.t 2],b179,none,false⟩
 h178:T 178=some ⟨2,20,[.t 4],b178,none,false⟩
 h172:T 172=some ⟨1,38,[.t 2],b172,none,false⟩
section
variable{T:Tbl}[CLex T]{d:Option Nat}{st:St}{xs:List AV}{ps:List Opd}{e:Env}{h:Heap}{ol:List Heap}
@[simp] theorem x185:callX (orc T) T 185 xs d st=cP T 185 false xs d st:=zaa CLex.h185
theorem f185(xs:List AV)(hn:xs.length=1):callF T 185 xs=retF [.t 2] false (evX (orc T) T 0 b185 ⟨argEnv xs,[],1⟩):=zab CLex.h185 hn
@[simp] theorem x186:callX (orc T) T 186 xs d st=cP T 186 false xs d st:=zaa CLex.h186
theorem f186(xs:List AV)(hn:xs.length=1):callF T 186 xs=retF [.t 2] false (evX (orc T) T 0 b186 ⟨argEnv xs,[],1⟩):=zab CLex.h186 hn
@[simp] theorem x187:callX (orc T) T 187 xs d st=cP T 187 false xs d st:=zaa CLex.h187
theorem p187(xs:List AV):callF T 187 xs=prim187 xs:=zh2 CLex.h187
@[simp] theorem y177:opD (orc T) T (.call 177 ps) e h ol=dP T 177 false ps e:=za0 CLex.h177
theorem f177(xs:List AV)(hn:xs.length=1):callF T 177 xs=retF [.t 2] false (evX (orc T) T 0 b177 ⟨argEnv xs,[],1⟩):=zab CLex.h177 hn
@[simp] theorem x188:callX (orc T) T 188 xs d st=cP T 188 false xs d st:=zaa CLex.h188
theorem f188(xs:List AV)(hn:xs.length=2):callF T 188 xs=retF [.t 4] false (evX (orc T) T 0 b188 ⟨argEnv xs,[],1⟩):=zab CLex.h188 hn
@[simp] theorem y179:opD (orc T) T (.call 179 ps) e h ol=dP T 179 false ps e:=za0 CLex.h179
theorem f179(xs:List AV)(hn:xs.length=1):callF T 179 xs=retF [.t 2] false (evX (orc T) T 0 b179 ⟨argEnv xs,[],1⟩):=zab CLex.h179 hn
@[simp] theorem y178:opD (orc T) T (.call 178 ps) e h ol=dP T 178 false ps e:=za0 CLex.h178
theorem f178(xs:List AV)(hn:xs.length=2):callF T 178 xs=retF [.t 4] false (evX (orc T) T 0 b178 ⟨argEnv xs,[],1⟩):=zab CLex.h178 hn
@[simp] theorem x172:callX (orc T) T 172 xs d st=cP T 172 false xs d st:=zaa CLex.h172
theorem f172(xs:List AV)(hn:xs.length=1):callF T 172 xs=retF [.t 2] false (evX (orc T) T 0 b172 ⟨argEnv xs,[],1⟩):=zab CLex.h172 hn
end
def b189:AX:=
 (.seq
 (.reg [rg 2 (.mov (.c (.b false)))])
 (.seq
 (.reg [mv 3 0,rg 4 (.bin .geq (.t 3) (.c (u8 48))),mv 5 4,gd 6 5 true (.mov (.t 0)),gd 7 5 true (.bin .leq (.t 6) (.c (u8 57))),rg 8 (.pick (.t 5) (.t 7) (.c (.b false))),mv 2 8])
 (.pre (.norm false [2]) .ret)))
def b190:AX:=
 (.seq
 (.reg [rg 2 (.mov (.c (.b false)))])
 (.seq
 (.reg [mv 3 0,rg 4 (.bin .geq (.t 3) (.c (u8 97))),mv 5 4,gd 6 5 true (.mov (.t 0)),gd 7 5 true (.bin .leq (.t 6) (.c (u8 122))),rg 8 (.pick (.t 5) (.t 7) (.c (.b false))),mv 9 8,gd 10 9 false (.mov (.t 0)),gd 11 9 false (.bin .geq (.t 10) (.c (u8 65))),gd 12 9 false (.mov (.t 11)),gd 13 12 true (.mov (.t 0)),gd 14 12 true (.bin .leq (.t 13) (.c (u8 90))),gd 15 9 false (.pick (.t 12) (.t 14) (.c (.b false))),rg 16 (.pick (.t 9) (.c (.b true)) (.t 15)),mv 17 16,gd 18 17 false (.mov (.t 0)),gd 19 17 false (.bin .eql (.t 18) (.c (u8 95))),rg 20 (.pick (.t 17) (.c (.b true)) (.t 19)),mv 2 20])
 (.pre (.norm false [2]) .ret)))
def l181_0:AX:=
 (.note
 (.seq
 (.seq
 (.reg [mv 9 4,mv 10 3,rg 11 (.lens (.t 10)),rg 12 (.bin .lss (.t 9) (.t 11))])
 (.cond (.t 12)
 .skip
 (.exit 0)))
 (.seq
 (.block 1
 (.seq
 (.reg [mv 15 3,mv 16 4,rg 17 (.ixs (.t 15) (.t 16)),mv 18 0,rg 19 (.bin .eql (.t 17) (.t 18))])
 (.cond (.t 19)
 (.seq
 (.reg [rg 2 (.mov (.c (.i .i64 3)))])
 (.pre (.norm false [2]) .ret))
 .skip)))
 (.reg [mv 13 4,rg 14 (.bin .add (.t 13) (.c (.i .i64 1))),mv 4 14])))
 (.norm false [0,3,4]))
def b181:AX:=
 (.seq
 (.reg [rg 2 (.mov (.c (.i .i64 0)))])
 (.seq
 (.seq
 (.reg [mv 5 0,rg 6 (.call 189 [(.t 5)])])
 (.cond (.t 6)
 (.seq
 (.reg [rg 2 (.mov (.c (.i .i64 1)))])
 (.pre (.norm false [2]) .ret))
 .skip))
 (.seq
 (.seq
 (.reg [mv 7 0,rg 8 (.call 190 [(.t 7)])])
 (.cond (.t 8)
 (.seq
 (.reg [rg 2 (.mov (.c (.i .i64 2)))])
 (.pre (.norm false [2]) .ret))
 .skip))
 (.seq
 (.reg [rg 3 (.mov (.c (.s [43,45,42,47,94,40,41,91,93,44,59,61])))])
 (.seq
 (.seq
 (.reg [rg 4 (.mov (.c (.i .i64 0)))])
 (.lp 0 (.norm false [0,3,4]) l181_0 (.norm false [])))
 (.seq
 (.reg [rg 2 (.mov (.c (.i .i64 0)))])
 (.pre (.norm false [2]) .ret)))))))
def b180:AX:=
 (.seq
 (.reg [rg 4 (.mov (.c (.b false)))])
 (.seq
 (.reg [mv 5 0,rg 6 (.bin .eql (.t 5) (.c (.i .i64 1))),mv 7 6,gd 8 7 true (.mov (.t 1)),gd 9 7 true (.call 189 [(.t 8)]),rg 10 (.pick (.t 7) (.t 9) (.c (.b false))),mv 11 10,gd 12 11 false (.mov (.t 0)),gd 13 11 false (.bin .eql (.t 12) (.c (.i .i64 2))),gd 14 11 false (.mov (.t 13)),gd 15 14 true (.mov (.t 1)),gd 16 14 true (.call 189 [(.t 15)]),gd 17 14 true (.mov (.t 16)),gd 18 17 false (.mov (.t 1)),gd 19 17 false (.call 190 [(.t 18)]),gd 20 14 true (.pick (.t 17) (.c (.b true)) (.t 19)),gd 21 11 false (.pick (.t 14) (.t 20) (.c (.b false))),rg 22 (.pick (.t 11) (.c (.b true)) (.t 21)),mv 4 22])
 (.pre (.norm false [4]) .ret)))
def b182:AX:=
 (.seq
 (.reg [rg 2 (.mov (.c (.i .i64 0)))])
 (.seq
 (.seq
 (.reg [mv 3 0,rg 4 (.bin .eql (.t 3) (.c (.i .i64 1)))])
 (.cond (.t 4)
 (.seq
 (.reg [rg 2 (.mov (.c (.i .i64 60)))])
 (.pre (.norm false [2]) .ret))
 .skip))
 (.seq
 (.seq
 (.reg [mv 5 0,rg 6 (.bin .eql (.t 5) (.c (.i .i64 2)))])
 (.cond (.t 6)
 (.seq
 (.reg [rg 2 (.mov (.c (.i .i64 12)))])
 (.pre (.norm false [2]) .ret))
 .skip))
 (.seq
 (.reg [rg 2 (.mov (.c (.i .i64 1)))])
 (.pre (.norm false [2]) .ret)))))
def l168_0:AX:=
 (.note
 (.seq
 (.seq
 (.reg [mv 14 6,mv 15 0,rg 16 (.lens (.t 15)),rg 17 (.bin .lss (.t 14) (.t 16))])
 (.cond (.t 17)
 .skip
 (.exit 0)))
 (.seq
 (.block 1
 (.seq
 (.reg [mv 20 0,mv 21 6,rg 22 (.ixs (.t 20) (.t 21)),mv 7 22])
 (.seq
 (.seq
 (.reg [mv 23 7,rg 24 (.bin .eql (.t 23) (.c (u8 10)))])
 (.cond (.t 24)
 (.reg [rg 5 (.mov (.c (.b false)))])
 .skip))
 (.seq
 (.seq
 (.reg [mv 25 7,rg 26 (.bin .eql (.t 25) (.c (u8 35)))])
 (.cond (.t 26)
 (.reg [rg 5 (.mov (.c (.b true)))])
 .skip))
 (.seq
 (.seq
 (.reg [mv 27 5,mv 28 27,gd 29 28 false (.mov (.t 7)),gd 30 28 false (.bin .eql (.t 29) (.c (u8 32))),rg 31 (.pick (.t 28) (.c (.b true)) (.t 30)),mv 32 31,gd 33 32 false (.mov (.t 7)),gd 34 32 false (.bin .eql (.t 33) (.c (u8 9))),rg 35 (.pick (.t 32) (.c (.b true)) (.t 34)),mv 36 35,gd 37 36 false (.mov (.t 7)),gd 38 36 false (.bin .eql (.t 37) (.c (u8 10))),rg 39 (.pick (.t 36) (.c (.b true)) (.t 38)),mv 40 39,gd 41 40 false (.mov (.t 7)),gd 42 40 false (.bin .eql (.t 41) (.c (u8 13))),rg 43 (.pick (.t 40) (.c (.b true)) (.t 42))])
 (.cond (.t 43)
 (.exit 1)
 .skip))
 (.seq
 (.reg [mv 44 4,rg 45 (.len (.t 44)),mv 8 45])
 (.seq
 (.seq
 (.drawT [mv 46 8,rg 47 (.bin .gtr (.t 46) (.c (.i .i64 0))),mv 48 47,gd 49 48 true (.mov (.t 4)),gd 50 48 true (.mov (.t 8)),gd 51 48 true (.bin .sub (.t 50) (.c (.i .i64 1))),gd 52 48 true (.iad 3 (.t 49) (.t 51)),gd 53 48 true (.fad 2 (.t 52)),gd 54 48 true (.load none (.t 53)),gd 55 48 true (.mov (.t 4)),gd 56 48 true (.mov (.t 8)),gd 57 48 true (.bin .sub (.t 56) (.c (.i .i64 1))),gd 58 48 true (.iad 3 (.t 55) (.t 57)),gd 59 48 true (.fad 1 (.t 58)),gd 60 48 true (.load none (.t 59)),gd 61 48 true (.lens (.t 60)),gd 62 48 true (.bin .add (.t 54) (.t 61)),gd 63 48 true (.mov (.t 6)),gd 64 48 true (.bin .eql (.t 62) (.t 63)),rg 65 (.pick (.t 48) (.t 64) (.c (.b false))),mv 66 65,gd 67 66 true (.mov (.t 4)),gd 68 66 true (.mov (.t 8)),gd 69 66 true (.bin .sub (.t 68) (.c (.i .i64 1))),gd 70 66 true (.iad 3 (.t 67) (.t 69)),gd 71 66 true (.fad 0 (.t 70)),gd 72 66 true (.load none (.t 71)),gd 73 66 true (.mov (.t 7))]
 [gd 74 66 true (.call 180 [(.t 72),(.t 73)]),rg 75 (.pick (.t 66) (.t 74) (.c (.b false)))])
 (.cond (.t 75)
 (.drawT [mv 76 4,mv 77 8,rg 78 (.bin .sub (.t 77) (.c (.i .i64 1))),rg 79 (.iad 3 (.t 76) (.t 78)),rg 80 (.fad 1 (.t 79)),rg 81 (.load none (.t 80)),mv 82 0,mv 83 6,mv 84 6,rg 85 (.bin .add (.t 84) (.c (.i .i64 1))),rg 86 (.slstr (.t 82) (some (.t 83)) (some (.t 85)))]
 [rg 87 (.bin .add (.t 81) (.t 86)),rg 88 (.iad 3 (.t 76) (.t 78)),rg 89 (.fad 1 (.t 88)),so (.store 1 (.t 89) (.t 87))])
 (.drawT [mv 90 4,mv 91 7,rg 92 (.call 181 [(.t 91)]),mv 93 0,mv 94 6,mv 95 6,rg 96 (.bin .add (.t 95) (.c (.i .i64 1))),rg 97 (.slstr (.t 93) (some (.t 94)) (some (.t 96))),mv 98 6,rg 99 (.build [(.i .i64 0),(.s []),(.i .i64 0)] [(0,1,(.t 92)),(1,1,(.t 97)),(2,1,(.t 98))]),rg 100 (.bsl 3 [(.i .i64 0),(.s []),(.i .i64 0)] 1 [(0,(.t 99))])]
 [rg 101 (.app 3 (.t 90) (.t 100)),mv 4 101])))
 (.seq
 (.reg [mv 102 4,mv 103 4,rg 104 (.len (.t 103)),rg 105 (.bin .sub (.t 104) (.c (.i .i64 1))),rg 106 (.iad 3 (.t 102) (.t 105)),rg 107 (.load (some 3) (.t 106)),rg 9 (.alloc [(.i .i64 0),(.s []),(.i .i64 0)]),so (.store 3 (.t 9) (.t 107))])
 (.seq
 (.drawT [rg 108 (.fad 0 (.t 9)),rg 109 (.load none (.t 108)),rg 110 (.bin .eql (.t 109) (.c (.i .i64 0))),mv 111 110,gd 112 111 false (.fad 1 (.t 9)),gd 113 111 false (.load none (.t 112)),gd 114 111 false (.lens (.t 113)),gd 115 111 false (.fad 0 (.t 9)),gd 116 111 false (.load none (.t 115)),gd 117 111 false (.call 182 [(.t 116)])]
 [gd 118 111 false (.bin .gtr (.t 114) (.t 117)),rg 119 (.pick (.t 111) (.c (.b true)) (.t 118))])
 (.cond (.t 119)
 (.seq
 (.reg [rg 120 (.bsl 3 [(.i .i64 0),(.s []),(.i .i64 0)] 0 []),mv 121 6,mv 2 120,mv 3 121])
 (.pre (.norm false [2,3]) .ret))
 .skip))))))))))
 (.reg [mv 18 6,rg 19 (.bin .add (.t 18) (.c (.i .i64 1))),mv 6 19])))
 (.norm false [0,4,5,6]))
def b168:AX:=
 (.seq
 (.reg [rg 2 (.mov (.c (.sl [] .nl))),rg 3 (.mov (.c (.i .i64 0)))])
 (.seq
 (.seq
 (.reg [mv 10 0,rg 11 (.lens (.t 10)),rg 12 (.bin .gtr (.t 11) (.c (.i .i64 4000)))])
 (.cond (.t 12)
 (.seq
 (.reg [rg 13 (.bsl 3 [(.i .i64 0),(.s []),(.i .i64 0)] 0 []),mv 2 13,rg 3 (.mov (.c (.i .i64 4000)))])
 (.pre (.norm false [2,3]) .ret))
 .skip))
 (.seq
 (.note (.reg [rg 4 (.mov (.c (.sl [] .nl)))]) (.nil 4 3))
 (.seq
 (.reg [rg 5 (.mov (.c (.b false)))])
 (.seq
 (.seq
 (.reg [rg 6 (.mov (.c (.i .i64 0)))])
 (.lp 0 (.norm false [0,4,5,6]) l168_0 (.norm false [4])))
 (.seq
 (.reg [mv 122 4,mv 2 122,rg 3 (.mov (.c (.i .i64 (-1))))])
 (.pre (.norm false [2,3]) .ret)))))))
def b173:AX:=
 (.seq
 (.reg [rg 1 (.xop (.box 3) [(.t 0)]),rg 2 (.mov (.c (.b false)))])
 (.seq
 (.reg [rg 6 (.fad 1 (.t 1)),rg 7 (.load none (.t 6)),rg 8 (.call 168 [(.t 7)]),mv 5 8,rg 9 (.ext (.t 5) 0),rg 10 (.ext (.t 5) 1),mv 3 9,mv 4 10])
 (.seq
 (.drawT [mv 11 4,rg 12 (.bin .lss (.t 11) (.c (.i .i64 0))),mv 13 12,gd 14 13 true (.mov (.t 3)),gd 15 13 true (.len (.t 14)),gd 16 13 true (.bin .eql (.t 15) (.c (.i .i64 1))),rg 17 (.pick (.t 13) (.t 16) (.c (.b false))),mv 18 17,gd 19 18 true (.mov (.t 3)),gd 20 18 true (.iad 3 (.t 19) (.c (.i .i64 0))),gd 21 18 true (.fad 0 (.t 20)),gd 22 18 true (.load none (.t 21)),gd 23 18 true (.fad 0 (.t 1)),gd 24 18 true (.load none (.t 23)),gd 25 18 true (.bin .eql (.t 22) (.t 24)),rg 26 (.pick (.t 18) (.t 25) (.c (.b false))),mv 27 26,gd 28 27 true (.mov (.t 3)),gd 29 27 true (.iad 3 (.t 28) (.c (.i .i64 0))),gd 30 27 true (.fad 1 (.t 29)),gd 31 27 true (.load none (.t 30)),gd 32 27 true (.fad 1 (.t 1)),gd 33 27 true (.load none (.t 32))]
 [gd 34 27 true (.bin .eql (.t 31) (.t 33)),rg 35 (.pick (.t 27) (.t 34) (.c (.b false))),mv 2 35])
 (.pre (.norm false [2]) .ret))))
class CRef16 (T:Tbl):Prop where
 h189:T 189=some ⟨1,9,[.t 2],b189,none,false⟩
 h190:T 190=some ⟨1,21,[.t 2],b190,none,false⟩
 h181:T 181=some ⟨1,20,[.t 2],b181,none,false⟩
 h180:T 180=some ⟨2,23,[.t 4],b180,none,false⟩
 h182:T 182=some ⟨1,7,[.t 2],b182,none,false⟩
 h168:T 168=some ⟨1,123,[.t 2,.t 3],b168,none,false⟩
 h173:T 173=some ⟨1,36,[.t 2],b173,none,false⟩
section
variable{T:Tbl}[CRef16 T]{d:Option Nat}{st:St}
@[simp] theorem x189(xs:List AV):callX (orc T) T 189 xs d st=cP T 189 false xs d st:=zaa CRef16.h189
theorem f189(xs:List AV)(hn:xs.length=1):callF T 189 xs=retF [.t 2] false (evX (orc T) T 0 b189 ⟨argEnv xs,[],1⟩):=zab CRef16.h189 hn
@[simp] theorem x190(xs:List AV):callX (orc T) T 190 xs d st=cP T 190 false xs d st:=zaa CRef16.h190
theorem f190(xs:List AV)(hn:xs.length=1):callF T 190 xs=retF [.t 2] false (evX (orc T) T 0 b190 ⟨argEnv xs,[],1⟩):=zab CRef16.h190 hn
@[simp] theorem y181{e:Env}{h:Heap}{older:List Heap}(args:List Opd):opD (orc T) T (.call 181 args) e h older=dR (callF T 181 ((args.map (ev e.get)).map (wkIf false))) (args.map (ev e.get)):=za0 CRef16.h181
theorem f181(xs:List AV)(hn:xs.length=1):callF T 181 xs=retF [.t 2] false (evX (orc T) T 0 b181 ⟨argEnv xs,[],1⟩):=zab CRef16.h181 hn
@[simp] theorem x180(xs:List AV):callX (orc T) T 180 xs d st=cP T 180 false xs d st:=zaa CRef16.h180
theorem f180(xs:List AV)(hn:xs.length=2):callF T 180 xs=retF [.t 4] false (evX (orc T) T 0 b180 ⟨argEnv xs,[],1⟩):=zab CRef16.h180 hn
@[simp] theorem y182{e:Env}{h:Heap}{older:List Heap}(args:List Opd):opD (orc T) T (.call 182 args) e h older=dR (callF T 182 ((args.map (ev e.get)).map (wkIf false))) (args.map (ev e.get)):=za0 CRef16.h182
theorem f182(xs:List AV)(hn:xs.length=1):callF T 182 xs=retF [.t 2] false (evX (orc T) T 0 b182 ⟨argEnv xs,[],1⟩):=zab CRef16.h182 hn
@[simp] theorem x168(xs:List AV):callX (orc T) T 168 xs d st=cP T 168 false xs d st:=zaa CRef16.h168
theorem f168(xs:List AV)(hn:xs.length=1):callF T 168 xs=retF [.t 2,.t 3] false (evX (orc T) T 0 b168 ⟨argEnv xs,[],1⟩):=zab CRef16.h168 hn
@[simp] theorem x173(xs:List AV):callX (orc T) T 173 xs d st=cP T 173 false xs d st:=zaa CRef16.h173
theorem f173(xs:List AV)(hn:xs.length=1):callF T 173 xs=retF [.t 2] false (evX (orc T) T 0 b173 ⟨argEnv xs,[],1⟩):=zab CRef16.h173 hn
end
def l478_0:AX:=
 (.note
 (.seq
 (.seq
 (.reg [mv 8 5,mv 9 4,rg 10 (.len (.t 9)),rg 11 (.bin .lss (.t 8) (.t 10))])
 (.cond (.t 11)
 .skip
 (.exit 0)))
 (.seq
 (.block 1
 (.reg [mv 14 3,mv 15 4,mv 16 5,rg 17 (.iad 1 (.t 15) (.t 16)),rg 18 (.load none (.t 17)),rg 19 (.len (.t 18)),rg 20 (.bin .add (.t 14) (.t 19)),mv 3 20]))
 (.reg [mv 12 5,rg 13 (.bin .add (.t 12) (.c (.i .i64 1))),mv 5 13])))
 (.norm false [3,4,5]))
def b478:AX:=
 (.seq
 (.reg [rg 1 (.xop (.box 2) [(.t 0)]),rg 2 (.mov (.c (.i .i64 0)))])
 (.seq
 (.reg [rg 3 (.mov (.c (.i .i64 0)))])
 (.seq
 (.reg [rg 6 (.load (some 2) (.t 1)),rg 7 (.call 479 [(.t 6)]),mv 4 7])
 (.seq
 (.seq
 (.reg [rg 5 (.mov (.c (.i .i64 0)))])
 (.lp 0 (.norm false [3,4,5]) l478_0 (.norm false [3])))
 (.seq
 (.reg [mv 21 3,mv 2 21])
 (.pre (.norm false [2]) .ret))))))
def l479_0:AX:=
 (.note
 (.seq
 (.seq
 (.reg [mv 5 4,rg 6 (.fad 0 (.t 1)),rg 7 (.load none (.t 6)),rg 8 (.len (.t 7)),rg 9 (.bin .lss (.t 5) (.t 8))])
 (.cond (.t 9)
 .skip
 (.exit 0)))
 (.seq
 (.block 1
 (.reg [mv 12 3,rg 13 (.fad 0 (.t 1)),rg 14 (.load none (.t 13)),mv 15 4,rg 16 (.iad 2 (.t 14) (.t 15)),rg 17 (.fad 1 (.t 16)),rg 18 (.load none (.t 17)),rg 19 (.bsl 1 [(.sl [] .nl)] 1 [(0,(.t 18))]),rg 20 (.app 1 (.t 12) (.t 19)),mv 3 20]))
 (.reg [mv 10 4,rg 11 (.bin .add (.t 10) (.c (.i .i64 1))),mv 4 11])))
 (.norm false [1,3,4]))
def b479:AX:=
 (.seq
 (.reg [rg 1 (.xop (.box 2) [(.t 0)]),rg 2 (.mov (.c (.sl [] .nl)))])
 (.seq
 (.note (.reg [rg 3 (.mov (.c (.sl [] .nl)))]) (.nil 3 1))
 (.seq
 (.seq
 (.reg [rg 4 (.mov (.c (.i .i64 0)))])
 (.lp 0 (.norm false [1,3,4]) l479_0 (.norm false [1,3])))
 (.seq
 (.reg [mv 21 3,rg 22 (.fad 1 (.t 1)),rg 23 (.load none (.t 22)),rg 24 (.app 1 (.t 21) (.t 23)),mv 2 24])
 (.pre (.norm false [2]) .ret)))))
def b481:AX:=
 (.seq
 (.reg [rg 2 (.mov (.c (.i .i64 0)))])
 (.seq
 (.seq
 (.reg [mv 5 0,rg 6 (.call 80 [(.t 5)]),rg 7 (.bin .geq (.t 6) (.c (.i .i64 0)))])
 (.cond (.t 7)
 (.seq
 (.reg [rg 2 (.mov (.c (.i .i64 0)))])
 (.pre (.norm false [2]) .ret))
 .skip))
 (.seq
 (.reg [mv 9 0,mv 10 0,rg 11 (.len (.t 10)),rg 12 (.bin .sub (.t 11) (.c (.i .i64 1))),rg 13 (.call 114 [(.t 9),(.t 12)]),mv 8 13,rg 14 (.ext (.t 8) 0),rg 15 (.ext (.t 8) 1),mv 3 14,mv 4 15])
 (.seq
 (.reg [mv 16 3,mv 2 16])
 (.pre (.norm false [2]) .ret)))))
def b480:AX:=
 (.seq
 (.reg [rg 2 (.mov (.c (.b false)))])
 (.seq
 (.reg [mv 3 0,rg 4 (.build [(.i .i64 0),(.s []),(.i .i64 0)] [(0,1,(.c (.i .i64 2))),(1,1,(.t 3))]),rg 5 (.call 173 [(.t 4)]),mv 6 5,gd 7 6 true (.mov (.t 0)),gd 8 6 true (.bin .neq (.t 7) (.c (.s [116]))),rg 9 (.pick (.t 6) (.t 8) (.c (.b false))),mv 10 9,gd 11 10 true (.mov (.t 0)),gd 12 10 true (.bin .neq (.t 11) (.c (.s [121]))),rg 13 (.pick (.t 10) (.t 12) (.c (.b false))),mv 14 13,gd 15 14 true (.mov (.t 0)),gd 16 14 true (.bin .neq (.t 15) (.c (.s [112]))),rg 17 (.pick (.t 14) (.t 16) (.c (.b false))),mv 18 17,gd 19 18 true (.mov (.t 0)),gd 20 18 true (.bin .neq (.t 19) (.c (.s [108,101,116]))),rg 21 (.pick (.t 18) (.t 20) (.c (.b false))),mv 2 21])
 (.pre (.norm false [2]) .ret)))
def l469_0:AX:=
 (.note
 (.seq
 (.seq
 (.reg [mv 72 12,mv 73 9,rg 74 (.bin .lss (.t 72) (.t 73))])
 (.cond (.t 74)
 .skip
 (.exit 2)))
 (.seq
 (.block 3
 (.drawT [mv 77 11,mv 78 77,gd 79 78 true (.fad 0 (.t 3)),gd 80 78 true (.load none (.t 79)),gd 81 78 true (.mov (.t 12)),gd 82 78 true (.iad 2 (.t 80) (.t 81)),gd 83 78 true (.fad 0 (.t 82)),gd 84 78 true (.load none (.t 83)),gd 85 78 true (.fad 0 (.t 3)),gd 86 78 true (.load none (.t 85)),gd 87 78 true (.mov (.t 9)),gd 88 78 true (.iad 2 (.t 86) (.t 87)),gd 89 78 true (.fad 0 (.t 88)),gd 90 78 true (.load none (.t 89))]
 [gd 91 78 true (.bin .neq (.t 84) (.t 90)),rg 92 (.pick (.t 78) (.t 91) (.c (.b false))),mv 11 92]))
 (.reg [mv 75 12,rg 76 (.bin .add (.t 75) (.c (.i .i64 1))),mv 12 76])))
 (.norm false [1,2,3,7,8,9,10,11,12]))
def l469_1:AX:=
 (.note
 (.seq
 (.seq
 (.reg [mv 49 9,mv 50 8,rg 51 (.len (.t 50)),rg 52 (.bin .lss (.t 49) (.t 51))])
 (.cond (.t 52)
 .skip
 (.exit 0)))
 (.seq
 (.block 1
 (.seq
 (.reg [mv 55 9,rg 56 (.fad 0 (.t 3)),rg 57 (.load none (.t 56)),rg 58 (.len (.t 57)),rg 59 (.mm false [(.t 55),(.t 58)]),mv 10 59])
 (.seq
 (.seq
 (.reg [mv 60 9,rg 61 (.fad 0 (.t 3)),rg 62 (.load none (.t 61)),rg 63 (.len (.t 62)),rg 64 (.bin .lss (.t 60) (.t 63))])
 (.cond (.t 64)
 (.seq
 (.reg [rg 65 (.fad 0 (.t 3)),rg 66 (.load none (.t 65)),mv 67 9,rg 68 (.iad 2 (.t 66) (.t 67)),rg 69 (.fad 0 (.t 68)),rg 70 (.load none (.t 69)),rg 71 (.call 480 [(.t 70)]),mv 11 71])
 (.seq
 (.seq
 (.reg [rg 12 (.mov (.c (.i .i64 0)))])
 (.lp 2 (.norm false [1,2,3,7,8,9,10,11,12]) l469_0 (.norm false [1,2,3,7,8,9,10,11])))
 (.seq
 (.reg [mv 93 11,rg 94 (.un .not (.t 93))])
 (.cond (.t 94)
 (.seq
 (.reg [mv 95 9,rg 96 (.bin .add (.t 95) (.c (.i .i64 1))),rg 97 (.build [(.i .i64 0),(.i .i64 0),(.i .i64 0)] [(0,1,(.t 96)),(1,1,(.c (.i .i64 1))),(2,1,(.c (.i .i64 0)))]),rg 6 (.mov (.c (.b true))),so (.store 3 (.t 7) (.t 97))])
 (.pre (.norm false [6,7]) .ret))
 .skip))))
 .skip))
 (.seq
 (.reg [mv 98 8,mv 99 9,rg 100 (.iad 1 (.t 98) (.t 99)),rg 101 (.load none (.t 100)),mv 102 1,mv 103 2,mv 104 10,rg 105 (.call 50 [(.t 101),(.t 102),(.t 103),(.t 104)]),mv 13 105])
 (.seq
 (.seq
 (.reg [mv 106 13,rg 107 (.bin .geq (.t 106) (.c (.i .i64 0)))])
 (.cond (.t 107)
 (.seq
 (.reg [mv 108 9,rg 109 (.bin .add (.t 108) (.c (.i .i64 1))),mv 110 13,rg 111 (.build [(.i .i64 0),(.i .i64 0),(.i .i64 0)] [(0,1,(.t 109)),(1,1,(.c (.i .i64 0))),(2,1,(.t 110))]),rg 6 (.mov (.c (.b true))),so (.store 3 (.t 7) (.t 111))])
 (.pre (.norm false [6,7]) .ret))
 .skip))
 (.seq
 (.reg [mv 112 8,mv 113 9,rg 114 (.iad 1 (.t 112) (.t 113)),rg 115 (.load none (.t 114)),rg 116 (.call 481 [(.t 115)]),rg 117 (.bin .gtr (.t 116) (.c (.i .i64 40)))])
 (.cond (.t 117)
 (.seq
 (.drawT [mv 118 9,rg 119 (.bin .add (.t 118) (.c (.i .i64 1))),mv 120 8,mv 121 9,rg 122 (.iad 1 (.t 120) (.t 121)),rg 123 (.load none (.t 122)),rg 124 (.len (.t 123)),rg 125 (.build [(.i .i64 0),(.i .i64 0),(.i .i64 0)] [(0,1,(.t 119)),(1,1,(.c (.i .i64 0))),(2,1,(.t 124))]),rg 6 (.mov (.c (.b true)))]
 [so (.store 3 (.t 7) (.t 125))])
 (.pre (.norm false [6,7]) .ret))
 .skip)))))))
 (.reg [mv 53 9,rg 54 (.bin .add (.t 53) (.c (.i .i64 1))),mv 9 54])))
 (.norm false [1,2,3,7,8,9]))
def b469:AX:=
 (.seq
 (.reg [rg 3 (.xop (.box 2) [(.t 0)]),rg 6 (.mov (.c (.b false))),rg 7 (.alloc [(.i .i64 0),(.i .i64 0),(.i .i64 0)])])
 (.seq
 (.seq
 (.reg [mv 14 1,rg 15 (.bin .lss (.t 14) (.c (.i .i64 1))),mv 16 15,gd 17 16 false (.mov (.t 1)),gd 18 16 false (.bin .gtr (.t 17) (.c (.i .i64 6))),rg 19 (.pick (.t 16) (.c (.b true)) (.t 18)),mv 20 19,gd 21 20 false (.mov (.t 2)),gd 22 20 false (.bin .lss (.t 21) (.c (.i .i64 0))),rg 23 (.pick (.t 20) (.c (.b true)) (.t 22)),mv 24 23,gd 25 24 false (.mov (.t 2)),gd 26 24 false (.bin .gtr (.t 25) (.c (.i .i64 6))),rg 27 (.pick (.t 24) (.c (.b true)) (.t 26)),mv 28 27,gd 29 28 false (.fad 1 (.t 3)),gd 30 28 false (.load none (.t 29)),gd 31 28 false (.len (.t 30)),gd 32 28 false (.mov (.t 1)),gd 33 28 false (.bin .neq (.t 31) (.t 32)),rg 34 (.pick (.t 28) (.c (.b true)) (.t 33)),mv 35 34,gd 36 35 false (.fad 0 (.t 3)),gd 37 35 false (.load none (.t 36)),gd 38 35 false (.len (.t 37)),gd 39 35 false (.bin .gtr (.t 38) (.c (.i .i64 10))),rg 40 (.pick (.t 35) (.c (.b true)) (.t 39)),mv 41 40,gd 42 41 false (.load (some 2) (.t 3)),gd 43 41 false (.call 478 [(.t 42)]),gd 44 41 false (.bin .gtr (.t 43) (.c (.i .i64 300))),rg 45 (.pick (.t 41) (.c (.b true)) (.t 44))])
 (.cond (.t 45)
 (.seq
 (.reg [rg 46 (.build [(.i .i64 0),(.i .i64 0),(.i .i64 0)] []),rg 6 (.mov (.c (.b true))),so (.store 3 (.t 7) (.t 46))])
 (.pre (.norm false [6,7]) .ret))
 .skip))
 (.seq
 (.reg [rg 47 (.load (some 2) (.t 3)),rg 48 (.call 479 [(.t 47)]),mv 8 48])
 (.seq
 (.seq
 (.reg [rg 9 (.mov (.c (.i .i64 0)))])
 (.lp 0 (.norm false [1,2,3,7,8,9]) l469_1 (.norm false [7])))
 (.seq
 (.reg [rg 126 (.build [(.i .i64 0),(.i .i64 0),(.i .i64 0)] []),rg 6 (.mov (.c (.b false))),so (.store 3 (.t 7) (.t 126))])
 (.pre (.norm false [6,7]) .ret))))))
def l466_0:AX:=
 (.note
 (.seq
 (.seq
 (.reg [mv 23 9,rg 24 (.fad 0 (.t 4)),rg 25 (.load none (.t 24)),rg 26 (.len (.t 25)),rg 27 (.bin .lss (.t 23) (.t 26))])
 (.cond (.t 27)
 .skip
 (.exit 0)))
 (.seq
 (.block 1
 (.seq
 (.reg [rg 30 (.fad 0 (.t 4)),rg 31 (.load none (.t 30)),mv 32 9,rg 33 (.iad 2 (.t 31) (.t 32)),rg 34 (.fad 0 (.t 33)),rg 35 (.load none (.t 34)),rg 36 (.lens (.t 35)),rg 37 (.bin .gtr (.t 36) (.c (.i .i64 100))),mv 38 37,gd 39 38 false (.fad 0 (.t 4)),gd 40 38 false (.load none (.t 39)),gd 41 38 false (.mov (.t 9)),gd 42 38 false (.iad 2 (.t 40) (.t 41)),gd 43 38 false (.fad 1 (.t 42)),gd 44 38 false (.load none (.t 43)),gd 45 38 false (.mov (.t 2)),gd 46 38 false (.mov (.t 3)),gd 47 38 false (.call 10 [(.t 44),(.t 45),(.t 46)]),rg 48 (.pick (.t 38) (.c (.b true)) (.t 47))])
 (.cond (.t 48)
 (.seq
 (.reg [rg 8 (.mov (.c (.b true)))])
 (.pre (.norm false [8]) .ret))
 .skip)))
 (.reg [mv 28 9,rg 29 (.bin .add (.t 28) (.c (.i .i64 1))),mv 9 29])))
 (.norm false [2,3,4,9]))
def l466_1:AX:=
 (.note
 (.seq
 (.seq
 (.reg [mv 49 10,rg 50 (.fad 1 (.t 4)),rg 51 (.load none (.t 50)),rg 52 (.len (.t 51)),rg 53 (.bin .lss (.t 49) (.t 52))])
 (.cond (.t 53)
 .skip
 (.exit 2)))
 (.seq
 (.block 3
 (.seq
 (.reg [rg 56 (.fad 1 (.t 4)),rg 57 (.load none (.t 56)),mv 58 10,rg 59 (.iad 1 (.t 57) (.t 58)),rg 60 (.load none (.t 59)),mv 61 2,mv 62 3,rg 63 (.call 10 [(.t 60),(.t 61),(.t 62)])])
 (.cond (.t 63)
 (.seq
 (.reg [rg 8 (.mov (.c (.b true)))])
 (.pre (.norm false [8]) .ret))
 .skip)))
 (.reg [mv 54 10,rg 55 (.bin .add (.t 54) (.c (.i .i64 1))),mv 10 55])))
 (.norm false [2,3,4,10]))
def b466:AX:=
 (.seq
 (.reg [rg 4 (.xop (.box 2) [(.t 0)]),rg 8 (.mov (.c (.b false)))])
 (.seq
 (.seq
 (.reg [rg 11 (.fad 0 (.t 4)),rg 12 (.load none (.t 11)),rg 13 (.len (.t 12)),mv 14 1,rg 15 (.bin .gtr (.t 13) (.t 14)),mv 16 15,gd 17 16 false (.fad 1 (.t 4)),gd 18 16 false (.load none (.t 17)),gd 19 16 false (.len (.t 18)),gd 20 16 false (.mov (.t 1)),gd 21 16 false (.bin .gtr (.t 19) (.t 20)),rg 22 (.pick (.t 16) (.c (.b true)) (.t 21))])
 (.cond (.t 22)
 (.seq
 (.reg [rg 8 (.mov (.c (.b true)))])
 (.pre (.norm false [8]) .ret))
 .skip))
 (.seq
 (.seq
 (.reg [rg 9 (.mov (.c (.i .i64 0)))])
 (.lp 0 (.norm false [2,3,4,9]) l466_0 (.norm false [2,3,4])))
 (.seq
 (.seq
 (.reg [rg 10 (.mov (.c (.i .i64 0)))])
 (.lp 2 (.norm false [2,3,4,10]) l466_1 (.norm false [])))
 (.seq
 (.reg [rg 8 (.mov (.c (.b false)))])
 (.pre (.norm false [8]) .ret))))))
class CRef19 (T:Tbl):Prop where
 h478:T 478=some ⟨1,22,[.t 2],b478,none,false⟩
 h479:T 479=some ⟨1,25,[.t 2],b479,none,false⟩
 h481:T 481=some ⟨1,17,[.t 2],b481,none,false⟩
 h480:T 480=some ⟨1,22,[.t 2],b480,none,false⟩
 h469:T 469=some ⟨3,127,[.t 6,.cell 7 (some 3)],b469,none,false⟩
 h466:T 466=some ⟨4,64,[.t 8],b466,none,false⟩
section
variable{T:Tbl}[CRef19 T]{d:Option Nat}{st:St}{xs:List AV}{ps:List Opd}{e:Env}{h:Heap}{ol:List Heap}
@[simp] theorem x478:callX (orc T) T 478 xs d st=cP T 478 false xs d st:=zaa CRef19.h478
theorem f478(xs:List AV)(hn:xs.length=1):callF T 478 xs=retF [.t 2] false (evX (orc T) T 0 b478 ⟨argEnv xs,[],1⟩):=zab CRef19.h478 hn
@[simp] theorem x479:callX (orc T) T 479 xs d st=cP T 479 false xs d st:=zaa CRef19.h479
theorem f479(xs:List AV)(hn:xs.length=1):callF T 479 xs=retF [.t 2] false (evX (orc T) T 0 b479 ⟨argEnv xs,[],1⟩):=zab CRef19.h479 hn
@[simp] theorem x481:callX (orc T) T 481 xs d st=cP T 481 false xs d st:=zaa CRef19.h481
theorem f481(xs:List AV)(hn:xs.length=1):callF T 481 xs=retF [.t 2] false (evX (orc T) T 0 b481 ⟨argEnv xs,[],1⟩):=zab CRef19.h481 hn
@[simp] theorem x480:callX (orc T) T 480 xs d st=cP T 480 false xs d st:=zaa CRef19.h480
theorem f480(xs:List AV)(hn:xs.length=1):callF T 480 xs=retF [.t 2] false (evX (orc T) T 0 b480 ⟨argEnv xs,[],1⟩):=zab CRef19.h480 hn
@[simp] theorem x469:callX (orc T) T 469 xs d st=cP T 469 false xs d st:=zaa CRef19.h469
theorem f469(xs:List AV)(hn:xs.length=3):callF T 469 xs=retF [.t 6,.cell 7 (some 3)] false (evX (orc T) T 0 b469 ⟨argEnv xs,[],1⟩):=zab CRef19.h469 hn
@[simp] theorem x466:callX (orc T) T 466 xs d st=cP T 466 false xs d st:=zaa CRef19.h466
theorem f466(xs:List AV)(hn:xs.length=4):callF T 466 xs=retF [.t 8] false (evX (orc T) T 0 b466 ⟨argEnv xs,[],1⟩):=zab CRef19.h466 hn
end
def l468_0:AX:=
 (.note
 (.seq
 (.seq
 (.reg [mv 6 4,rg 7 (.fad 0 (.t 1)),rg 8 (.load none (.t 7)),rg 9 (.len (.t 8)),rg 10 (.bin .lss (.t 6) (.t 9))])
 (.cond (.t 10)
 .skip
 (.exit 0)))
 (.seq
 (.block 1
 (.drawT [rg 13 (.fad 0 (.t 3)),rg 14 (.load none (.t 13)),rg 15 (.fad 0 (.t 1)),rg 16 (.load none (.t 15)),mv 17 4,rg 18 (.iad 2 (.t 16) (.t 17)),rg 19 (.fad 0 (.t 18)),rg 20 (.load none (.t 19)),rg 21 (.fad 0 (.t 1)),rg 22 (.load none (.t 21)),mv 23 4,rg 24 (.iad 2 (.t 22) (.t 23)),rg 25 (.fad 1 (.t 24)),rg 26 (.load none (.t 25)),rg 27 (.call 13 [(.t 26)]),rg 28 (.build [(.s []),(.sl [] .nl)] [(0,1,(.t 20)),(1,1,(.t 27))]),rg 29 (.bsl 2 [(.s []),(.sl [] .nl)] 1 [(0,(.t 28))])]
 [rg 30 (.app 2 (.t 14) (.t 29)),rg 31 (.fad 0 (.t 3)),so (.store 1 (.t 31) (.t 30))]))
 (.reg [mv 11 4,rg 12 (.bin .add (.t 11) (.c (.i .i64 1))),mv 4 12])))
 (.norm false [1,2,3,4]))
def l468_1:AX:=
 (.note
 (.seq
 (.seq
 (.reg [mv 32 5,rg 33 (.fad 1 (.t 1)),rg 34 (.load none (.t 33)),rg 35 (.len (.t 34)),rg 36 (.bin .lss (.t 32) (.t 35))])
 (.cond (.t 36)
 .skip
 (.exit 2)))
 (.seq
 (.block 3
 (.drawT [rg 39 (.fad 1 (.t 3)),rg 40 (.load none (.t 39)),rg 41 (.fad 1 (.t 1)),rg 42 (.load none (.t 41)),mv 43 5,rg 44 (.iad 1 (.t 42) (.t 43)),rg 45 (.load none (.t 44)),rg 46 (.call 13 [(.t 45)]),rg 47 (.bsl 1 [(.sl [] .nl)] 1 [(0,(.t 46))])]
 [rg 48 (.app 1 (.t 40) (.t 47)),rg 49 (.fad 1 (.t 3)),so (.store 1 (.t 49) (.t 48))]))
 (.reg [mv 37 5,rg 38 (.bin .add (.t 37) (.c (.i .i64 1))),mv 5 38])))
 (.norm false [1,2,3,5]))
def b468:AX:=
 (.seq
 (.reg [rg 1 (.xop (.box 2) [(.t 0)]),rg 2 (.alloc [(.sl [] .nl),(.sl [] .nl)])])
 (.seq
 (.reg [rg 3 (.alloc [(.sl [] .nl),(.sl [] .nl)])])
 (.seq
 (.seq
 (.reg [rg 4 (.mov (.c (.i .i64 0)))])
 (.pre (.fld 3 0 0 2) (.pre (.fld 3 0 1 1) (.lp 0 (.norm false [1,2,3,4]) l468_0 (.norm false [1,2,3])))))
 (.seq
 (.seq
 (.reg [rg 5 (.mov (.c (.i .i64 0)))])
 (.lp 2 (.norm false [1,2,3,5]) l468_1 (.norm false [2,3])))
 (.seq
 (.reg [rg 50 (.load (some 2) (.t 3)),so (.store 2 (.t 2) (.t 50))])
 (.pre (.norm false [2]) .ret))))))
class CLaw21 (T:Tbl):Prop where
 h468:T 468=some ⟨1,51,[.cell 2 (some 2)],b468,none,false⟩
section
variable{T:Tbl}[CLaw21 T]{d:Option Nat}{st:St}{xs:List AV}{ps:List Opd}{e:Env}{h:Heap}{ol:List Heap}
@[simp] theorem x468:callX (orc T) T 468 xs d st=cP T 468 false xs d st:=zaa CLaw21.h468
theorem f468(xs:List AV)(hn:xs.length=1):callF T 468 xs=retF [.cell 2 (some 2)] false (evX (orc T) T 0 b468 ⟨argEnv xs,[],1⟩):=zab CLaw21.h468 hn
end
def l659_0:AX:=
 (.note
 (.seq
 (.reg [rg 21 (.bin .lss (.t 20) (.t 19))])
 (.seq
 (.cond (.t 21)
 .skip
 (.exit 2))
 (.seq
 (.block 3
 (.seq
 (.reg [rg 22 (.iad 3 (.t 18) (.t 20)),rg 23 (.load (some 3) (.t 22)),rg 6 (.alloc [(.i .i64 0),(.i .i64 0),(.sl [] .nl)]),so (.store 3 (.t 6) (.t 23))])
 (.seq
 (.reg [rg 24 (.fad 0 (.t 6)),rg 25 (.load none (.t 24)),rg 26 (.bin .eql (.t 25) (.c (.i .i64 5)))])
 (.cond (.t 26)
 (.seq
 (.reg [rg 2 (.mov (.c (.b true)))])
 (.pre (.norm false [2]) .ret))
 .skip))))
 (.reg [rg 27 (.bin .add (.t 20) (.c (.i .i64 1))),mv 20 27]))))
 (.norm false [12,13,14,18,19,20]))
def l659_1:AX:=
 (.note
 (.seq
 (.reg [rg 15 (.bin .lss (.t 14) (.t 13))])
 (.seq
 (.cond (.t 15)
 .skip
 (.exit 0))
 (.seq
 (.block 1
 (.seq
 (.reg [rg 16 (.iad 1 (.t 12) (.t 14)),rg 17 (.load none (.t 16)),mv 4 17])
 (.seq
 (.reg [mv 18 4,rg 19 (.len (.t 18)),rg 20 (.mov (.c (.i .i64 0)))])
 (.lp 2 (.norm false [12,13,14,18,19,20]) l659_0 (.norm false [12,13,14])))))
 (.reg [rg 28 (.bin .add (.t 14) (.c (.i .i64 1))),mv 14 28]))))
 (.norm false [12,13,14]))
def b659:AX:=
 (.seq
 (.reg [rg 1 (.xop (.box 2) [(.t 0)]),rg 2 (.mov (.c (.b false)))])
 (.seq
 (.seq
 (.reg [rg 7 (.fad 0 (.t 1)),rg 8 (.load none (.t 7)),rg 9 (.len (.t 8)),rg 10 (.bin .gtr (.t 9) (.c (.i .i64 0)))])
 (.cond (.t 10)
 (.seq
 (.reg [rg 2 (.mov (.c (.b true)))])
 (.pre (.norm false [2]) .ret))
 .skip))
 (.seq
 (.seq
 (.reg [rg 11 (.fad 1 (.t 1)),rg 12 (.load none (.t 11)),rg 13 (.len (.t 12)),rg 14 (.mov (.c (.i .i64 0)))])
 (.lp 0 (.norm false [12,13,14]) l659_1 (.norm false [])))
 (.seq
 (.reg [rg 2 (.mov (.c (.b false)))])
 (.pre (.norm false [2]) .ret)))))
def b660:AX:=
 (.seq
 (.reg [rg 1 (.xop (.box 2) [(.t 0)]),rg 2 (.mov (.c (.b false)))])
 (.seq
 (.reg [rg 3 (.load (some 2) (.t 1)),rg 4 (.fad 1 (.t 1)),rg 5 (.load none (.t 4)),rg 6 (.len (.t 5)),rg 7 (.call 477 [(.t 3),(.t 6),(.c (.i .i64 6))]),rg 8 (.build [(.i .i64 0),(.i .i64 0),(.i .i64 0),(.i .i64 0)] []),rg 9 (.eqs false [(0,.int),(1,.int),(2,.int),(3,.int)] (.t 7) (.t 8)),mv 2 9])
 (.pre (.norm false [2]) .ret)))
def l661_0:AX:=
 (.note
 (.seq
 (.reg [rg 11 (.bin .lss (.t 10) (.t 9))])
 (.seq
 (.cond (.t 11)
 .skip
 (.exit 0))
 (.seq
 (.block 1
 (.seq
 (.reg [rg 12 (.iad 3 (.t 8) (.t 10)),rg 13 (.load (some 3) (.t 12)),rg 7 (.alloc [(.i .i64 0),(.i .i64 0),(.sl [] .nl)]),so (.store 3 (.t 7) (.t 13))])
 (.seq
 (.seq
 (.reg [rg 14 (.fad 0 (.t 7)),rg 15 (.load none (.t 14)),rg 16 (.bin .eql (.t 15) (.c (.i .i64 5)))])
 (.cond (.t 16)
 (.reg [mv 17 5,mv 18 1,rg 19 (.fad 1 (.t 7)),rg 20 (.load none (.t 19)),rg 21 (.iad 1 (.t 18) (.t 20)),rg 22 (.load none (.t 21)),rg 23 (.bin .add (.t 17) (.t 22)),mv 5 23])
 (.reg [mv 24 5,rg 25 (.bin .add (.t 24) (.c (.i .i64 1))),mv 5 25])))
 (.reg [mv 26 5,rg 27 (.mm false [(.t 26),(.c (.i .i64 1201))]),mv 5 27]))))
 (.reg [rg 28 (.bin .add (.t 10) (.c (.i .i64 1))),mv 10 28]))))
 (.norm false [1,5,8,9,10]))
def b661:AX:=
 (.seq
 (.reg [rg 4 (.mov (.c (.i .i64 0)))])
 (.seq
 (.reg [rg 5 (.mov (.c (.i .i64 0)))])
 (.seq
 (.seq
 (.reg [mv 8 0,rg 9 (.len (.t 8)),rg 10 (.mov (.c (.i .i64 0)))])
 (.lp 0 (.norm false [1,5,8,9,10]) l661_0 (.norm false [5])))
 (.seq
 (.reg [mv 29 5,mv 4 29])
 (.pre (.norm false [4]) .ret)))))
def l662_0:AX:=
 (.note
 (.seq
 (.reg [rg 13 (.bin .lss (.t 12) (.t 11))])
 (.seq
 (.cond (.t 13)
 .skip
 (.exit 0))
 (.seq
 (.block 1
 (.seq
 (.reg [rg 14 (.iad 2 (.t 10) (.t 12)),rg 15 (.load (some 2) (.t 14)),rg 5 (.alloc [(.s []),(.sl [] .nl)]),so (.store 2 (.t 5) (.t 15))])
 (.reg [mv 16 3,rg 17 (.fad 1 (.t 5)),rg 18 (.load none (.t 17)),mv 19 3,rg 20 (.call 661 [(.t 18),(.t 19)]),rg 21 (.bsl 1 [(.i .i64 0)] 1 [(0,(.t 20))]),rg 22 (.app 1 (.t 16) (.t 21)),mv 3 22])))
 (.reg [rg 23 (.bin .add (.t 12) (.c (.i .i64 1))),mv 12 23]))))
 (.norm false [1,3,10,11,12]))
def l662_1:AX:=
 (.note
 (.seq
 (.reg [rg 28 (.bin .lss (.t 27) (.t 26))])
 (.seq
 (.cond (.t 28)
 .skip
 (.exit 2))
 (.seq
 (.block 3
 (.seq
 (.reg [rg 29 (.iad 1 (.t 25) (.t 27)),rg 30 (.load none (.t 29)),mv 8 30])
 (.reg [mv 31 6,mv 32 8,mv 33 3,rg 34 (.call 661 [(.t 32),(.t 33)]),rg 35 (.bin .add (.t 31) (.t 34)),mv 6 35])))
 (.reg [rg 36 (.bin .add (.t 27) (.c (.i .i64 1))),mv 27 36]))))
 (.norm false [3,6,25,26,27]))
def b662:AX:=
 (.seq
 (.reg [rg 1 (.xop (.box 2) [(.t 0)]),rg 2 (.mov (.c (.b false)))])
 (.seq
 (.note (.reg [rg 3 (.mov (.c (.sl [] .nl)))]) (.nil 3 1))
 (.seq
 (.seq
 (.reg [rg 9 (.fad 0 (.t 1)),rg 10 (.load none (.t 9)),rg 11 (.len (.t 10)),rg 12 (.mov (.c (.i .i64 0)))])
 (.lp 0 (.norm false [1,3,10,11,12]) l662_0 (.norm false [1,3])))
 (.seq
 (.reg [rg 6 (.mov (.c (.i .i64 0)))])
 (.seq
 (.seq
 (.reg [rg 24 (.fad 1 (.t 1)),rg 25 (.load none (.t 24)),rg 26 (.len (.t 25)),rg 27 (.mov (.c (.i .i64 0)))])
 (.lp 2 (.norm false [3,6,25,26,27]) l662_1 (.norm false [6])))
 (.seq
 (.reg [mv 37 6,rg 38 (.bin .leq (.t 37) (.c (.i .i64 1200))),mv 2 38])
 (.pre (.norm false [2]) .ret)))))))
def b663:AX:=
 (.seq
 (.reg [rg 4 (.mov (.c (.sl [] .nl)))])
 (.seq
 (.seq
 (.reg [mv 8 0,rg 9 (.nilc (.t 8)),rg 10 (.fad 1 (.t 9)),rg 11 (.load none (.t 10)),mv 12 1,rg 13 (.look .int (.sl [] .nl) true (.t 11) (.t 12)),mv 7 13,rg 14 (.ext (.t 7) 0),rg 15 (.ext (.t 7) 1),mv 5 14,mv 6 15])
 (.seq
 (.reg [mv 16 6])
 (.cond (.t 16)
 (.seq
 (.reg [mv 17 5,mv 4 17])
 (.pre (.norm false [4]) .ret))
 .skip)))
 (.seq
 (.drawC [mv 18 0,rg 19 (.nilc (.t 18)),rg 20 (.fad 1 (.t 19)),rg 21 (.load none (.t 20)),mv 22 1,mv 23 0,mv 24 0,rg 25 (.nilc (.t 24)),rg 26 (.fad 0 (.t 25)),rg 27 (.load none (.t 26)),mv 28 1,rg 29 (.iad 2 (.t 27) (.t 28)),rg 30 (.fad 1 (.t 29)),rg 31 (.load none (.t 30))]
 (rg 32 (.call 664 [(.t 23),(.t 31)]))
 []
 [so (.xop (.mupd .int) [(.t 21),(.t 22),(.t 32)])])
 (.seq
 (.reg [mv 33 0,rg 34 (.nilc (.t 33)),rg 35 (.fad 1 (.t 34)),rg 36 (.load none (.t 35)),mv 37 1,rg 38 (.look .int (.sl [] .nl) false (.t 36) (.t 37)),mv 4 38])
 (.pre (.norm false [4]) .ret)))))
def l664_0:AX:=
 (.note
 (.seq
 (.reg [rg 11 (.bin .lss (.t 10) (.t 9))])
 (.seq
 (.cond (.t 11)
 .skip
 (.exit 0))
 (.seq
 (.block 1
 (.seq
 (.reg [rg 12 (.iad 3 (.t 8) (.t 10)),rg 13 (.load (some 3) (.t 12)),rg 7 (.alloc [(.i .i64 0),(.i .i64 0),(.sl [] .nl)]),so (.store 3 (.t 7) (.t 13))])
 (.seq
 (.reg [rg 14 (.fad 0 (.t 7)),rg 15 (.load none (.t 14)),rg 16 (.bin .eql (.t 15) (.c (.i .i64 5)))])
 (.cond (.t 16)
 (.reg [mv 17 5,mv 18 0,rg 19 (.fad 1 (.t 7)),rg 20 (.load none (.t 19)),rg 21 (.call 663 [(.t 18),(.t 20)]),rg 22 (.app 3 (.t 17) (.t 21)),mv 5 22])
 (.drawT [mv 23 5,rg 24 (.fad 0 (.t 7)),rg 25 (.load none (.t 24)),rg 26 (.fad 1 (.t 7)),rg 27 (.load none (.t 26)),rg 28 (.fad 2 (.t 7)),rg 29 (.load none (.t 28)),rg 30 (.app 1 (.c (.sl [] .nl)) (.t 29)),rg 31 (.build [(.i .i64 0),(.i .i64 0),(.sl [] .nl)] [(0,1,(.t 25)),(1,1,(.t 27)),(2,1,(.t 30))]),rg 32 (.bsl 3 [(.i .i64 0),(.i .i64 0),(.sl [] .nl)] 1 [(0,(.t 31))])]
 [rg 33 (.app 3 (.t 23) (.t 32)),mv 5 33])))))
 (.reg [rg 34 (.bin .add (.t 10) (.c (.i .i64 1))),mv 10 34]))))
 (.norm false [0,5,8,9,10]))
def b664:AX:=
 (.seq
 (.reg [rg 4 (.mov (.c (.sl [] .nl)))])
 (.seq
 (.note (.reg [rg 5 (.mov (.c (.sl [] .nl)))]) (.nil 5 3))
 (.seq
 (.seq
 (.reg [mv 8 1,rg 9 (.len (.t 8)),rg 10 (.mov (.c (.i .i64 0)))])
 (.lp 0 (.norm false [0,5,8,9,10]) l664_0 (.norm false [5])))
 (.seq
 (.reg [mv 35 5,mv 4 35])
 (.pre (.frz 4) (.pre (.norm false [4]) .ret))))))
def l665_0:AX:=
 (.note
 (.seq
 (.reg [rg 25 (.bin .lss (.t 24) (.t 23))])
 (.seq
 (.cond (.t 25)
 .skip
 (.exit 0))
 (.seq
 (.block 1
 (.seq
 (.reg [rg 26 (.iad 1 (.t 22) (.t 24)),rg 27 (.load none (.t 26)),mv 7 27])
 (.reg [mv 28 5,mv 29 4,mv 30 7,rg 31 (.call 664 [(.t 29),(.t 30)]),rg 32 (.bsl 1 [(.sl [] .nl)] 1 [(0,(.t 31))]),rg 33 (.app 1 (.t 28) (.t 32)),mv 5 33])))
 (.reg [rg 34 (.bin .add (.t 24) (.c (.i .i64 1))),mv 24 34]))))
 (.norm false [4,5,22,23,24]))
def b665:AX:=
 (.seq
 (.reg [rg 1 (.xop (.box 2) [(.t 0)]),rg 2 (.mov (.c (.sl [] .nl))),rg 3 (.mov (.c (.b false)))])
 (.seq
 (.seq
 (.reg [rg 8 (.load (some 2) (.t 1)),rg 9 (.call 660 [(.t 8)]),rg 10 (.un .not (.t 9)),mv 11 10,gd 12 11 false (.load (some 2) (.t 1)),gd 13 11 false (.call 662 [(.t 12)]),gd 14 11 false (.un .not (.t 13)),rg 15 (.pick (.t 11) (.c (.b true)) (.t 14))])
 (.cond (.t 15)
 (.seq
 (.reg [rg 2 (.mov (.c (.sl [] .nl))),rg 3 (.mov (.c (.b false)))])
 (.pre (.norm false [2,3]) .ret))
 .skip))
 (.seq
 (.reg [rg 16 (.fad 0 (.t 1)),rg 17 (.load none (.t 16)),rg 18 (.xop .mmap []),rg 19 (.build [(.sl [] .nl),(.raw (.map none))] [(0,1,(.t 17)),(1,1,(.t 18))]),rg 20 (.xop (.box 2) [(.t 19)]),mv 4 20])
 (.seq
 (.note (.reg [rg 5 (.mov (.c (.sl [] .nl)))]) (.nil 5 1))
 (.seq
 (.seq
 (.reg [rg 21 (.fad 1 (.t 1)),rg 22 (.load none (.t 21)),rg 23 (.len (.t 22)),rg 24 (.mov (.c (.i .i64 0)))])
 (.lp 0 (.norm false [4,5,22,23,24]) l665_0 (.norm false [5])))
 (.seq
 (.reg [mv 35 5,mv 2 35,rg 3 (.mov (.c (.b true)))])
 (.pre (.norm false [2,3]) .ret)))))))
def b666:AX:=
 (.seq
 (.reg [rg 1 (.xop (.box 2) [(.t 0)]),rg 2 (.alloc [(.sl [] .nl),(.sl [] .nl)]),rg 3 (.mov (.c (.b false)))])
 (.seq
 (.reg [rg 7 (.load (some 2) (.t 1)),rg 8 (.call 665 [(.t 7)]),mv 6 8,rg 9 (.ext (.t 6) 0),rg 10 (.ext (.t 6) 1),mv 4 9,mv 5 10])
 (.seq
 (.reg [mv 11 4,rg 12 (.build [(.sl [] .nl),(.sl [] .nl)] [(1,1,(.t 11))]),mv 13 5,so (.store 2 (.t 2) (.t 12)),mv 3 13])
 (.pre (.norm false [2,3]) .ret))))
def l667_0:AX:=
 (.note
 (.seq
 (.reg [rg 11 (.bin .lss (.t 10) (.t 9))])
 (.seq
 (.cond (.t 11)
 .skip
 (.exit 0))
 (.seq
 (.block 1
 (.seq
 (.reg [rg 12 (.iad 3 (.t 8) (.t 10)),rg 13 (.load (some 3) (.t 12)),rg 7 (.alloc [(.i .i64 0),(.i .i64 0),(.sl [] .nl)]),so (.store 3 (.t 7) (.t 13))])
 (.seq
 (.reg [rg 14 (.fad 0 (.t 7)),rg 15 (.load none (.t 14)),rg 16 (.bin .eql (.t 15) (.c (.i .i64 5)))])
 (.cond (.t 16)
 (.drawT [mv 17 2,rg 18 (.fad 1 (.t 7)),rg 19 (.load none (.t 18)),mv 20 2,rg 21 (.fad 1 (.t 7)),rg 22 (.load none (.t 21)),rg 23 (.iad 1 (.t 20) (.t 22)),rg 24 (.load none (.t 23)),mv 25 1,rg 26 (.bin .add (.t 24) (.t 25)),rg 27 (.mm false [(.t 26),(.c (.i .i64 300))])]
 [rg 28 (.iad 1 (.t 17) (.t 19)),so (.store 1 (.t 28) (.t 27))])
 .skip))))
 (.reg [rg 29 (.bin .add (.t 10) (.c (.i .i64 1))),mv 10 29]))))
 (.norm false [1,2,8,9,10]))
def b667:AX:=
 (.seq
 (.reg [mv 8 0,rg 9 (.len (.t 8)),rg 10 (.mov (.c (.i .i64 0)))])
 (.lp 0 (.norm false [1,2,8,9,10]) l667_0 (.norm false [])))
def l668_0:AX:=
 (.note
 (.seq
 (.reg [rg 18 (.bin .lss (.t 17) (.t 16))])
 (.seq
 (.cond (.t 18)
 .skip
 (.exit 0))
 (.seq
 (.block 1
 (.seq
 (.reg [rg 19 (.iad 1 (.t 15) (.t 17)),rg 20 (.load none (.t 19)),mv 5 20])
 (.reg [mv 21 5,mv 22 3,rg 23 (.call 667 [(.t 21),(.c (.i .i64 1)),(.t 22)])])))
 (.reg [rg 24 (.bin .add (.t 17) (.c (.i .i64 1))),mv 17 24]))))
 (.norm false [1,3,15,16,17]))
def l668_1:AX:=
 (.note
 (.seq
 (.seq
 (.reg [mv 29 6,rg 30 (.bin .geq (.t 29) (.c (.i .i64 0)))])
 (.cond (.t 30)
 .skip
 (.exit 2)))
 (.seq
 (.block 3
 (.drawT [rg 33 (.fad 0 (.t 1)),rg 34 (.load none (.t 33)),mv 35 6,rg 36 (.iad 2 (.t 34) (.t 35)),rg 37 (.fad 1 (.t 36)),rg 38 (.load none (.t 37)),mv 39 3,mv 40 6,rg 41 (.iad 1 (.t 39) (.t 40)),rg 42 (.load none (.t 41)),mv 43 3]
 [rg 44 (.call 667 [(.t 38),(.t 42),(.t 43)])]))
 (.reg [mv 31 6,rg 32 (.bin .sub (.t 31) (.c (.i .i64 1))),mv 6 32])))
 (.norm false [1,3,6]))
def b668:AX:=
 (.seq
 (.reg [rg 1 (.xop (.box 2) [(.t 0)]),rg 2 (.mov (.c (.sl [] .nl)))])
 (.seq
 (.seq
 (.reg [rg 7 (.load (some 2) (.t 1)),rg 8 (.call 660 [(.t 7)]),rg 9 (.un .not (.t 8))])
 (.cond (.t 9)
 (.seq
 (.reg [rg 2 (.mov (.c (.sl [] .nl)))])
 (.pre (.norm false [2]) .ret))
 .skip))
 (.seq
 (.reg [rg 10 (.fad 0 (.t 1)),rg 11 (.load none (.t 10)),rg 12 (.len (.t 11)),rg 13 (.mks 1 [(.i .i64 0)] (.t 12) (.t 12)),mv 3 13])
 (.seq
 (.seq
 (.reg [rg 14 (.fad 1 (.t 1)),rg 15 (.load none (.t 14)),rg 16 (.len (.t 15)),rg 17 (.mov (.c (.i .i64 0)))])
 (.lp 0 (.norm false [1,3,15,16,17]) l668_0 (.norm false [1,3])))
 (.seq
 (.seq
 (.reg [rg 25 (.fad 0 (.t 1)),rg 26 (.load none (.t 25)),rg 27 (.len (.t 26)),rg 28 (.bin .sub (.t 27) (.c (.i .i64 1))),mv 6 28])
 (.lp 2 (.norm false [1,3,6]) l668_1 (.norm false [3])))
 (.seq
 (.reg [mv 45 3,mv 2 45])
 (.pre (.norm false [2]) .ret)))))))
class CPlain (T:Tbl):Prop where
 h659:T 659=some ⟨1,29,[.t 2],b659,none,false⟩
 h660:T 660=some ⟨1,10,[.t 2],b660,none,false⟩
 h661:T 661=some ⟨2,30,[.t 4],b661,(some [false,true]),false⟩
 h662:T 662=some ⟨1,39,[.t 2],b662,none,false⟩
 h663:T 663=some ⟨2,39,[.t 4],b663,(some [true,false]),false⟩
 h664:T 664=some ⟨2,36,[.t 4],b664,(some [true,false]),false⟩
 h665:T 665=some ⟨1,36,[.t 2,.t 3],b665,none,false⟩
 h666:T 666=some ⟨1,14,[.cell 2 (some 2),.t 3],b666,none,false⟩
 h667:T 667=some ⟨3,30,[],b667,(some [false,false,true]),false⟩
 h668:T 668=some ⟨1,46,[.t 2],b668,none,false⟩
section
variable{T:Tbl}[CPlain T]{d:Option Nat}{st:St}{xs:List AV}{ps:List Opd}{e:Env}{h:Heap}{ol:List Heap}
@[simp] theorem x659:callX (orc T) T 659 xs d st=cP T 659 false xs d st:=zaa CPlain.h659
@[simp] theorem y659:opD (orc T) T (.call 659 ps) e h ol=dP T 659 false ps e:=za0 CPlain.h659
theorem f659(xs:List AV)(hn:xs.length=1):callF T 659 xs=retF [.t 2] false (evX (orc T) T 0 b659 ⟨argEnv xs,[],1⟩):=zab CPlain.h659 hn
@[simp] theorem x660:callX (orc T) T 660 xs d st=cP T 660 false xs d st:=zaa CPlain.h660
theorem f660(xs:List AV)(hn:xs.length=1):callF T 660 xs=retF [.t 2] false (evX (orc T) T 0 b660 ⟨argEnv xs,[],1⟩):=zab CPlain.h660 hn
@[simp] theorem x661:callX (orc T) T 661 xs d st=cL T 661 false [false,true] xs d st:=zbv CPlain.h661
theorem f661(xs:List AV)(hb:Heap)(hn:xs.length=2):callH T 661 xs hb=retH [.t 4] false hb.length (evX (orc T) T hb.length b661 ⟨argEnv xs,hb,hb.length+1⟩):=zdh CPlain.h661 hn
@[simp] theorem x662:callX (orc T) T 662 xs d st=cP T 662 false xs d st:=zaa CPlain.h662
theorem f662(xs:List AV)(hn:xs.length=1):callF T 662 xs=retF [.t 2] false (evX (orc T) T 0 b662 ⟨argEnv xs,[],1⟩):=zab CPlain.h662 hn
@[simp] theorem x663:callX (orc T) T 663 xs d st=cL T 663 false [true,false] xs d st:=zbv CPlain.h663
theorem f663(xs:List AV)(hb:Heap)(hn:xs.length=2):callH T 663 xs hb=retH [.t 4] false hb.length (evX (orc T) T hb.length b663 ⟨argEnv xs,hb,hb.length+1⟩):=zdh CPlain.h663 hn
@[simp] theorem x664:callX (orc T) T 664 xs d st=cL T 664 false [true,false] xs d st:=zbv CPlain.h664
theorem f664(xs:List AV)(hb:Heap)(hn:xs.length=2):callH T 664 xs hb=retH [.t 4] false hb.length (evX (orc T) T hb.length b664 ⟨argEnv xs,hb,hb.length+1⟩):=zdh CPlain.h664 hn
@[simp] theorem x665:callX (orc T) T 665 xs d st=cP T 665 false xs d st:=zaa CPlain.h665
theorem f665(xs:List AV)(hn:xs.length=1):callF T 665 xs=retF [.t 2,.t 3] false (evX (orc T) T 0 b665 ⟨argEnv xs,[],1⟩):=zab CPlain.h665 hn
@[simp] theorem x666:callX (orc T) T 666 xs d st=cP T 666 false xs d st:=zaa CPlain.h666
theorem f666(xs:List AV)(hn:xs.length=1):callF T 666 xs=retF [.cell 2 (some 2),.t 3] false (evX (orc T) T 0 b666 ⟨argEnv xs,[],1⟩):=zab CPlain.h666 hn
@[simp] theorem x667:callX (orc T) T 667 xs d st=cL T 667 false [false,false,true] xs d st:=zbv CPlain.h667
theorem f667(xs:List AV)(hb:Heap)(hn:xs.length=3):callH T 667 xs hb=retH [] false hb.length (evX (orc T) T hb.length b667 ⟨argEnv xs,hb,hb.length+1⟩):=zdh CPlain.h667 hn
@[simp] theorem x668:callX (orc T) T 668 xs d st=cP T 668 false xs d st:=zaa CPlain.h668
@[simp] theorem y668:opD (orc T) T (.call 668 ps) e h ol=dP T 668 false ps e:=za0 CPlain.h668
theorem f668(xs:List AV)(hn:xs.length=1):callF T 668 xs=retF [.t 2] false (evX (orc T) T 0 b668 ⟨argEnv xs,[],1⟩):=zab CPlain.h668 hn
end
def l672_0:AX:=
 (.note
 (.seq
 (.seq
 (.reg [mv 9 8,mv 10 0,rg 11 (.len (.t 10)),rg 12 (.bin .lss (.t 9) (.t 11)),mv 13 12,gd 14 13 true (.mov (.t 7)),gd 15 13 true (.len (.t 14)),gd 16 13 true (.mov (.t 2)),gd 17 13 true (.bin .leq (.t 15) (.t 16)),rg 18 (.pick (.t 13) (.t 17) (.c (.b false)))])
 (.cond (.t 18)
 .skip
 (.exit 0)))
 (.seq
 (.block 1
 (.seq
 (.reg [mv 21 0,mv 22 8,rg 23 (.iad 3 (.t 21) (.t 22)),rg 24 (.fad 0 (.t 23)),rg 25 (.load none (.t 24)),rg 26 (.bin .eql (.t 25) (.c (.i .i64 5)))])
 (.cond (.t 26)
 (.reg [mv 27 7,mv 28 1,mv 29 0,mv 30 8,rg 31 (.iad 3 (.t 29) (.t 30)),rg 32 (.fad 1 (.t 31)),rg 33 (.load none (.t 32)),rg 34 (.iad 2 (.t 28) (.t 33)),rg 35 (.fad 1 (.t 34)),rg 36 (.load none (.t 35)),mv 37 1,mv 38 2,mv 39 7,rg 40 (.len (.t 39)),rg 41 (.bin .sub (.t 38) (.t 40)),rg 42 (.call 672 [(.t 36),(.t 37),(.t 41)]),rg 43 (.app 3 (.t 27) (.t 42)),mv 7 43])
 (.reg [mv 44 7,mv 45 0,mv 46 8,rg 47 (.iad 3 (.t 45) (.t 46)),rg 48 (.load (some 3) (.t 47)),rg 49 (.bsl 3 [(.i .i64 0),(.i .i64 0),(.sl [] .nl)] 1 [(0,(.t 48))]),rg 50 (.app 3 (.t 44) (.t 49)),mv 7 50]))))
 (.reg [mv 19 8,rg 20 (.bin .add (.t 19) (.c (.i .i64 1))),mv 8 20])))
 (.norm false [0,1,2,7,8]))
def b672:AX:=
 (.seq
 (.reg [rg 6 (.mov (.c (.sl [] .nl)))])
 (.seq
 (.note (.reg [rg 7 (.mov (.c (.sl [] .nl)))]) (.nil 7 3))
 (.seq
 (.seq
 (.reg [rg 8 (.mov (.c (.i .i64 0)))])
 (.lp 0 (.norm false [0,1,2,7,8]) l672_0 (.norm false [7])))
 (.seq
 (.reg [mv 51 7,mv 6 51])
 (.pre (.norm false [6]) .ret)))))
def l673_0:AX:=
 (.note
 (.seq
 (.seq
 (.reg [mv 12 6,rg 13 (.fad 1 (.t 1)),rg 14 (.load none (.t 13)),rg 15 (.len (.t 14)),rg 16 (.bin .lss (.t 12) (.t 15))])
 (.cond (.t 16)
 .skip
 (.exit 0)))
 (.seq
 (.block 1
 (.seq
 (.drawT [rg 19 (.fad 1 (.t 1)),rg 20 (.load none (.t 19)),mv 21 6,rg 22 (.iad 1 (.t 20) (.t 21)),rg 23 (.load none (.t 22)),rg 24 (.fad 0 (.t 1)),rg 25 (.load none (.t 24)),mv 26 5,rg 27 (.bin .sub (.c (.i .i64 1200)) (.t 26))]
 [rg 28 (.call 672 [(.t 23),(.t 25),(.t 27)]),mv 7 28])
 (.seq
 (.reg [mv 29 5,mv 30 7,rg 31 (.len (.t 30)),rg 32 (.bin .add (.t 29) (.t 31)),mv 5 32])
 (.seq
 (.seq
 (.reg [mv 33 5,rg 34 (.bin .gtr (.t 33) (.c (.i .i64 1200)))])
 (.cond (.t 34)
 (.seq
 (.reg [rg 35 (.bsl 1 [(.sl [] .nl)] 0 []),mv 2 35,rg 3 (.mov (.c (.b false)))])
 (.pre (.norm false [2,3]) .ret))
 .skip))
 (.reg [mv 36 4,mv 37 7,rg 38 (.bsl 1 [(.sl [] .nl)] 1 [(0,(.t 37))]),rg 39 (.app 1 (.t 36) (.t 38)),mv 4 39])))))
 (.reg [mv 17 6,rg 18 (.bin .add (.t 17) (.c (.i .i64 1))),mv 6 18])))
 (.norm false [1,4,5,6]))
def b673:AX:=
 (.seq
 (.reg [rg 1 (.xop (.box 2) [(.t 0)]),rg 2 (.mov (.c (.sl [] .nl))),rg 3 (.mov (.c (.b false)))])
 (.seq
 (.note (.reg [rg 4 (.mov (.c (.sl [] .nl)))]) (.nil 4 1))
 (.seq
 (.seq
 (.reg [rg 8 (.load (some 2) (.t 1)),rg 9 (.call 680 [(.t 8)]),rg 10 (.un .not (.t 9))])
 (.cond (.t 10)
 (.seq
 (.reg [mv 11 4,mv 2 11,rg 3 (.mov (.c (.b false)))])
 (.pre (.norm false [2,3]) .ret))
 .skip))
 (.seq
 (.reg [rg 5 (.mov (.c (.i .i64 0)))])
 (.seq
 (.seq
 (.reg [rg 6 (.mov (.c (.i .i64 0)))])
 (.lp 0 (.norm false [1,4,5,6]) l673_0 (.norm false [4])))
 (.seq
 (.reg [mv 40 4,mv 2 40,rg 3 (.mov (.c (.b true)))])
 (.pre (.norm false [2,3]) .ret)))))))
def l674_0:AX:=
 (.note
 (.seq
 (.seq
 (.reg [mv 41 9,mv 42 5,mv 43 7,rg 44 (.iad 1 (.t 42) (.t 43)),rg 45 (.load none (.t 44)),rg 46 (.len (.t 45)),rg 47 (.bin .lss (.t 41) (.t 46))])
 (.cond (.t 47)
 .skip
 (.exit 4)))
 (.seq
 (.block 5
 (.seq
 (.reg [mv 50 5,mv 51 7,rg 52 (.iad 1 (.t 50) (.t 51)),rg 53 (.load none (.t 52)),mv 54 9,rg 55 (.iad 3 (.t 53) (.t 54)),rg 56 (.fad 0 (.t 55)),rg 57 (.load none (.t 56)),rg 58 (.bin .eql (.t 57) (.c (.i .i64 5))),mv 59 58,gd 60 59 true (.mov (.t 5)),gd 61 59 true (.mov (.t 7)),gd 62 59 true (.iad 1 (.t 60) (.t 61)),gd 63 59 true (.load none (.t 62)),gd 64 59 true (.mov (.t 9)),gd 65 59 true (.iad 3 (.t 63) (.t 64)),gd 66 59 true (.fad 1 (.t 65)),gd 67 59 true (.load none (.t 66)),gd 68 59 true (.mov (.t 4)),gd 69 59 true (.bin .eql (.t 67) (.t 68)),rg 70 (.pick (.t 59) (.t 69) (.c (.b false)))])
 (.cond (.t 70)
 (.reg [mv 71 6,mv 72 8,rg 73 (.bin .add (.t 71) (.t 72)),mv 6 73])
 .skip)))
 (.reg [mv 48 9,rg 49 (.bin .add (.t 48) (.c (.i .i64 1))),mv 9 49])))
 (.norm false [1,3,4,5,6,7,8,9]))
def l674_1:AX:=
 (.note
 (.seq
 (.seq
 (.reg [mv 26 7,mv 27 5,rg 28 (.len (.t 27)),rg 29 (.bin .lss (.t 26) (.t 28))])
 (.cond (.t 29)
 .skip
 (.exit 2)))
 (.seq
 (.block 3
 (.seq
 (.reg [rg 8 (.mov (.c (.i .i64 1)))])
 (.seq
 (.seq
 (.reg [mv 32 7,rg 33 (.fad 0 (.t 1)),rg 34 (.load none (.t 33)),rg 35 (.len (.t 34)),rg 36 (.bin .lss (.t 32) (.t 35))])
 (.cond (.t 36)
 (.reg [mv 37 3,mv 38 7,rg 39 (.iad 1 (.t 37) (.t 38)),rg 40 (.load none (.t 39)),mv 8 40])
 .skip))
 (.seq
 (.reg [rg 9 (.mov (.c (.i .i64 0)))])
 (.lp 4 (.norm false [1,3,4,5,6,7,8,9]) l674_0 (.norm false [1,3,4,5,6,7]))))))
 (.reg [mv 30 7,rg 31 (.bin .add (.t 30) (.c (.i .i64 1))),mv 7 31])))
 (.norm false [1,3,4,5,6,7]))
def l674_2:AX:=
 (.note
 (.seq
 (.seq
 (.reg [mv 18 4,rg 19 (.bin .geq (.t 18) (.c (.i .i64 0)))])
 (.cond (.t 19)
 .skip
 (.exit 0)))
 (.seq
 (.block 1
 (.seq
 (.reg [rg 22 (.load (some 2) (.t 1)),rg 23 (.call 479 [(.t 22)]),mv 5 23])
 (.seq
 (.reg [rg 6 (.mov (.c (.i .i64 0)))])
 (.seq
 (.seq
 (.reg [mv 24 4,rg 25 (.bin .add (.t 24) (.c (.i .i64 1))),mv 7 25])
 (.lp 2 (.norm false [1,3,4,5,6,7]) l674_1 (.norm false [1,3,4,6])))
 (.reg [mv 74 3,mv 75 4,mv 76 6,rg 77 (.mm false [(.t 76),(.c (.i .i64 300))]),rg 78 (.iad 1 (.t 74) (.t 75)),so (.store 1 (.t 78) (.t 77))])))))
 (.reg [mv 20 4,rg 21 (.bin .sub (.t 20) (.c (.i .i64 1))),mv 4 21])))
 (.norm false [1,3,4]))
def b674:AX:=
 (.seq
 (.reg [rg 1 (.xop (.box 2) [(.t 0)]),rg 2 (.mov (.c (.sl [] .nl)))])
 (.seq
 (.reg [rg 10 (.fad 0 (.t 1)),rg 11 (.load none (.t 10)),rg 12 (.len (.t 11)),rg 13 (.mks 1 [(.i .i64 0)] (.t 12) (.t 12)),mv 3 13])
 (.seq
 (.seq
 (.reg [rg 14 (.fad 0 (.t 1)),rg 15 (.load none (.t 14)),rg 16 (.len (.t 15)),rg 17 (.bin .sub (.t 16) (.c (.i .i64 1))),mv 4 17])
 (.lp 0 (.norm false [1,3,4]) l674_2 (.norm false [3])))
 (.seq
 (.reg [mv 79 3,mv 2 79])
 (.pre (.norm false [2]) .ret)))))
def l675_0:AX:=
 (.note
 (.seq
 (.seq
 (.reg [mv 12 4,rg 13 (.fad 1 (.t 1)),rg 14 (.load none (.t 13)),mv 15 3,rg 16 (.iad 1 (.t 14) (.t 15)),rg 17 (.load none (.t 16)),rg 18 (.len (.t 17)),rg 19 (.bin .lss (.t 12) (.t 18))])
 (.cond (.t 19)
 .skip
 (.exit 2)))
 (.seq
 (.block 3
 (.seq
 (.reg [rg 22 (.fad 1 (.t 1)),rg 23 (.load none (.t 22)),mv 24 3,rg 25 (.iad 1 (.t 23) (.t 24)),rg 26 (.load none (.t 25)),mv 27 4,rg 28 (.iad 3 (.t 26) (.t 27)),rg 29 (.fad 0 (.t 28)),rg 30 (.load none (.t 29)),rg 31 (.bin .eql (.t 30) (.c (.i .i64 5)))])
 (.cond (.t 31)
 (.seq
 (.reg [rg 2 (.mov (.c (.b true)))])
 (.pre (.norm false [2]) .ret))
 .skip)))
 (.reg [mv 20 4,rg 21 (.bin .add (.t 20) (.c (.i .i64 1))),mv 4 21])))
 (.norm false [1,3,4]))
def l675_1:AX:=
 (.note
 (.seq
 (.seq
 (.reg [mv 5 3,rg 6 (.fad 1 (.t 1)),rg 7 (.load none (.t 6)),rg 8 (.len (.t 7)),rg 9 (.bin .lss (.t 5) (.t 8))])
 (.cond (.t 9)
 .skip
 (.exit 0)))
 (.seq
 (.block 1
 (.seq
 (.reg [rg 4 (.mov (.c (.i .i64 0)))])
 (.lp 2 (.norm false [1,3,4]) l675_0 (.norm false [1,3]))))
 (.reg [mv 10 3,rg 11 (.bin .add (.t 10) (.c (.i .i64 1))),mv 3 11])))
 (.norm false [1,3]))
def b675:AX:=
 (.seq
 (.reg [rg 1 (.xop (.box 2) [(.t 0)]),rg 2 (.mov (.c (.b false)))])
 (.seq
 (.seq
 (.reg [rg 3 (.mov (.c (.i .i64 0)))])
 (.lp 0 (.norm false [1,3]) l675_1 (.norm false [1])))
 (.seq
 (.reg [rg 32 (.fad 0 (.t 1)),rg 33 (.load none (.t 32)),rg 34 (.len (.t 33)),rg 35 (.bin .gtr (.t 34) (.c (.i .i64 0))),mv 2 35])
 (.pre (.norm false [2]) .ret))))
class CRef22 (T:Tbl):Prop where
 h672:T 672=some ⟨3,52,[.t 6],b672,none,false⟩
 h673:T 673=some ⟨1,41,[.t 2,.t 3],b673,none,false⟩
 h674:T 674=some ⟨1,80,[.t 2],b674,none,false⟩
 h675:T 675=some ⟨1,36,[.t 2],b675,none,false⟩
section
variable{T:Tbl}[CRef22 T]{d:Option Nat}{st:St}{xs:List AV}{ps:List Opd}{e:Env}{h:Heap}{ol:List Heap}
@[simp] theorem x672:callX (orc T) T 672 xs d st=cP T 672 false xs d st:=zaa CRef22.h672
theorem f672(xs:List AV)(hn:xs.length=3):callF T 672 xs=retF [.t 6] false (evX (orc T) T 0 b672 ⟨argEnv xs,[],1⟩):=zab CRef22.h672 hn
@[simp] theorem x673:callX (orc T) T 673 xs d st=cP T 673 false xs d st:=zaa CRef22.h673
theorem f673(xs:List AV)(hn:xs.length=1):callF T 673 xs=retF [.t 2,.t 3] false (evX (orc T) T 0 b673 ⟨argEnv xs,[],1⟩):=zab CRef22.h673 hn
@[simp] theorem x674:callX (orc T) T 674 xs d st=cP T 674 false xs d st:=zaa CRef22.h674
theorem f674(xs:List AV)(hn:xs.length=1):callF T 674 xs=retF [.t 2] false (evX (orc T) T 0 b674 ⟨argEnv xs,[],1⟩):=zab CRef22.h674 hn
@[simp] theorem y675:opD (orc T) T (.call 675 ps) e h ol=dP T 675 false ps e:=za0 CRef22.h675
theorem f675(xs:List AV)(hn:xs.length=1):callF T 675 xs=retF [.t 2] false (evX (orc T) T 0 b675 ⟨argEnv xs,[],1⟩):=zab CRef22.h675 hn
end
def b680:AX:=
 (.seq
 (.reg [rg 1 (.xop (.box 2) [(.t 0)]),rg 2 (.mov (.c (.b false)))])
 (.seq
 (.reg [rg 3 (.load (some 2) (.t 1)),rg 4 (.fad 1 (.t 1)),rg 5 (.load none (.t 4)),rg 6 (.len (.t 5)),rg 7 (.call 682 [(.t 3),(.t 6),(.c (.i .i64 6))]),mv 2 7])
 (.pre (.norm false [2]) .ret)))
def b682:AX:=
 (.seq
 (.reg [rg 3 (.xop (.box 2) [(.t 0)]),rg 6 (.mov (.c (.b false)))])
 (.seq
 (.reg [rg 10 (.load (some 2) (.t 3)),mv 11 1,mv 12 2,rg 13 (.call 469 [(.t 10),(.t 11),(.t 12)]),mv 9 13,rg 14 (.ext (.t 9) 0),rg 15 (.ext (.t 9) 1),rg 8 (.alloc [(.i .i64 0),(.i .i64 0),(.i .i64 0)]),mv 7 14,so (.store 3 (.t 8) (.t 15))])
 (.seq
 (.reg [mv 16 7,rg 17 (.un .not (.t 16)),mv 6 17])
 (.pre (.norm false [6]) .ret))))
class CFine (T:Tbl):Prop where
 h680:T 680=some ⟨1,8,[.t 2],b680,none,false⟩
 h682:T 682=some ⟨3,18,[.t 6],b682,none,false⟩
section
variable{T:Tbl}[CFine T]{d:Option Nat}{st:St}{xs:List AV}{ps:List Opd}{e:Env}{h:Heap}{ol:List Heap}
@[simp] theorem x680:callX (orc T) T 680 xs d st=cP T 680 false xs d st:=zaa CFine.h680
theorem f680(xs:List AV)(hn:xs.length=1):callF T 680 xs=retF [.t 2] false (evX (orc T) T 0 b680 ⟨argEnv xs,[],1⟩):=zab CFine.h680 hn
@[simp] theorem x682:callX (orc T) T 682 xs d st=cP T 682 false xs d st:=zaa CFine.h682
theorem f682(xs:List AV)(hn:xs.length=3):callF T 682 xs=retF [.t 6] false (evX (orc T) T 0 b682 ⟨argEnv xs,[],1⟩):=zab CFine.h682 hn
end
def l591_0:AX:=
 (.note
 (.seq
 (.seq
 (.reg [mv 12 5,mv 13 12,gd 14 13 true (.mov (.t 6)),gd 15 13 true (.mov (.t 0)),gd 16 13 true (.len (.t 15)),gd 17 13 true (.bin .lss (.t 14) (.t 16)),rg 18 (.pick (.t 13) (.t 17) (.c (.b false))),mv 19 18,gd 20 19 true (.mov (.t 6)),gd 21 19 true (.mov (.t 1)),gd 22 19 true (.len (.t 21)),gd 23 19 true (.bin .lss (.t 20) (.t 22)),rg 24 (.pick (.t 19) (.t 23) (.c (.b false)))])
 (.cond (.t 24)
 .skip
 (.exit 0)))
 (.seq
 (.block 1
 (.drawT [mv 27 0,mv 28 6,rg 29 (.iad 1 (.t 27) (.t 28)),rg 30 (.load none (.t 29)),mv 31 1,mv 32 6,rg 33 (.iad 1 (.t 31) (.t 32)),rg 34 (.load none (.t 33))]
 [rg 35 (.bin .eql (.t 30) (.t 34)),mv 5 35]))
 (.reg [mv 25 6,rg 26 (.bin .add (.t 25) (.c (.i .i64 1))),mv 6 26])))
 (.norm false [0,1,5,6]))
def b591:AX:=
 (.seq
 (.reg [rg 4 (.mov (.c (.b false)))])
 (.seq
 (.reg [mv 7 0,rg 8 (.len (.t 7)),mv 9 1,rg 10 (.len (.t 9)),rg 11 (.bin .eql (.t 8) (.t 10)),mv 5 11])
 (.seq
 (.seq
 (.reg [rg 6 (.mov (.c (.i .i64 0)))])
 (.lp 0 (.norm false [0,1,5,6]) l591_0 (.norm false [5])))
 (.seq
 (.reg [mv 36 5,mv 4 36])
 (.pre (.norm false [4]) .ret)))))
class CSameI (T:Tbl):Prop where
 h591:T 591=some ⟨2,37,[.t 4],b591,none,false⟩
section
variable{T:Tbl}[CSameI T]{d:Option Nat}{st:St}{xs:List AV}{ps:List Opd}{e:Env}{h:Heap}{ol:List Heap}
@[simp] theorem y591:opD (orc T) T (.call 591 ps) e h ol=dP T 591 false ps e:=za0 CSameI.h591
theorem f591(xs:List AV)(hn:xs.length=2):callF T 591 xs=retF [.t 4] false (evX (orc T) T 0 b591 ⟨argEnv xs,[],1⟩):=zab CSameI.h591 hn
end
def l669_0:AX:=
 (.note
 (.seq
 (.seq
 (.reg [mv 80 11,mv 81 8,rg 82 (.len (.t 81)),rg 83 (.bin .lss (.t 80) (.t 82))])
 (.cond (.t 83)
 .skip
 (.exit 0)))
 (.seq
 (.block 1
 (.seq
 (.drawT [mv 86 4,mv 87 11,rg 88 (.iad 1 (.t 86) (.t 87)),rg 89 (.load none (.t 88)),rg 90 (.call 17 [(.t 89)]),mv 91 8,mv 92 11,rg 93 (.iad 1 (.t 91) (.t 92)),rg 94 (.load none (.t 93)),rg 95 (.call 16 [(.t 90),(.t 94)]),rg 96 (.un .not (.t 95)),mv 97 96,gd 98 97 false (.fad 1 (.t 6)),gd 99 97 false (.load none (.t 98)),gd 100 97 false (.mov (.t 11)),gd 101 97 false (.iad 1 (.t 99) (.t 100)),gd 102 97 false (.load none (.t 101)),gd 103 97 false (.call 17 [(.t 102)]),gd 104 97 false (.mov (.t 8)),gd 105 97 false (.mov (.t 11)),gd 106 97 false (.iad 1 (.t 104) (.t 105)),gd 107 97 false (.load none (.t 106))]
 [gd 108 97 false (.call 16 [(.t 103),(.t 107)]),gd 109 97 false (.un .not (.t 108)),rg 110 (.pick (.t 97) (.c (.b true)) (.t 109))])
 (.cond (.t 110)
 (.seq
 (.reg [rg 2 (.mov (.c (.b false)))])
 (.pre (.norm false [2]) .ret))
 .skip)))
 (.reg [mv 84 11,rg 85 (.bin .add (.t 84) (.c (.i .i64 1))),mv 11 85])))
 (.norm false [4,6,8,11]))
def b669:AX:=
 (.seq
 (.reg [rg 1 (.xop (.box 2) [(.t 0)]),rg 2 (.mov (.c (.b false)))])
 (.seq
 (.seq
 (.reg [rg 12 (.load (some 2) (.t 1)),rg 13 (.call 466 [(.t 12),(.c (.i .i64 12)),(.c (.i .i64 60)),(.c (.i .i64 9))])])
 (.cond (.t 13)
 (.seq
 (.reg [rg 14 (.call 671 []),mv 2 14])
 (.pre (.norm false [2]) .ret))
 .skip))
 (.seq
 (.reg [rg 15 (.load (some 2) (.t 1)),rg 16 (.call 468 [(.t 15)]),rg 3 (.alloc [(.sl [] .nl),(.sl [] .nl)]),so (.store 2 (.t 3) (.t 16))])
 (.seq
 (.reg [rg 18 (.load (some 2) (.t 3)),rg 19 (.call 665 [(.t 18)]),mv 17 19,rg 20 (.ext (.t 17) 0),rg 21 (.ext (.t 17) 1),mv 4 20,mv 5 21])
 (.seq
 (.reg [rg 23 (.load (some 2) (.t 3)),rg 24 (.call 666 [(.t 23)]),mv 22 24,rg 25 (.ext (.t 22) 0),rg 26 (.ext (.t 22) 1),rg 6 (.alloc [(.sl [] .nl),(.sl [] .nl)]),so (.store 2 (.t 6) (.t 25)),mv 7 26])
 (.seq
 (.reg [rg 28 (.load (some 2) (.t 1)),rg 29 (.call 673 [(.t 28)]),mv 27 29,rg 30 (.ext (.t 27) 0),rg 31 (.ext (.t 27) 1),mv 8 30,mv 9 31])
 (.seq
 (.reg [rg 32 (.bsl 1 [(.i .i64 0)] 0 []),mv 10 32])
 (.seq
 (.seq
 (.reg [rg 33 (.load (some 2) (.t 1)),rg 34 (.call 680 [(.t 33)])])
 (.cond (.t 34)
 (.reg [rg 35 (.load (some 2) (.t 1)),rg 36 (.call 674 [(.t 35)]),mv 10 36])
 .skip))
 (.seq
 (.seq
 (.drawT [mv 37 5,mv 38 9,rg 39 (.eqb true (.t 37) (.t 38)),mv 40 39,gd 41 40 false (.mov (.t 7)),gd 42 40 false (.mov (.t 9)),gd 43 40 false (.eqb true (.t 41) (.t 42)),rg 44 (.pick (.t 40) (.c (.b true)) (.t 43)),mv 45 44,gd 46 45 false (.load (some 2) (.t 3)),gd 47 45 false (.call 659 [(.t 46)]),gd 48 45 false (.load (some 2) (.t 1)),gd 49 45 false (.call 675 [(.t 48)]),gd 50 45 false (.eqb true (.t 47) (.t 49)),rg 51 (.pick (.t 45) (.c (.b true)) (.t 50)),mv 52 51,gd 53 52 false (.load (some 2) (.t 3)),gd 54 52 false (.call 668 [(.t 53)]),gd 55 52 false (.mov (.t 10)),gd 56 52 false (.call 591 [(.t 54),(.t 55)]),gd 57 52 false (.un .not (.t 56)),rg 58 (.pick (.t 52) (.c (.b true)) (.t 57)),mv 59 58,gd 60 59 false (.mov (.t 4)),gd 61 59 false (.len (.t 60)),gd 62 59 false (.mov (.t 8)),gd 63 59 false (.len (.t 62)),gd 64 59 false (.bin .neq (.t 61) (.t 63)),rg 65 (.pick (.t 59) (.c (.b true)) (.t 64)),mv 66 65,gd 67 66 false (.fad 1 (.t 6)),gd 68 66 false (.load none (.t 67)),gd 69 66 false (.len (.t 68)),gd 70 66 false (.mov (.t 8)),gd 71 66 false (.len (.t 70))]
 [gd 72 66 false (.bin .neq (.t 69) (.t 71)),rg 73 (.pick (.t 66) (.c (.b true)) (.t 72)),mv 74 73,gd 75 74 false (.fad 0 (.t 6)),gd 76 74 false (.load none (.t 75)),gd 77 74 false (.len (.t 76)),gd 78 74 false (.bin .gtr (.t 77) (.c (.i .i64 0))),rg 79 (.pick (.t 74) (.c (.b true)) (.t 78))])
 (.cond (.t 79)
 (.seq
 (.reg [rg 2 (.mov (.c (.b false)))])
 (.pre (.norm false [2]) .ret))
 .skip))
 (.seq
 (.seq
 (.reg [rg 11 (.mov (.c (.i .i64 0)))])
 (.lp 0 (.norm false [4,6,8,11]) l669_0 (.norm false [])))
 (.seq
 (.reg [rg 111 (.call 671 []),mv 2 111])
 (.pre (.norm false [2]) .ret))))))))))))
def b671:AX:=
 (.seq
 (.reg [rg 0 (.mov (.c (.b false)))])
 (.seq
 (.reg [rg 6 (.build [(.i .i64 0),(.i .i64 0),(.sl [] .nl)] [(0,1,(.c (.i .i64 2)))]),rg 7 (.bsl 1 [(u32 0)] 1 [(0,(.c (u32 1)))]),rg 8 (.build [(.i .i64 0),(.i .i64 0),(.sl [] .nl)] [(0,1,(.c (.i .i64 1))),(2,1,(.t 7))]),rg 9 (.build [(.i .i64 0),(.i .i64 0),(.sl [] .nl)] [(0,1,(.c (.i .i64 7)))]),rg 10 (.bsl 3 [(.i .i64 0),(.i .i64 0),(.sl [] .nl)] 3 [(0,(.t 6)),(1,(.t 8)),(2,(.t 9))]),mv 1 10])
 (.seq
 (.reg [mv 11 1,rg 12 (.build [(.s []),(.sl [] .nl)] [(0,1,(.c (.s [97]))),(1,1,(.t 11))]),rg 13 (.bsl 2 [(.s []),(.sl [] .nl)] 1 [(0,(.t 12))]),rg 14 (.build [(.i .i64 0),(.i .i64 0),(.sl [] .nl)] [(0,1,(.c (.i .i64 5)))]),rg 15 (.build [(.i .i64 0),(.i .i64 0),(.sl [] .nl)] [(0,1,(.c (.i .i64 5)))]),rg 16 (.build [(.i .i64 0),(.i .i64 0),(.sl [] .nl)] [(0,1,(.c (.i .i64 9)))]),rg 17 (.bsl 3 [(.i .i64 0),(.i .i64 0),(.sl [] .nl)] 3 [(0,(.t 14)),(1,(.t 15)),(2,(.t 16))]),rg 18 (.bsl 1 [(.sl [] .nl)] 1 [(0,(.t 17))]),rg 19 (.build [(.sl [] .nl),(.sl [] .nl)] [(0,1,(.t 13)),(1,1,(.t 18))]),rg 2 (.alloc [(.sl [] .nl),(.sl [] .nl)]),so (.store 2 (.t 2) (.t 19))])
 (.seq
 (.reg [rg 21 (.load (some 2) (.t 2)),rg 22 (.call 665 [(.t 21)]),mv 20 22,rg 23 (.ext (.t 20) 0),rg 24 (.ext (.t 20) 1),mv 3 23,mv 4 24])
 (.seq
 (.reg [rg 25 (.load (some 2) (.t 2)),rg 26 (.call 668 [(.t 25)]),mv 5 26])
 (.seq
 (.reg [mv 27 4,mv 28 27,gd 29 28 true (.mov (.t 3)),gd 30 28 true (.len (.t 29)),gd 31 28 true (.bin .eql (.t 30) (.c (.i .i64 1))),rg 32 (.pick (.t 28) (.t 31) (.c (.b false))),mv 33 32,gd 34 33 true (.mov (.t 3)),gd 35 33 true (.iad 1 (.t 34) (.c (.i .i64 0))),gd 36 33 true (.load none (.t 35)),gd 37 33 true (.len (.t 36)),gd 38 33 true (.bin .eql (.t 37) (.c (.i .i64 7))),rg 39 (.pick (.t 33) (.t 38) (.c (.b false))),mv 40 39,gd 41 40 true (.mov (.t 5)),gd 42 40 true (.len (.t 41)),gd 43 40 true (.bin .eql (.t 42) (.c (.i .i64 1))),rg 44 (.pick (.t 40) (.t 43) (.c (.b false))),mv 45 44,gd 46 45 true (.mov (.t 5)),gd 47 45 true (.iad 1 (.t 46) (.c (.i .i64 0))),gd 48 45 true (.load none (.t 47)),gd 49 45 true (.bin .eql (.t 48) (.c (.i .i64 2))),rg 50 (.pick (.t 45) (.t 49) (.c (.b false))),mv 51 50,gd 52 51 true (.load (some 2) (.t 2)),gd 53 51 true (.call 659 [(.t 52)]),rg 54 (.pick (.t 51) (.t 53) (.c (.b false))),mv 0 54])
 (.pre (.norm false [0]) .ret)))))))
class CLaw22 (T:Tbl):Prop where
 h669:T 669=some ⟨1,112,[.t 2],b669,none,false⟩
 h671:T 671=some ⟨0,55,[.t 0],b671,none,false⟩
section
variable{T:Tbl}[CLaw22 T]{d:Option Nat}{st:St}{xs:List AV}{ps:List Opd}{e:Env}{h:Heap}{ol:List Heap}
theorem f669(xs:List AV)(hn:xs.length=1):callF T 669 xs=retF [.t 2] false (evX (orc T) T 0 b669 ⟨argEnv xs,[],1⟩):=zab CLaw22.h669 hn
@[simp] theorem x671:callX (orc T) T 671 xs d st=cP T 671 false xs d st:=zaa CLaw22.h671
theorem f671(xs:List AV)(hn:xs.length=0):callF T 671 xs=retF [.t 0] false (evX (orc T) T 0 b671 ⟨argEnv xs,[],1⟩):=zab CLaw22.h671 hn
end
section
open Go.RowKit
def opU:AOp→List Nat
 | .call u _=>[u]
 | .ifc k _=>[1000000+k]
 | .inv _ k u _ _=>[1000000+k,u]
 | .xop (.mkf k) _ | .xop (.mkv k) _=>[1000000+k]
 | _=>[]
def cXs:AX→List Nat
 | .reg l=>l.flatMap fun o=>opU o.op
 | .draw l=>l.flatMap fun o=>opU o.ao.op
 | .drawT hd tl=>(hd.flatMap fun o=>opU o.op)++tl.flatMap fun o=>opU o.op
 | .drawM hd tl=>(hd.flatMap fun o=>opU o.op)++tl.flatMap fun o=>opU o.op
 | .drawC l1 o l2 tl=>(l1.flatMap fun o=>opU o.op)++(opU o.op++((l2.flatMap fun o=>opU o.op)++tl.flatMap fun o=>opU o.op))
 | .drawN l1 o l2=>(l1.flatMap fun o=>opU o.ao.op)++(opU o.op++l2.flatMap fun o=>opU o.ao.op)
 | .seq a b=>cXs a++cXs b
 | .cond _ x y=>cXs x++cXs y
 | .block _ c | .loop c | .note c _ | .pre _ c | .scope c | .lp _ _ c _=>cXs c
 | .gsc _ c r=>cXs c++cXs r
 | _=>[]
structure Agr (R:Nat→Bool) (T T':Tbl) (O O':Orc):Prop where
 tbl:∀u,R u=true→T u=T' u
 call:∀u xs hb,R u=true→O.call u xs hb=O'.call u xs hb
 loop:∀k c st,(∀u∈cXs c,R u=true)→O.loop k c st=O'.loop k c st
section
variable{R:Nat→Bool}{T T':Tbl}{O O':Orc}
theorem zf9(h:Agr R T T' O O'){u:Nat}(hu:R u=true){xs:List AV}{d:Option Nat}{st:St}:callX O T u xs d st=callX O' T' u xs d st:=by
 unfold callX
 rw[h.tbl u hu]
 simp only[h.call u _ _ hu]
theorem zwa(h:Agr R T T' O O'){op:AOp}(hu:∀u∈opU op,R u=true){d:Option Nat}{st:St}:opX O T op d st=opX O' T' op d st:=by
 cases op<;>simp only[opX]
 case call u args=>exact zf9 h (hu _ (by simp[opU]))
 case ifc k x=>unfold tyNum;rw[h.tbl _ (hu _ (by simp[opU]))]
 case inv nm k u r args=>
  have e1:tyNum T k=tyNum T' k:=by unfold tyNum;rw[h.tbl _ (hu _ (by simp[opU]))]
  have e2:methsT T k=methsT T' k:=by unfold methsT;rw[h.tbl _ (hu _ (by simp[opU]))]
  have e3:funT T k=funT T' k:=by unfold funT;rw[h.tbl _ (hu _ (by simp[opU]))]
  grind[zf9,opU]
 case xop k xs=>
  cases k<;>simp only
  all_goals rename_i k
  all_goals
   have e1:tyNum T k=tyNum T' k:=by unfold tyNum;rw[h.tbl _ (hu _ (by simp[opU]))]
   rw[e1]
theorem zrk(h:Agr R T T' O O'){o:AO}(hu:∀u∈opU o.op,R u=true){st:St}:stepX O T o st=stepX O' T' o st:=by
 unfold stepX gX
 simp only[zwa h hu]
theorem zec(h:Agr R T T' O O'):∀(l:List AO),(∀o∈l,∀u∈opU o.op,R u=true)→∀st,runX O T l st=runX O' T' l st
 | [],_,st=>rfl
 | o::l,hu,st=>by
  simp only[runX]
  rw[zrk h (hu o List.mem_cons_self)]
  congr 1
  funext s
  exact zec h l (fun o ho=>hu o (List.mem_cons_of_mem _ ho)) s
theorem zwb(h:Agr R T T' O O'){op:AOp}(hu:∀u∈opU op,R u=true){e:Env}{hp:Heap}{older:List Heap}:opD O T op e hp older=opD O' T' op e hp older:=by
 by_cases hap:∃z x0 y,op=.app z x0 y
 ·obtain⟨z,x0,y,rfl⟩:=hap
  by_cases hc:x0=.c (.sl [] .nl)
  ·subst hc;rfl
  ·rw[zlz hc,zlz hc]
 cases op<;>(try exact absurd ⟨_,_,_,rfl⟩ hap)<;>simp only[opD]
 case call u args=>
  rw[h.tbl _ (hu _ (by simp[opU]))]
  simp only[h.call _ _ _ (hu _ (show u∈_ by simp[opU]))]
 case ifc k x=>unfold tyNum;rw[h.tbl _ (hu _ (by simp[opU]))]
 case inv nm k u r args=>
  have e1:tyNum T k=tyNum T' k:=by unfold tyNum;rw[h.tbl _ (hu _ (by simp[opU]))]
  have e2:methsT T k=methsT T' k:=by unfold methsT;rw[h.tbl _ (hu _ (by simp[opU]))]
  rw[e1,e2,h.tbl u (hu u (by simp[opU]))]
  simp only[h.call u _ _ (hu u (by simp[opU]))]
theorem zkg(h:Agr R T T' O O'){o:AO}(hu:∀u∈opU o.op,R u=true){e:Env}{hp:Heap}{older:List Heap}:qX O T o e hp older=qX O' T' o e hp older:=by
 unfold qX
 simp only[zwb h hu]
theorem zrl(h:Agr R T T' O O'){u:Nat}(hu:R u=true){ys:List AV}:callR O T u ys=callR O' T' u ys:=by
 unfold callR
 rw[h.tbl u hu]
 simp only[h.call u _ _ hu]
theorem zga(h:Agr R T T' O O'):∀(l:List DO),(∀o∈l,∀u∈opU o.ao.op,R u=true)→∀e hp clk older pend,drawX O T l e hp clk older pend=drawX O' T' l e hp clk older pend
 | [],_,e,hp,clk,older,pend=>rfl
 | o::l,hu,e,hp,clk,older,pend=>by
  have ih:=zga h l (fun o ho=>hu o (List.mem_cons_of_mem _ ho))
  simp only[drawX]
  rw[zkg h (hu o List.mem_cons_self)]
  simp only[ih]
  cases o.ao.op.writes with
  | true=>rfl
  | false=>
   cases hrow:rowQ o.ao.guard o.ao.op.callN e hp (older.take (older.length-o.lo)) with
   | none=>rfl
   | some p=>
    obtain⟨_,args,hop,_⟩:=zkf hrow
    have hp:R p.1=true:=hu o List.mem_cons_self _ (by rw[hop];simp[opU])
    simp only[zrl h hp]
theorem zkh(h:Agr R T T' O O')(tl:List AO)(ht:∀o∈tl,∀u∈opU o.op,R u=true):∀(l:List AO),(∀o∈l,∀u∈opU o.op,R u=true)→∀e hp clk,headX O T tl l e hp clk=headX O' T' tl l e hp clk
 | [],_,e,hp,clk=>zec h tl ht _
 | o::l,hu,e,hp,clk=>by
  have ih:=zkh h tl ht l (fun o ho=>hu o (List.mem_cons_of_mem _ ho))
  simp only[headX]
  rw[zkg h (hu o List.mem_cons_self)]
  simp only[ih]
theorem zrm(h:Agr R T T' O O'){u:Nat}(hu:R u=true){xs:List AV}{d clk:Nat}:callM O T u xs d clk=callM O' T' u xs d clk:=by
 unfold callM
 rw[h.tbl u hu]
 simp only[h.call u _ _ hu]
theorem zki(h:Agr R T T' O O')(tl:List AO)(ht:∀o∈tl,∀u∈opU o.op,R u=true)(h0:Heap)(c0:Nat)(X:Heap):∀(l:List AO),(∀o∈l,∀u∈opU o.op,R u=true)→∀e hp clk,headM O T tl h0 c0 X l e hp clk=headM O' T' tl h0 c0 X l e hp clk
 | [],_,e,hp,clk=>zec h tl ht _
 | o::l,hu,e,hp,clk=>by
  have ih:=zki h tl ht h0 c0 X l (fun o ho=>hu o (List.mem_cons_of_mem _ ho))
  simp only[headM]
  rw[zkg h (hu o List.mem_cons_self)]
  simp only[ih]
  cases hm:o.op.maker with
  | true=>rfl
  | false=>
   cases hst:o.op.isStore with
   | true=>rfl
   | false=>
   cases hl:o.op.lentN with
   | none=>rfl
   | some ua=>
    have hua:R ua.1=true:=hu o List.mem_cons_self _ (by rw[zhz hl];simp[opU])
    simp only[zrm h hua]
theorem ziw(h:Agr R T T' O O'){K K':Env→PendX→Option St}(hK:∀e pend,K e pend=K' e pend)(hp:Heap):∀(l:List DO),(∀o∈l,∀u∈opU o.ao.op,R u=true)→∀e pend,preC O T K hp l e pend=preC O' T' K' hp l e pend
 | [],_,e,pend=>hK e pend
 | o::l,hu,e,pend=>by
  have ih:=ziw h hK hp l (fun o ho=>hu o (List.mem_cons_of_mem _ ho))
  simp only[preC]
  rw[zkg h (hu o List.mem_cons_self)]
  simp only[ih]
theorem zkj(h:Agr R T T' O O'){K K':Env→Option St}(hK:∀e,K e=K' e)(h0 h1:Heap):∀(l:List AO),(∀o∈l,∀u∈opU o.op,R u=true)→∀e,postC O T K h0 h1 l e=postC O' T' K' h0 h1 l e
 | [],_,e=>hK e
 | o::l,hu,e=>by
  have ih:=zkj h hK h0 h1 l (fun o ho=>hu o (List.mem_cons_of_mem _ ho))
  simp only[postC]
  rw[zkg h (hu o List.mem_cons_self)]
  simp only[ih]
theorem zkk(h:Agr R T T' O O'){o:AO}(hu:∀u∈opU o.op,R u=true){st:St}:callC O T o st=callC O' T' o st:=by
 obtain⟨d,g,op⟩:=o
 cases op
 case call u args=>
  cases g<;>cases d<;>simp only[callC]
  exact zf9 h (hu u (by simp[opU]))
 all_goals cases g<;>cases d<;>rfl
theorem zrn(h:Agr R T T' O O')(l1:List AO)(o:AO)(l2 tl:List AO)(hu:∀u∈cXs (.drawC l1 o l2 tl),R u=true)(st:St):headC O T l1 o l2 tl st=headC O' T' l1 o l2 tl st:=by
 have u1:∀o∈l1,∀u∈opU o.op,R u=true:=fun o ho u hou=>hu u (List.mem_append_left _ (List.mem_flatMap.2 ⟨o,ho,hou⟩))
 have u2:∀u∈opU o.op,R u=true:=fun u hou=>hu u (List.mem_append_right _ (List.mem_append_left _ hou))
 have u3:∀o∈l2,∀u∈opU o.op,R u=true:=fun o ho u hou=>hu u (List.mem_append_right _ (List.mem_append_right _ (List.mem_append_left _ (List.mem_flatMap.2 ⟨o,ho,hou⟩))))
 have u4:∀o∈tl,∀u∈opU o.op,R u=true:=fun o ho u hou=>hu u (List.mem_append_right _ (List.mem_append_right _ (List.mem_append_right _ (List.mem_flatMap.2 ⟨o,ho,hou⟩))))
 unfold headC
 refine ziw h (fun e pend=>?_) _ _ (fun o ho=>?_) _ _
 ·rw[zkk h u2]
  congr 1
  funext s
  rw[zkj h (fun e=>zec h tl u4 _) _ _ l2 u3]
 ·obtain⟨o',ho',rfl⟩:=List.mem_map.1 ho
  exact u1 o' ho'
theorem zro(h:Agr R T T' O O')(l1:List DO)(o:AO)(l2:List DO)(hu:∀u∈cXs (.drawN l1 o l2),R u=true)(st:St):headN O T l1 o l2 st=headN O' T' l1 o l2 st:=by
 have u1:∀o∈l1,∀u∈opU o.ao.op,R u=true:=fun o ho u hou=>hu u (List.mem_append_left _ (List.mem_flatMap.2 ⟨o,ho,hou⟩))
 have u2:∀u∈opU o.op,R u=true:=fun u hou=>hu u (List.mem_append_right _ (List.mem_append_left _ hou))
 have u3:∀o∈l2,∀u∈opU o.ao.op,R u=true:=fun o ho u hou=>hu u (List.mem_append_right _ (List.mem_append_right _ (List.mem_flatMap.2 ⟨o,ho,hou⟩)))
 unfold headN
 congr 1
 refine ziw h (fun e pend=>?_) _ _ (fun o ho=>?_) _ _
 ·rw[zkk h u2]
  congr 1
  funext s
  rw[zga h _ fun o ho=>?_]
  obtain⟨o',ho',rfl⟩:=List.mem_map.1 ho
  exact u3 o' ho'
 ·obtain⟨o',ho',rfl⟩:=List.mem_map.1 ho
  exact u1 o' ho'
theorem zbf(h:Agr R T T' O O')(k:Nat):∀(c:AX),(∀u∈cXs c,R u=true)→∀st,evX O T k c st=evX O' T' k c st
 | .skip,_,st=>rfl
 | .reg l,hu,st=>by
  simp only[evX]
  rw[zec h l fun o ho u hou=>hu u (List.mem_flatMap.2 ⟨o,ho,hou⟩)]
 | .draw l,hu,st=>by
  simp only[evX]
  rw[zga h l fun o ho u hou=>hu u (List.mem_flatMap.2 ⟨o,ho,hou⟩)]
 | .drawT hd tl,hu,st=>by
  simp only[evX]
  rw[zkh h tl (fun o ho u hou=>hu u (List.mem_append_right _ (List.mem_flatMap.2 ⟨o,ho,hou⟩))) hd (fun o ho u hou=>hu u (List.mem_append_left _ (List.mem_flatMap.2 ⟨o,ho,hou⟩)))]
 | .drawM hd tl,hu,st=>by
  simp only[evX]
  rw[zki h tl (fun o ho u hou=>hu u (List.mem_append_right _ (List.mem_flatMap.2 ⟨o,ho,hou⟩))) _ _ _ hd (fun o ho u hou=>hu u (List.mem_append_left _ (List.mem_flatMap.2 ⟨o,ho,hou⟩)))]
 | .drawC l1 o l2 tl,hu,st=>by
  simp only[evX]
  rw[zrn h l1 o l2 tl hu]
 | .drawN l1 o l2,hu,st=>by
  simp only[evX]
  rw[zro h l1 o l2 hu]
 | .bad,_,st=>rfl
 | .prim f,_,st=>rfl
 | .seq a b,hu,st=>by
  simp only[evX]
  rw[zbf h k a fun u hm=>hu u (List.mem_append_left _ hm)]
  congr 1
  funext r
  rw[zbf h k b fun u hm=>hu u (List.mem_append_right _ hm)]
 | .cond c x y,hu,st=>by
  simp only[evX]
  rw[zbf h k x fun u hm=>hu u (List.mem_append_left _ hm),zbf h k y fun u hm=>hu u (List.mem_append_right _ hm)]
 | .block id c,hu,st=>by
  simp only[evX]
  rw[zbf h k c hu]
 | .loop c,hu,st=>h.loop k c st hu
 | .exit id,_,st=>rfl
 | .ret,_,st=>rfl
 | .note c g,hu,st=>by
  simp only[evX]
  rw[zbf h k c hu]
 | .pre g c,hu,st=>by
  simp only[evX]
  congr 1
  funext s
  exact zbf h k c hu s
 | .scope c,hu,st=>by
  simp only[evX]
  rw[zbf h k c hu]
 | .label _,_,st=>rfl
 | .goto _,_,st=>rfl
 | .gsc l c r,hu,st=>by
  simp only[evX]
  rw[zbf h k c fun u hm=>hu u (List.mem_append_left _ hm)]
  congr 1
  funext s
  exact zbf h k r (fun u hm=>hu u (List.mem_append_right _ hm)) s
 | .lp id g c g2,hu,st=>by
  simp only[evX,h.loop k c _ hu]
theorem zrp(hc:∀u af,R u=true→T u=some af→∀v∈cXs af.body,R v=true)(h:Agr R T T' O O'):Agr R T T' (nextO T O) (nextO T' O') where
 tbl:=h.tbl
 call u xs hb hu:=by
  simp only[nextO]
  rw[←h.tbl u hu]
  cases ht:T u with
  | none=>rfl
  | some af=>
   grind[zbf]
 loop k c st hu:=by
  simp only[nextO]
  rw[zbf h k c hu]
  congr 1
  funext r
  rw[h.loop k c _ hu]
theorem zix(ht:∀u,R u=true→T u=T' u)(hc:∀u af,R u=true→T u=some af→∀v∈cXs af.body,R v=true):∀n,Agr R T T' (orcN T n) (orcN T' n)
 | 0=>⟨ht,fun _ _ _ _=>rfl,fun _ _ _ _=>rfl⟩
 | n+1=>zrp hc (zix ht hc n)
theorem zwc(ht:∀u,R u=true→T u=T' u)(hc:∀u af,R u=true→T u=some af→∀v∈cXs af.body,R v=true):Agr R T T' (orc T) (orc T'):=by
 refine⟨ht,fun u xs hb hu=>?_,fun k c st hu=>?_⟩
 ·simp only[orc]
  congr 1
  funext n
  exact(zix ht hc n).call u xs hb hu
 ·simp only[orc]
  congr 1
  funext n
  exact(zix ht hc n).loop k c st hu
end
theorem zcr{l:List (Nat×AFx)}{u:Nat}{af:AFx}(h:l.lookup u=some af):(u,af)∈l:=by
 induction l with
 | nil=>cases h
 | cons q l ih=>
  grind
structure Part (l l':List (Nat×AFx)):Prop where
 sub:∀p∈l',l.lookup p.1=some p.2
 clo:(l'.all fun p=>(cXs p.2.body).all fun v=>(l'.lookup v).isSome || (l.lookup v).isNone)=true
theorem Part.agr{l l':List (Nat×AFx)}(h:Part l l'):Agr (fun u=>(l'.lookup u).isSome || (l.lookup u).isNone) (fun u=>l.lookup u) (fun u=>l'.lookup u) (orc fun u=>l.lookup u) (orc fun u=>l'.lookup u):=by
 refine zwc (fun v hv=>?_) (fun v a hv hva w hw=>?_)
 ·cases hv2:l'.lookup v with
  | none=>
   cases hv3:l.lookup v with
   | none=>rfl
   | some a=>grind
  | some a=>exact h.sub _ (zcr hv2)
 ·cases hv2:l'.lookup v with
  | none=>grind
  | some b=>
   have hb:=zcr hv2
   have h1:=h.sub _ hb
   rw[hva]at h1
   cases h1
   exact List.all_eq_true.1 (List.all_eq_true.1 h.clo _ hb) w hw
theorem Part.ev{l l':List (Nat×AFx)}(h:Part l l'){c:AX}(hc:((cXs c).all fun v=>(l'.lookup v).isSome)=true){st:St}{r:Option (Ex×St)}
  (he:evX (orc fun u=>l.lookup u) (fun u=>l.lookup u) 0 c st=r):evX (orc fun u=>l'.lookup u) (fun u=>l'.lookup u) 0 c st=r:=by
 rw[←zbf h.agr 0 c (fun v hv=>by grind) st]
 omega
theorem Part.call{l l':List (Nat×AFx)}(h:Part l l'){u:Nat}(hu:(l'.lookup u).isSome=true){xs:List AV}{r:Option AV}(he:callF (fun u=>l.lookup u) u xs=r):callF (fun u=>l'.lookup u) u xs=r:=by
 rw[←he]
 unfold callF
 rw[h.agr.call u xs [] (by grind)]
end
end Go.Ab