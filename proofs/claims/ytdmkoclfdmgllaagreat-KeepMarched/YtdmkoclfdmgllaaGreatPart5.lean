/-
  A calculus of values, boxes and code, and what functions of the program compute, proved in it.
  Conditions: none beyond those that the theorems state. (Part 5.)
-/
import Derived.Test.YtdmkoclfdmgllaaGreatPart4

set_option linter.unusedSectionVars false
set_option linter.unusedVariables false
set_option linter.unusedSimpArgs false
set_option linter.unnecessarySimpa false

namespace Go.Ab
def b185:AX:=
 (.seq
 (.reg [rg 2 (.mov (.c (.b false)))])
 (.seq
 (.reg [mv 3 0,rg 4 (.bin .geq (.t 3) (.c (u8 48))),mv 5 4,gd 6 5 true (.mov (.t 0)),gd 7 5 true (.bin .leq (.t 6) (.c (u8 57))),rg 8 (.pick (.t 5) (.t 7) (.c (.b false))),mv 2 8])
 (.pre (.norm false [2]) .ret)))
def b186:AX:=
 (.seq
 (.reg [rg 2 (.mov (.c (.b false)))])
 (.seq
 (.reg [mv 3 0,rg 4 (.bin .geq (.t 3) (.c (u8 97))),mv 5 4,gd 6 5 true (.mov (.t 0)),gd 7 5 true (.bin .leq (.t 6) (.c (u8 122))),rg 8 (.pick (.t 5) (.t 7) (.c (.b false))),mv 9 8,gd 10 9 false (.mov (.t 0)),gd 11 9 false (.bin .geq (.t 10) (.c (u8 65))),gd 12 9 false (.mov (.t 11)),gd 13 12 true (.mov (.t 0)),gd 14 12 true (.bin .leq (.t 13) (.c (u8 90))),gd 15 9 false (.pick (.t 12) (.t 14) (.c (.b false))),rg 16 (.pick (.t 9) (.c (.b true)) (.t 15)),mv 17 16,gd 18 17 false (.mov (.t 0)),gd 19 17 false (.bin .eql (.t 18) (.c (u8 95))),rg 20 (.pick (.t 17) (.c (.b true)) (.t 19)),mv 2 20])
 (.pre (.norm false [2]) .ret)))
def b177:AX:=
 (.seq
 (.reg [rg 2 (.mov (.c (.i .i64 0)))])
 (.seq
 (.block 0
 (.seq
 (.reg [mv 4 0,rg 5 (.call 185 [(.t 4)]),mv 3 5])
 (.cond (.t 3)
 (.seq
 (.reg [rg 2 (.mov (.c (.i .i64 1)))])
 (.pre (.norm false [2]) .ret))
 (.seq
 (.reg [mv 7 0,rg 8 (.call 186 [(.t 7)]),mv 6 8])
 (.cond (.t 6)
 (.seq
 (.reg [rg 2 (.mov (.c (.i .i64 2)))])
 (.pre (.norm false [2]) .ret))
 (.seq
 (.reg [mv 10 0,rg 11 (.call 187 [(.t 10)]),mv 9 11])
 (.cond (.t 9)
 (.seq
 (.reg [rg 2 (.mov (.c (.i .i64 3)))])
 (.pre (.norm false [2]) .ret))
 .skip)))))))
 (.seq
 (.reg [rg 2 (.mov (.c (.i .i64 0)))])
 (.pre (.norm false [2]) .ret))))
def b188:AX:=
 (.seq
 (.reg [rg 4 (.mov (.c (.b false)))])
 (.seq
 (.reg [mv 5 0,rg 6 (.bin .eql (.t 5) (.c (.i .i64 1))),mv 7 6,gd 8 7 true (.mov (.t 1)),gd 9 7 true (.call 185 [(.t 8)]),rg 10 (.pick (.t 7) (.t 9) (.c (.b false))),mv 11 10,gd 12 11 false (.mov (.t 0)),gd 13 11 false (.bin .eql (.t 12) (.c (.i .i64 2))),gd 14 11 false (.mov (.t 13)),gd 15 14 true (.mov (.t 1)),gd 16 14 true (.call 186 [(.t 15)]),gd 17 14 true (.mov (.t 16)),gd 18 17 false (.mov (.t 1)),gd 19 17 false (.call 185 [(.t 18)]),gd 20 14 true (.pick (.t 17) (.c (.b true)) (.t 19)),gd 21 11 false (.pick (.t 14) (.t 20) (.c (.b false))),rg 22 (.pick (.t 11) (.c (.b true)) (.t 21)),mv 4 22])
 (.pre (.norm false [4]) .ret)))
def b179:AX:=
 (.seq
 (.reg [rg 2 (.mov (.c (.i .i64 0)))])
 (.seq
 (.seq
 (.reg [mv 3 0])
 (.block 0
 (.seq
 (.reg [rg 5 (.bin .eql (.t 3) (.c (.i .i64 1))),mv 4 5])
 (.cond (.t 4)
 (.seq
 (.reg [rg 2 (.mov (.c (.i .i64 60)))])
 (.pre (.norm false [2]) .ret))
 (.seq
 (.reg [rg 7 (.bin .eql (.t 3) (.c (.i .i64 2))),mv 6 7])
 (.cond (.t 6)
 (.seq
 (.reg [rg 2 (.mov (.c (.i .i64 12)))])
 (.pre (.norm false [2]) .ret))
 .skip))))))
 (.seq
 (.reg [rg 2 (.mov (.c (.i .i64 1)))])
 (.pre (.norm false [2]) .ret))))
def l178_0:AX:=
 (.note
 (.seq
 (.seq
 (.reg [mv 6 5,mv 7 0,rg 8 (.lens (.t 7)),rg 9 (.bin .lss (.t 6) (.t 8)),mv 10 9,gd 11 10 true (.mov (.t 1)),gd 12 10 true (.mov (.t 0)),gd 13 10 true (.mov (.t 5)),gd 14 10 true (.ixs (.t 12) (.t 13)),gd 15 10 true (.call 188 [(.t 11),(.t 14)]),rg 16 (.pick (.t 10) (.t 15) (.c (.b false)))])
 (.cond (.t 16)
 .skip
 (.exit 0)))
 (.block 1
 (.reg [mv 17 5,rg 18 (.bin .add (.t 17) (.c (.i .i64 1))),mv 5 18])))
 (.norm false [0,1,5]))
def b178:AX:=
 (.seq
 (.reg [rg 4 (.mov (.c (.i .i64 0)))])
 (.seq
 (.reg [rg 5 (.mov (.c (.i .i64 1)))])
 (.seq
 (.lp 0 (.norm false [0,1,5]) l178_0 (.norm false [5]))
 (.seq
 (.reg [mv 19 5,mv 4 19])
 (.pre (.norm false [4]) .ret)))))
def b172:AX:=
 (.seq
 (.reg [rg 1 (.xop (.box 3) [(.t 0)]),rg 2 (.mov (.c (.b false)))])
 (.seq
 (.seq
 (.drawT [rg 3 (.fad 1 (.t 1)),rg 4 (.load none (.t 3)),rg 5 (.bin .eql (.t 4) (.c (.s []))),mv 6 5,gd 7 6 false (.fad 0 (.t 1)),gd 8 6 false (.load none (.t 7)),gd 9 6 false (.bin .eql (.t 8) (.c (.i .i64 0))),rg 10 (.pick (.t 6) (.c (.b true)) (.t 9)),mv 11 10,gd 12 11 false (.fad 1 (.t 1)),gd 13 11 false (.load none (.t 12)),gd 14 11 false (.ixs (.t 13) (.c (.i .i64 0))),gd 15 11 false (.call 177 [(.t 14)]),gd 16 11 false (.fad 0 (.t 1)),gd 17 11 false (.load none (.t 16))]
 [gd 18 11 false (.bin .neq (.t 15) (.t 17)),rg 19 (.pick (.t 11) (.c (.b true)) (.t 18))])
 (.cond (.t 19)
 (.seq
 (.reg [rg 2 (.mov (.c (.b false)))])
 (.pre (.norm false [2]) .ret))
 .skip))
 (.seq
 (.drawT [rg 20 (.fad 1 (.t 1)),rg 21 (.load none (.t 20)),rg 22 (.fad 0 (.t 1)),rg 23 (.load none (.t 22)),rg 24 (.call 178 [(.t 21),(.t 23)]),rg 25 (.fad 1 (.t 1)),rg 26 (.load none (.t 25)),rg 27 (.lens (.t 26)),rg 28 (.bin .eql (.t 24) (.t 27)),mv 29 28,gd 30 29 true (.fad 1 (.t 1)),gd 31 29 true (.load none (.t 30)),gd 32 29 true (.lens (.t 31)),gd 33 29 true (.fad 0 (.t 1)),gd 34 29 true (.load none (.t 33)),gd 35 29 true (.call 179 [(.t 34)])]
 [gd 36 29 true (.bin .leq (.t 32) (.t 35)),rg 37 (.pick (.t 29) (.t 36) (.c (.b false))),mv 2 37])
 (.pre (.norm false [2]) .ret))))
class CLex (T:Tbl):Prop where
 h185:T 185=some ⟨1,9,[.t 2],b185,none,false⟩
 h186:T 186=some ⟨1,21,[.t 2],b186,none,false⟩
 h187:T 187=some ⟨0,0,[],.prim prim187,none,false⟩
 h177:T 177=some ⟨1,12,[.t 2],b177,none,false⟩
 h188:T 188=some ⟨2,23,[.t 4],b188,none,false⟩
 h179:T 179=some ⟨1,8,[.t 2],b179,none,false⟩
 h178:T 178=some ⟨2,20,[.t 4],b178,none,false⟩
 h172:T 172=some ⟨1,38,[.t 2],b172,none,false⟩
section
variable{T:Tbl}[CLex T]{d:Option Nat}{st:St}{xs:List AV}{ps:List Opd}{e:Env}{h:Heap}{ol:List Heap}
@[simp] theorem x185:callX (orc T) T 185 xs d st=cP T 185 false xs d st:=zaa CLex.h185
theorem f185(xs:List AV)(hn:xs.length=1):callF T 185 xs=retF [.t 2] false (evX (orc T) T 0 b185 ⟨argEnv xs,[],1⟩):=zab CLex.h185 hn
@[simp] theorem x186:callX (orc T) T 186 xs d st=cP T 186 false xs d st:=zaa CLex.h186
theorem f186(xs:List AV)(hn:xs.length=1):callF T 186 xs=retF [.t 2] false (evX (orc T) T 0 b186 ⟨argEnv xs,[],1⟩):=zab CLex.h186 hn
@[simp] theorem x187:callX (orc T) T 187 xs d st=cP T 187 false xs d st:=zaa CLex.h187
theorem p187(xs:List AV):callF T 187 xs=prim187 xs:=zre CLex.h187
@[simp] theorem y177:opD (orc T) T (.call 177 ps) e h ol=dP T 177 false ps e:=zal CLex.h177
theorem f177(xs:List AV)(hn:xs.length=1):callF T 177 xs=retF [.t 2] false (evX (orc T) T 0 b177 ⟨argEnv xs,[],1⟩):=zab CLex.h177 hn
@[simp] theorem x188:callX (orc T) T 188 xs d st=cP T 188 false xs d st:=zaa CLex.h188
theorem f188(xs:List AV)(hn:xs.length=2):callF T 188 xs=retF [.t 4] false (evX (orc T) T 0 b188 ⟨argEnv xs,[],1⟩):=zab CLex.h188 hn
@[simp] theorem y179:opD (orc T) T (.call 179 ps) e h ol=dP T 179 false ps e:=zal CLex.h179
theorem f179(xs:List AV)(hn:xs.length=1):callF T 179 xs=retF [.t 2] false (evX (orc T) T 0 b179 ⟨argEnv xs,[],1⟩):=zab CLex.h179 hn
@[simp] theorem y178:opD (orc T) T (.call 178 ps) e h ol=dP T 178 false ps e:=zal CLex.h178
theorem f178(xs:List AV)(hn:xs.length=2):callF T 178 xs=retF [.t 4] false (evX (orc T) T 0 b178 ⟨argEnv xs,[],1⟩):=zab CLex.h178 hn
@[simp] theorem x172:callX (orc T) T 172 xs d st=cP T 172 false xs d st:=zaa CLex.h172
theorem f172(xs:List AV)(hn:xs.length=1):callF T 172 xs=retF [.t 2] false (evX (orc T) T 0 b172 ⟨argEnv xs,[],1⟩):=zab CLex.h172 hn
end
def b536:AX:=
 (.seq
 (.reg [rg 1 (.xop (.box 5) [(.t 0)]),rg 2 (.mov (.c (.b false)))])
 (.seq
 (.reg [rg 3 (.load (some 5) (.t 1)),rg 4 (.call 551 [(.t 3)]),rg 5 (.bin .eql (.t 4) (.c (.i .i64 0))),mv 2 5])
 (.pre (.norm false [2]) .ret)))
def b551:AX:=
 (.seq
 (.reg [rg 1 (.xop (.box 5) [(.t 0)]),rg 2 (.mov (.c (.i .i64 0)))])
 (.seq
 (.reg [rg 4 (.call 205 [(.c (.i .i64 1))]),rg 3 (.alloc [(.b false),(.sl [] .nl),(.sl [] .nl)]),so (.store 3 (.t 3) (.t 4))])
 (.seq
 (.block 0
 (.seq
 (.reg [rg 6 (.fad 0 (.t 1)),rg 7 (.load none (.t 6)),rg 8 (.build [(.i .i64 0),(.s []),(.i .i64 0)] [(0,1,(.c (.i .i64 2))),(1,1,(.t 7))]),rg 9 (.call 172 [(.t 8)]),rg 10 (.un .not (.t 9)),mv 5 10])
 (.cond (.t 5)
 (.seq
 (.reg [rg 2 (.mov (.c (.i .i64 1)))])
 (.pre (.norm false [2]) .ret))
 (.seq
 (.reg [rg 12 (.load (some 5) (.t 1)),rg 13 (.call 559 [(.t 12)]),rg 14 (.un .not (.t 13)),mv 11 14])
 (.cond (.t 11)
 (.seq
 (.reg [rg 2 (.mov (.c (.i .i64 2)))])
 (.pre (.norm false [2]) .ret))
 (.seq
 (.reg [rg 16 (.fad 2 (.t 1)),rg 17 (.load none (.t 16)),rg 18 (.call 560 [(.t 17)]),rg 19 (.un .not (.t 18)),mv 20 19,gd 21 20 false (.fad 3 (.t 1)),gd 22 20 false (.load none (.t 21)),gd 23 20 false (.fad 1 (.t 1)),gd 24 20 false (.load none (.t 23)),gd 25 20 false (.fad 4 (.t 1)),gd 26 20 false (.load none (.t 25)),gd 27 20 false (.bsl 1 [(.sl [] .nl)] 3 [(0,(.t 22)),(1,(.t 24)),(2,(.t 26))]),gd 28 20 false (.call 560 [(.t 27)]),gd 29 20 false (.un .not (.t 28)),rg 30 (.pick (.t 20) (.c (.b true)) (.t 29)),mv 15 30])
 (.cond (.t 15)
 (.seq
 (.reg [rg 2 (.mov (.c (.i .i64 3)))])
 (.pre (.norm false [2]) .ret))
 (.seq
 (.reg [rg 32 (.load (some 5) (.t 1)),rg 33 (.call 561 [(.t 32)]),rg 34 (.un .not (.t 33)),mv 31 34])
 (.cond (.t 31)
 (.seq
 (.reg [rg 2 (.mov (.c (.i .i64 4)))])
 (.pre (.norm false [2]) .ret))
 (.seq
 (.drawT [rg 36 (.fad 3 (.t 1)),rg 37 (.load none (.t 36)),rg 38 (.call 562 [(.t 37)]),rg 39 (.load (some 3) (.t 3))]
 [rg 40 (.call 212 [(.t 38),(.t 39)]),rg 41 (.un .not (.t 40)),mv 35 41])
 (.cond (.t 35)
 (.seq
 (.reg [rg 2 (.mov (.c (.i .i64 5)))])
 (.pre (.norm false [2]) .ret))
 (.seq
 (.drawT [rg 43 (.fad 4 (.t 1)),rg 44 (.load none (.t 43)),rg 45 (.len (.t 44)),rg 46 (.bin .gtr (.t 45) (.c (.i .i64 0))),mv 47 46,gd 48 47 true (.fad 4 (.t 1)),gd 49 47 true (.load none (.t 48)),gd 50 47 true (.call 562 [(.t 49)]),gd 51 47 true (.load (some 3) (.t 3))]
 [gd 52 47 true (.call 212 [(.t 50),(.t 51)]),gd 53 47 true (.un .not (.t 52)),rg 54 (.pick (.t 47) (.t 53) (.c (.b false))),mv 42 54])
 (.cond (.t 42)
 (.seq
 (.reg [rg 2 (.mov (.c (.i .i64 6)))])
 (.pre (.norm false [2]) .ret))
 .skip)))))))))))))
 (.seq
 (.reg [rg 2 (.mov (.c (.i .i64 0)))])
 (.pre (.norm false [2]) .ret)))))
def l559_0:AX:=
 (.note
 (.seq
 (.reg [rg 46 (.bin .lss (.t 45) (.t 44))])
 (.seq
 (.cond (.t 46)
 .skip
 (.exit 0))
 (.seq
 (.block 1
 (.seq
 (.reg [mv 47 45,rg 48 (.iad 1 (.t 43) (.t 45)),rg 49 (.load none (.t 48)),mv 4 47,mv 5 49])
 (.seq
 (.reg [mv 50 5,rg 51 (.len (.t 50)),mv 52 4,rg 53 (.bin .neq (.t 51) (.t 52))])
 (.cond (.t 53)
 (.seq
 (.reg [rg 2 (.mov (.c (.b false)))])
 (.pre (.norm false [2]) .ret))
 .skip))))
 (.reg [rg 54 (.bin .add (.t 45) (.c (.i .i64 1))),mv 45 54]))))
 (.norm false [43,44,45]))
def b559:AX:=
 (.seq
 (.reg [rg 1 (.xop (.box 5) [(.t 0)]),rg 2 (.mov (.c (.b false)))])
 (.seq
 (.reg [rg 6 (.fad 3 (.t 1)),rg 7 (.load none (.t 6)),rg 8 (.len (.t 7)),mv 3 8])
 (.seq
 (.seq
 (.reg [mv 9 3,rg 10 (.bin .lss (.t 9) (.c (.i .i64 1))),mv 11 10,gd 12 11 false (.mov (.t 3)),gd 13 11 false (.bin .gtr (.t 12) (.c (.i .i64 8))),rg 14 (.pick (.t 11) (.c (.b true)) (.t 13)),mv 15 14,gd 16 15 false (.fad 1 (.t 1)),gd 17 15 false (.load none (.t 16)),gd 18 15 false (.len (.t 17)),gd 19 15 false (.mov (.t 3)),gd 20 15 false (.bin .neq (.t 18) (.t 19)),rg 21 (.pick (.t 15) (.c (.b true)) (.t 20)),mv 22 21,gd 23 22 false (.fad 2 (.t 1)),gd 24 22 false (.load none (.t 23)),gd 25 22 false (.len (.t 24)),gd 26 22 false (.mov (.t 3)),gd 27 22 false (.bin .neq (.t 25) (.t 26)),rg 28 (.pick (.t 22) (.c (.b true)) (.t 27)),mv 29 28,gd 30 29 false (.fad 4 (.t 1)),gd 31 29 false (.load none (.t 30)),gd 32 29 false (.len (.t 31)),gd 33 29 false (.mov (.t 3)),gd 34 29 false (.bin .neq (.t 32) (.t 33)),gd 35 29 false (.mov (.t 34)),gd 36 35 true (.fad 4 (.t 1)),gd 37 35 true (.load none (.t 36)),gd 38 35 true (.len (.t 37)),gd 39 35 true (.bin .neq (.t 38) (.c (.i .i64 0))),gd 40 29 false (.pick (.t 35) (.t 39) (.c (.b false))),rg 41 (.pick (.t 29) (.c (.b true)) (.t 40))])
 (.cond (.t 41)
 (.seq
 (.reg [rg 2 (.mov (.c (.b false)))])
 (.pre (.norm false [2]) .ret))
 .skip))
 (.seq
 (.seq
 (.reg [rg 42 (.fad 2 (.t 1)),rg 43 (.load none (.t 42)),rg 44 (.len (.t 43)),rg 45 (.mov (.c (.i .i64 0)))])
 (.lp 0 (.norm false [43,44,45]) l559_0 (.norm false [])))
 (.seq
 (.reg [rg 2 (.mov (.c (.b true)))])
 (.pre (.norm false [2]) .ret))))))
def l560_0:AX:=
 (.note
 (.seq
 (.reg [rg 16 (.bin .lss (.t 15) (.t 14))])
 (.seq
 (.cond (.t 16)
 .skip
 (.exit 2))
 (.seq
 (.block 3
 (.seq
 (.reg [rg 17 (.iad 3 (.t 13) (.t 15)),rg 18 (.load (some 3) (.t 17)),rg 6 (.alloc [(.b false),(.sl [] .nl),(.sl [] .nl)]),so (.store 3 (.t 6) (.t 18))])
 (.seq
 (.reg [rg 19 (.load (some 3) (.t 6)),rg 20 (.call 208 [(.t 19)]),rg 21 (.un .not (.t 20)),mv 22 21,gd 23 22 false (.load (some 3) (.t 6)),gd 24 22 false (.call 223 [(.t 23)]),gd 25 22 false (.bin .gtr (.t 24) (.c (.i .i64 190))),rg 26 (.pick (.t 22) (.c (.b true)) (.t 25))])
 (.cond (.t 26)
 (.seq
 (.reg [rg 2 (.mov (.c (.b false)))])
 (.pre (.norm false [2]) .ret))
 .skip))))
 (.reg [rg 27 (.bin .add (.t 15) (.c (.i .i64 1))),mv 15 27]))))
 (.norm false [7,8,9,13,14,15]))
def l560_1:AX:=
 (.note
 (.seq
 (.reg [rg 10 (.bin .lss (.t 9) (.t 8))])
 (.seq
 (.cond (.t 10)
 .skip
 (.exit 0))
 (.seq
 (.block 1
 (.seq
 (.reg [rg 11 (.iad 1 (.t 7) (.t 9)),rg 12 (.load none (.t 11)),mv 4 12])
 (.seq
 (.reg [mv 13 4,rg 14 (.len (.t 13)),rg 15 (.mov (.c (.i .i64 0)))])
 (.lp 2 (.norm false [7,8,9,13,14,15]) l560_0 (.norm false [7,8,9])))))
 (.reg [rg 28 (.bin .add (.t 9) (.c (.i .i64 1))),mv 9 28]))))
 (.norm false [7,8,9]))
def b560:AX:=
 (.seq
 (.reg [rg 2 (.mov (.c (.b false)))])
 (.seq
 (.seq
 (.reg [mv 7 0,rg 8 (.len (.t 7)),rg 9 (.mov (.c (.i .i64 0)))])
 (.lp 0 (.norm false [7,8,9]) l560_1 (.norm false [])))
 (.seq
 (.reg [rg 2 (.mov (.c (.b true)))])
 (.pre (.norm false [2]) .ret))))
def l561_0:AX:=
 (.note
 (.seq
 (.reg [rg 9 (.bin .lss (.t 8) (.t 7))])
 (.seq
 (.cond (.t 9)
 .skip
 (.exit 0))
 (.seq
 (.block 1
 (.seq
 (.reg [mv 10 8,rg 11 (.iad 1 (.t 6) (.t 8)),rg 12 (.load none (.t 11)),mv 3 10,mv 4 12])
 (.seq
 (.drawT [mv 13 4,rg 14 (.call 562 [(.t 13)]),rg 15 (.fad 1 (.t 1)),rg 16 (.load none (.t 15)),mv 17 3,rg 18 (.iad 3 (.t 16) (.t 17)),rg 19 (.load (some 3) (.t 18))]
 [rg 20 (.call 212 [(.t 14),(.t 19)]),rg 21 (.un .not (.t 20))])
 (.cond (.t 21)
 (.seq
 (.reg [rg 2 (.mov (.c (.b false)))])
 (.pre (.norm false [2]) .ret))
 .skip))))
 (.reg [rg 22 (.bin .add (.t 8) (.c (.i .i64 1))),mv 8 22]))))
 (.norm false [1,6,7,8]))
def b561:AX:=
 (.seq
 (.reg [rg 1 (.xop (.box 5) [(.t 0)]),rg 2 (.mov (.c (.b false)))])
 (.seq
 (.seq
 (.reg [rg 5 (.fad 2 (.t 1)),rg 6 (.load none (.t 5)),rg 7 (.len (.t 6)),rg 8 (.mov (.c (.i .i64 0)))])
 (.lp 0 (.norm false [1,6,7,8]) l561_0 (.norm false [])))
 (.seq
 (.reg [rg 2 (.mov (.c (.b true)))])
 (.pre (.norm false [2]) .ret))))
def l562_0:AX:=
 (.note
 (.seq
 (.reg [rg 10 (.bin .lss (.t 9) (.t 8))])
 (.seq
 (.cond (.t 10)
 .skip
 (.exit 0))
 (.seq
 (.block 1
 (.seq
 (.reg [rg 11 (.iad 3 (.t 7) (.t 9)),rg 12 (.load (some 3) (.t 11)),rg 5 (.alloc [(.b false),(.sl [] .nl),(.sl [] .nl)]),so (.store 3 (.t 5) (.t 12))])
 (.reg [rg 13 (.load (some 3) (.t 3)),rg 14 (.load (some 3) (.t 5)),rg 15 (.call 215 [(.t 13),(.t 14)]),so (.store 3 (.t 3) (.t 15))])))
 (.reg [rg 16 (.bin .add (.t 9) (.c (.i .i64 1))),mv 9 16]))))
 (.norm false [2,3,7,8,9]))
def b562:AX:=
 (.seq
 (.reg [rg 2 (.alloc [(.b false),(.sl [] .nl),(.sl [] .nl)])])
 (.seq
 (.reg [rg 6 (.call 205 [(.c (.i .i64 0))]),rg 3 (.alloc [(.b false),(.sl [] .nl),(.sl [] .nl)]),so (.store 3 (.t 3) (.t 6))])
 (.seq
 (.seq
 (.reg [mv 7 0,rg 8 (.len (.t 7)),rg 9 (.mov (.c (.i .i64 0)))])
 (.lp 0 (.norm false [2,3,7,8,9]) l562_0 (.norm false [2,3])))
 (.seq
 (.reg [rg 17 (.load (some 3) (.t 3)),so (.store 3 (.t 2) (.t 17))])
 (.pre (.norm false [2]) .ret)))))
class CScheme (T:Tbl):Prop where
 h536:T 536=some ⟨1,6,[.t 2],b536,none,false⟩
 h551:T 551=some ⟨1,55,[.t 2],b551,none,false⟩
 h559:T 559=some ⟨1,55,[.t 2],b559,none,false⟩
 h560:T 560=some ⟨1,29,[.t 2],b560,none,false⟩
 h561:T 561=some ⟨1,23,[.t 2],b561,none,false⟩
 h562:T 562=some ⟨1,18,[.cell 2 (some 3)],b562,none,false⟩
section
variable{T:Tbl}[CScheme T]{d:Option Nat}{st:St}{xs:List AV}{ps:List Opd}{e:Env}{h:Heap}{ol:List Heap}
@[simp] theorem x536:callX (orc T) T 536 xs d st=cP T 536 false xs d st:=zaa CScheme.h536
theorem f536(xs:List AV)(hn:xs.length=1):callF T 536 xs=retF [.t 2] false (evX (orc T) T 0 b536 ⟨argEnv xs,[],1⟩):=zab CScheme.h536 hn
@[simp] theorem x551:callX (orc T) T 551 xs d st=cP T 551 false xs d st:=zaa CScheme.h551
theorem f551(xs:List AV)(hn:xs.length=1):callF T 551 xs=retF [.t 2] false (evX (orc T) T 0 b551 ⟨argEnv xs,[],1⟩):=zab CScheme.h551 hn
@[simp] theorem x559:callX (orc T) T 559 xs d st=cP T 559 false xs d st:=zaa CScheme.h559
theorem f559(xs:List AV)(hn:xs.length=1):callF T 559 xs=retF [.t 2] false (evX (orc T) T 0 b559 ⟨argEnv xs,[],1⟩):=zab CScheme.h559 hn
@[simp] theorem x560:callX (orc T) T 560 xs d st=cP T 560 false xs d st:=zaa CScheme.h560
theorem f560(xs:List AV)(hn:xs.length=1):callF T 560 xs=retF [.t 2] false (evX (orc T) T 0 b560 ⟨argEnv xs,[],1⟩):=zab CScheme.h560 hn
@[simp] theorem x561:callX (orc T) T 561 xs d st=cP T 561 false xs d st:=zaa CScheme.h561
theorem f561(xs:List AV)(hn:xs.length=1):callF T 561 xs=retF [.t 2] false (evX (orc T) T 0 b561 ⟨argEnv xs,[],1⟩):=zab CScheme.h561 hn
@[simp] theorem y562:opD (orc T) T (.call 562 ps) e h ol=dP T 562 false ps e:=zal CScheme.h562
theorem f562(xs:List AV)(hn:xs.length=1):callF T 562 xs=retF [.cell 2 (some 3)] false (evX (orc T) T 0 b562 ⟨argEnv xs,[],1⟩):=zab CScheme.h562 hn
end
def b555:AX:=
 (.seq
 (.reg [rg 1 (.xop (.box 5) [(.t 0)]),rg 2 (.mov (.c (.sl [] .nl)))])
 (.seq
 (.seq
 (.reg [rg 5 (.load (some 5) (.t 1)),rg 6 (.call 536 [(.t 5)]),rg 7 (.un .not (.t 6)),mv 8 7,gd 9 8 false (.fad 4 (.t 1)),gd 10 8 false (.load none (.t 9)),gd 11 8 false (.len (.t 10)),gd 12 8 false (.bin .eql (.t 11) (.c (.i .i64 0))),rg 13 (.pick (.t 8) (.c (.b true)) (.t 12))])
 (.cond (.t 13)
 (.seq
 (.reg [rg 2 (.mov (.c (.sl [] .nl)))])
 (.pre (.norm false [2]) .ret))
 .skip))
 (.seq
 (.reg [rg 15 (.fad 3 (.t 1)),rg 16 (.load none (.t 15)),rg 17 (.fad 4 (.t 1)),rg 18 (.load none (.t 17)),rg 19 (.call 268 [(.t 16),(.t 18)]),mv 14 19,rg 20 (.ext (.t 14) 0),rg 21 (.ext (.t 14) 1),mv 3 20,mv 4 21])
 (.seq
 (.reg [mv 22 3,mv 2 22])
 (.pre (.norm false [2]) .ret)))))
class CSchP (T:Tbl):Prop where
 h555:T 555=some ⟨1,23,[.t 2],b555,none,false⟩
section
variable{T:Tbl}[CSchP T]{d:Option Nat}{st:St}{xs:List AV}{ps:List Opd}{e:Env}{h:Heap}{ol:List Heap}
@[simp] theorem x555:callX (orc T) T 555 xs d st=cP T 555 false xs d st:=zaa CSchP.h555
theorem f555(xs:List AV)(hn:xs.length=1):callF T 555 xs=retF [.t 2] false (evX (orc T) T 0 b555 ⟨argEnv xs,[],1⟩):=zab CSchP.h555 hn
end
def b524:AX:=
 (.seq
 (.reg [rg 1 (.xop (.box 11) [(.t 0)]),rg 2 (.mov (.c (.b false)))])
 (.seq
 (.reg [rg 3 (.fad 0 (.t 1)),rg 4 (.load (some 4) (.t 3)),rg 5 (.call 421 [(.t 4)]),mv 6 5,gd 7 6 true (.fad 4 (.t 1)),gd 8 6 true (.load (some 5) (.t 7)),gd 9 6 true (.call 536 [(.t 8)]),rg 10 (.pick (.t 6) (.t 9) (.c (.b false))),mv 11 10,gd 12 11 true (.fad 9 (.t 1)),gd 13 11 true (.load none (.t 12)),gd 14 11 true (.len (.t 13)),gd 15 11 true (.fad 0 (.t 1)),gd 16 11 true (.fad 3 (.t 15)),gd 17 11 true (.load none (.t 16)),gd 18 11 true (.bin .eql (.t 14) (.t 17)),rg 19 (.pick (.t 11) (.t 18) (.c (.b false))),mv 2 19])
 (.pre (.norm false [2]) .ret)))
def b563:AX:=
 (.seq
 (.reg [rg 3 (.xop (.box 11) [(.t 0)]),rg 4 (.xop (.box 3) [(.t 1)]),rg 6 (.alloc [(.b false),(.sl [] .nl),(.sl [] .nl),(.sl [] .nl),(.sl [] .nl)])])
 (.seq
 (.reg [rg 7 (.load (some 3) (.t 4)),mv 8 2,rg 9 (.fad 9 (.t 3)),rg 10 (.load none (.t 9)),rg 11 (.build [(.b false),(.sl [] .nl),(.sl [] .nl),(.sl [] .nl),(.sl [] .nl)] [(0,3,(.t 7)),(3,1,(.t 8)),(4,1,(.t 10))]),so (.store 5 (.t 6) (.t 11))])
 (.pre (.norm false [6]) .ret)))
class CStep (T:Tbl):Prop where
 h524:T 524=some ⟨1,20,[.t 2],b524,none,false⟩
 h563:T 563=some ⟨3,12,[.cell 6 (some 5)],b563,none,false⟩
section
variable{T:Tbl}[CStep T]{d:Option Nat}{st:St}{xs:List AV}{ps:List Opd}{e:Env}{h:Heap}{ol:List Heap}
@[simp] theorem x524:callX (orc T) T 524 xs d st=cP T 524 false xs d st:=zaa CStep.h524
theorem f524(xs:List AV)(hn:xs.length=1):callF T 524 xs=retF [.t 2] false (evX (orc T) T 0 b524 ⟨argEnv xs,[],1⟩):=zab CStep.h524 hn
@[simp] theorem y563:opD (orc T) T (.call 563 ps) e h ol=dP T 563 false ps e:=zal CStep.h563
theorem f563(xs:List AV)(hn:xs.length=3):callF T 563 xs=retF [.cell 6 (some 5)] false (evX (orc T) T 0 b563 ⟨argEnv xs,[],1⟩):=zab CStep.h563 hn
end
def b526:AX:=
 (.seq
 (.reg [rg 4 (.xop (.box 11) [(.t 0)]),rg 5 (.xop (.box 3) [(.t 1)]),rg 6 (.xop (.box 3) [(.t 2)]),rg 8 (.alloc [(.sl [] .nl),(.sl [] .nl),(.sl [] .nl),(.sl [] .nl)]),rg 9 (.alloc [(.i .i64 0),(.i .i64 0),(.i .i64 0),(.i .i64 0)])])
 (.seq
 (.seq
 (.reg [rg 12 (.load (some 11) (.t 4)),rg 13 (.call 524 [(.t 12)]),rg 14 (.un .not (.t 13)),mv 15 14,gd 16 15 false (.mov (.t 3)),gd 17 15 false (.len (.t 16)),gd 18 15 false (.fad 0 (.t 4)),gd 19 15 false (.fad 2 (.t 18)),gd 20 15 false (.load none (.t 19)),gd 21 15 false (.bin .neq (.t 17) (.t 20)),rg 22 (.pick (.t 15) (.c (.b true)) (.t 21))])
 (.cond (.t 22)
 (.seq
 (.reg [rg 23 (.build [(.sl [] .nl),(.sl [] .nl),(.sl [] .nl),(.sl [] .nl)] []),rg 24 (.build [(.i .i64 0),(.i .i64 0),(.i .i64 0),(.i .i64 0)] [(0,1,(.c (.i .i64 2)))]),so (.store 4 (.t 8) (.t 23)),so (.store 4 (.t 9) (.t 24))])
 (.pre (.norm false [8,9]) .ret))
 .skip))
 (.seq
 (.note (.note (.note (.drawC [rg 25 (.load (some 11) (.t 4)),rg 26 (.load (some 3) (.t 5)),rg 27 (.load (some 3) (.t 6)),mv 28 3,rg 29 (.fad 10 (.t 4)),rg 30 (.load none (.t 29))]
 (rg 31 (.call 406 [(.t 30)]))
 []
 [rg 32 (.build [(.sl [] .nl),(.sl [] .nl),(.i .i64 0),(.i .i64 0),(.s []),(.sl [] .nl),(.sl [] .nl),(.sl [] .nl),(.sl [] .nl),(.sl [] .nl),(.i .i64 0),(.b false),(.sl [] .nl),(.sl [] .nl),(.b false),(.sl [] .nl),(.sl [] .nl),(.sl [] .nl),(.raw (.pointer none)),(.sl [] .nl),(.sl [] .nl),(.sl [] .nl),(.sl [] .nl)] [(0,11,(.t 25)),(11,3,(.t 26)),(14,3,(.t 27)),(17,1,(.t 28)),(18,1,(.t 31))]),rg 33 (.xop (.box 23) [(.t 32)]),mv 10 33]) (.fld 10 0 19 1)) (.fld 10 0 20 1)) (.shf 10 0 20))
 (.seq
 (.seq
 (.reg [mv 34 10,rg 35 (.call 537 [(.t 34)]),rg 11 (.alloc [(.i .i64 0),(.i .i64 0),(.i .i64 0),(.i .i64 0)]),so (.store 4 (.t 11) (.t 35))])
 (.seq
 (.reg [rg 36 (.load (some 4) (.t 11)),rg 37 (.build [(.i .i64 0),(.i .i64 0),(.i .i64 0),(.i .i64 0)] []),rg 38 (.eqs true [(0,.int),(1,.int),(2,.int),(3,.int)] (.t 36) (.t 37))])
 (.cond (.t 38)
 (.seq
 (.draw [⟨rg 39 (.build [(.sl [] .nl),(.sl [] .nl),(.sl [] .nl),(.sl [] .nl)] []),0,0⟩,⟨rg 40 (.load (some 4) (.t 11)),0,1⟩,⟨so (.store 4 (.t 8) (.t 39)),0,1⟩,⟨so (.store 4 (.t 9) (.t 40)),1,2⟩])
 (.pre (.norm false [8,9]) .ret))
 .skip)))
 (.seq
 (.reg [mv 41 10,rg 42 (.nilc (.t 41)),rg 43 (.fad 19 (.t 42)),rg 44 (.load (some 4) (.t 43)),rg 45 (.build [(.i .i64 0),(.i .i64 0),(.i .i64 0),(.i .i64 0)] []),so (.store 4 (.t 8) (.t 44)),so (.store 4 (.t 9) (.t 45))])
 (.pre (.norm false [8,9]) .ret))))))
def l537_0:AX:=
 (.note
 (.seq
 (.reg [rg 17 (.bin .lss (.t 16) (.t 15))])
 (.seq
 (.cond (.t 17)
 .skip
 (.exit 0))
 (.seq
 (.block 1
 (.seq
 (.reg [mv 18 16,mv 4 18])
 (.seq
 (.reg [mv 19 0,mv 20 4,rg 21 (.call 552 [(.t 19),(.t 20)]),rg 5 (.alloc [(.i .i64 0),(.i .i64 0),(.i .i64 0),(.i .i64 0)]),so (.store 4 (.t 5) (.t 21))])
 (.seq
 (.reg [rg 22 (.load (some 4) (.t 5)),rg 23 (.build [(.i .i64 0),(.i .i64 0),(.i .i64 0),(.i .i64 0)] []),rg 24 (.eqs true [(0,.int),(1,.int),(2,.int),(3,.int)] (.t 22) (.t 23))])
 (.cond (.t 24)
 (.seq
 (.reg [rg 25 (.load (some 4) (.t 5)),so (.store 4 (.t 2) (.t 25))])
 (.pre (.norm false [2]) .ret))
 .skip)))))
 (.reg [rg 26 (.bin .add (.t 16) (.c (.i .i64 1))),mv 16 26]))))
 (.norm false [0,2,3,15,16]))
def b537:AX:=
 (.seq
 (.reg [rg 2 (.alloc [(.i .i64 0),(.i .i64 0),(.i .i64 0),(.i .i64 0)])])
 (.seq
 (.reg [mv 8 0,rg 9 (.nilc (.t 8)),rg 10 (.fad 0 (.t 9)),rg 11 (.fad 4 (.t 10)),rg 12 (.load (some 5) (.t 11)),rg 3 (.alloc [(.s []),(.sl [] .nl),(.sl [] .nl),(.sl [] .nl),(.sl [] .nl)]),so (.store 5 (.t 3) (.t 12))])
 (.seq
 (.seq
 (.reg [rg 13 (.fad 3 (.t 3)),rg 14 (.load none (.t 13)),rg 15 (.len (.t 14)),rg 16 (.mov (.c (.i .i64 0)))])
 (.lp 0 (.norm false [0,2,3,15,16]) l537_0 (.norm false [0,2,3])))
 (.seq
 (.reg [mv 27 0,mv 28 0,rg 29 (.fad 3 (.t 3)),rg 30 (.load none (.t 29)),rg 31 (.call 553 [(.t 28),(.t 30)]),rg 32 (.nilc (.t 27)),rg 33 (.fad 19 (.t 32)),rg 34 (.fad 2 (.t 33)),so (.store 1 (.t 34) (.t 31))])
 (.seq
 (.seq
 (.drawP [⟨mv 35 0,0,1⟩,⟨mv 36 0,0,1⟩,⟨rg 37 (.nilc (.t 36)),0,1⟩,⟨rg 38 (.fad 19 (.t 37)),0,1⟩,⟨rg 39 (.fad 2 (.t 38)),0,1⟩,⟨rg 40 (.load none (.t 39)),0,1⟩,⟨rg 41 (.fad 3 (.t 3)),0,1⟩,⟨rg 42 (.load none (.t 41)),0,1⟩,⟨rg 43 (.len (.t 42)),0,1⟩]
 (rg 44 (.call 554 [(.t 35),(.t 40),(.t 43)])) [] 6 [(.i .i64 0),(.i .i64 0),(.i .i64 0),(.i .i64 0)] 4 (.t 6) (.t 44))
 (.seq
 (.reg [rg 45 (.load (some 4) (.t 6)),rg 46 (.build [(.i .i64 0),(.i .i64 0),(.i .i64 0),(.i .i64 0)] []),rg 47 (.eqs true [(0,.int),(1,.int),(2,.int),(3,.int)] (.t 45) (.t 46))])
 (.cond (.t 47)
 (.seq
 (.reg [rg 48 (.load (some 4) (.t 6)),so (.store 4 (.t 2) (.t 48))])
 (.pre (.norm false [2]) .ret))
 .skip)))
 (.seq
 (.seq
 (.reg [rg 49 (.load (some 5) (.t 3)),rg 50 (.call 555 [(.t 49)]),mv 7 50])
 (.seq
 (.reg [mv 51 7,rg 52 (.len (.t 51)),rg 53 (.bin .gtr (.t 52) (.c (.i .i64 0)))])
 (.cond (.t 53)
 (.reg [mv 54 0,mv 55 0,mv 56 7,rg 57 (.call 556 [(.t 55),(.t 56)]),rg 58 (.nilc (.t 54)),rg 59 (.fad 19 (.t 58)),rg 60 (.fad 3 (.t 59)),so (.store 1 (.t 60) (.t 57))])
 .skip)))
 (.seq
 (.drawT [mv 61 0,mv 62 0,rg 63 (.nilc (.t 62)),rg 64 (.fad 19 (.t 63)),rg 65 (.fad 3 (.t 64)),rg 66 (.load none (.t 65)),rg 67 (.fad 3 (.t 3)),rg 68 (.load none (.t 67)),rg 69 (.len (.t 68)),rg 70 (.bin .add (.t 69) (.c (.i .i64 1)))]
 [rg 71 (.call 554 [(.t 61),(.t 66),(.t 70)]),so (.store 4 (.t 2) (.t 71))])
 (.pre (.norm false [2]) .ret))))))))
def b552:AX:=
 (.seq
 (.reg [rg 4 (.alloc [(.i .i64 0),(.i .i64 0),(.i .i64 0),(.i .i64 0)])])
 (.seq
 (.reg [mv 9 0,mv 10 0,rg 11 (.nilc (.t 10)),rg 12 (.fad 0 (.t 11)),rg 13 (.fad 4 (.t 12)),rg 14 (.fad 2 (.t 13)),rg 15 (.load none (.t 14)),mv 16 1,rg 17 (.iad 1 (.t 15) (.t 16)),rg 18 (.load none (.t 17)),rg 19 (.call 553 [(.t 9),(.t 18)]),mv 5 19])
 (.seq
 (.seq
 (.reg [mv 20 0,mv 21 5,mv 22 1,rg 23 (.call 554 [(.t 20),(.t 21),(.t 22)]),rg 6 (.alloc [(.i .i64 0),(.i .i64 0),(.i .i64 0),(.i .i64 0)]),so (.store 4 (.t 6) (.t 23))])
 (.seq
 (.reg [rg 24 (.load (some 4) (.t 6)),rg 25 (.build [(.i .i64 0),(.i .i64 0),(.i .i64 0),(.i .i64 0)] []),rg 26 (.eqs true [(0,.int),(1,.int),(2,.int),(3,.int)] (.t 24) (.t 25))])
 (.cond (.t 26)
 (.seq
 (.reg [rg 27 (.load (some 4) (.t 6)),so (.store 4 (.t 4) (.t 27))])
 (.pre (.norm false [4]) .ret))
 .skip)))
 (.seq
 (.draw [⟨mv 29 0,0,1⟩,⟨rg 30 (.nilc (.t 29)),0,1⟩,⟨rg 31 (.fad 0 (.t 30)),0,1⟩,⟨rg 32 (.fad 0 (.t 31)),0,1⟩,⟨rg 33 (.load (some 4) (.t 32)),0,1⟩,⟨mv 34 0,0,1⟩,⟨rg 35 (.nilc (.t 34)),0,1⟩,⟨rg 36 (.fad 0 (.t 35)),0,1⟩,⟨rg 37 (.load (some 11) (.t 36)),0,1⟩,⟨mv 38 0,0,1⟩,⟨rg 39 (.nilc (.t 38)),0,1⟩,⟨rg 40 (.fad 0 (.t 39)),0,1⟩,⟨rg 41 (.load (some 11) (.t 40)),0,1⟩,⟨mv 42 0,0,1⟩,⟨rg 43 (.nilc (.t 42)),0,1⟩,⟨rg 44 (.fad 11 (.t 43)),0,1⟩,⟨rg 45 (.load (some 3) (.t 44)),0,1⟩,⟨mv 46 0,0,1⟩,⟨rg 47 (.nilc (.t 46)),0,1⟩,⟨rg 48 (.fad 14 (.t 47)),0,1⟩,⟨rg 49 (.load (some 3) (.t 48)),0,1⟩,⟨mv 50 1,0,1⟩,⟨rg 51 (.call 564 [(.t 41),(.t 45),(.t 49),(.t 50)]),0,1⟩,⟨mv 52 5,0,1⟩,⟨rg 53 (.call 563 [(.t 37),(.t 51),(.t 52)]),0,1⟩,⟨mv 54 0,0,1⟩,⟨rg 55 (.nilc (.t 54)),0,1⟩,⟨rg 56 (.fad 0 (.t 55)),0,1⟩,⟨rg 57 (.fad 10 (.t 56)),0,1⟩,⟨rg 58 (.load none (.t 57)),0,1⟩,⟨rg 59 (.call 389 [(.t 33),(.t 53),(.t 58)]),0,1⟩,⟨mv 28 59,0,1⟩,⟨rg 60 (.ext (.t 28) 0),0,1⟩,⟨rg 61 (.ext (.t 28) 1),0,1⟩,⟨rg 8 (.alloc [(.i .i64 0),(.i .i64 0),(.i .i64 0),(.i .i64 0)]),0,1⟩,⟨mv 7 60,1,1⟩,⟨so (.store 4 (.t 8) (.t 61)),1,2⟩])
 (.seq
 (.seq
 (.reg [rg 62 (.load (some 4) (.t 8)),rg 63 (.build [(.i .i64 0),(.i .i64 0),(.i .i64 0),(.i .i64 0)] []),rg 64 (.eqs true [(0,.int),(1,.int),(2,.int),(3,.int)] (.t 62) (.t 63))])
 (.cond (.t 64)
 (.seq
 (.reg [mv 65 1,rg 66 (.fad 2 (.t 8)),so (.store 1 (.t 66) (.t 65))])
 (.seq
 (.reg [rg 67 (.load (some 4) (.t 8)),so (.store 4 (.t 4) (.t 67))])
 (.pre (.norm false [4]) .ret)))
 .skip))
 (.seq
 (.reg [mv 68 0,mv 69 0,rg 70 (.nilc (.t 69)),rg 71 (.fad 19 (.t 70)),rg 72 (.fad 0 (.t 71)),rg 73 (.load none (.t 72)),mv 74 5,rg 75 (.bsl 1 [(.sl [] .nl)] 1 [(0,(.t 74))]),rg 76 (.app 1 (.t 73) (.t 75)),rg 77 (.nilc (.t 68)),rg 78 (.fad 19 (.t 77)),rg 79 (.fad 0 (.t 78)),so (.store 1 (.t 79) (.t 76))])
 (.seq
 (.reg [mv 80 0,mv 81 0,rg 82 (.nilc (.t 81)),rg 83 (.fad 19 (.t 82)),rg 84 (.fad 1 (.t 83)),rg 85 (.load none (.t 84)),mv 86 7,rg 87 (.bsl 1 [(.sl [] .nl)] 1 [(0,(.t 86))]),rg 88 (.app 1 (.t 85) (.t 87)),rg 89 (.nilc (.t 80)),rg 90 (.fad 19 (.t 89)),rg 91 (.fad 1 (.t 90)),so (.store 1 (.t 91) (.t 88))])
 (.seq
 (.reg [rg 92 (.load (some 4) (.t 8)),so (.store 4 (.t 4) (.t 92))])
 (.pre (.norm false [4]) .ret)))))))))
def b553:AX:=
 (.seq
 (.reg [rg 4 (.mov (.c (.sl [] .nl)))])
 (.seq
 (.drawC [mv 8 0,rg 9 (.nilc (.t 8)),rg 10 (.fad 17 (.t 9)),rg 11 (.load none (.t 10)),mv 12 0,mv 13 1]
 (rg 14 (.call 556 [(.t 12),(.t 13)]))
 [rg 15 (.bsl 1 [(.sl [] .nl)] 2 [(0,(.t 11)),(1,(.t 14))]),rg 16 (.call 267 [(.t 15)]),mv 7 16,rg 17 (.ext (.t 7) 0),rg 18 (.ext (.t 7) 1),mv 5 17]
 [mv 6 18])
 (.seq
 (.reg [mv 19 5,mv 4 19])
 (.pre (.norm false [4]) .ret))))
def b554:AX:=
 (.seq
 (.reg [rg 6 (.alloc [(.i .i64 0),(.i .i64 0),(.i .i64 0),(.i .i64 0)])])
 (.seq
 (.seq
 (.reg [mv 10 0,rg 11 (.nilc (.t 10)),rg 12 (.fad 18 (.t 11)),rg 13 (.load none (.t 12)),mv 14 1,rg 15 (.call 413 [(.t 13),(.t 14)]),mv 9 15,rg 16 (.ext (.t 9) 0),rg 17 (.ext (.t 9) 1),mv 7 16,mv 8 17])
 (.seq
 (.reg [mv 18 8,rg 19 (.un .not (.t 18))])
 (.cond (.t 19)
 (.seq
 (.reg [mv 20 2,mv 21 7,rg 22 (.bin .add (.c (.i .i64 300)) (.t 21)),rg 23 (.build [(.i .i64 0),(.i .i64 0),(.i .i64 0),(.i .i64 0)] [(0,1,(.c (.i .i64 6))),(2,1,(.t 20)),(3,1,(.t 22))]),so (.store 4 (.t 6) (.t 23))])
 (.pre (.norm false [6]) .ret))
 .skip)))
 (.seq
 (.reg [rg 24 (.build [(.i .i64 0),(.i .i64 0),(.i .i64 0),(.i .i64 0)] []),so (.store 4 (.t 6) (.t 24))])
 (.pre (.norm false [6]) .ret))))
def b556:AX:=
 (.seq
 (.reg [rg 4 (.mov (.c (.sl [] .nl)))])
 (.seq
 (.drawR [mv 8 1,mv 9 0,rg 10 (.nilc (.t 9)),rg 11 (.fad 19 (.t 10)),rg 12 (.fad 1 (.t 11)),rg 13 (.load none (.t 12)),mv 14 0,rg 15 (.nilc (.t 14)),rg 16 (.fad 17 (.t 15)),rg 17 (.load none (.t 16)),rg 18 (.len (.t 17)),rg 19 (.call 271 [(.t 8),(.t 13),(.t 18)]),mv 7 19,rg 20 (.ext (.t 7) 0),rg 21 (.ext (.t 7) 1),mv 5 20]
 [mv 6 21])
 (.seq
 (.reg [mv 22 0,rg 23 (.nilc (.t 22)),rg 24 (.fad 14 (.t 23)),rg 25 (.load (some 3) (.t 24)),mv 26 5,rg 27 (.call 269 [(.t 25),(.t 26)]),mv 4 27])
 (.pre (.norm false [4]) .ret))))
def b564:AX:=
 (.seq
 (.reg [rg 4 (.xop (.box 11) [(.t 0)]),rg 5 (.xop (.box 3) [(.t 1)]),rg 6 (.xop (.box 3) [(.t 2)]),rg 8 (.alloc [(.b false),(.sl [] .nl),(.sl [] .nl)])])
 (.seq
 (.seq
 (.reg [mv 9 3,rg 10 (.bin .lss (.t 9) (.c (.i .i64 0))),mv 11 10,gd 12 11 false (.mov (.t 3)),gd 13 11 false (.fad 4 (.t 4)),gd 14 11 false (.fad 1 (.t 13)),gd 15 11 false (.load none (.t 14)),gd 16 11 false (.len (.t 15)),gd 17 11 false (.bin .geq (.t 12) (.t 16)),rg 18 (.pick (.t 11) (.c (.b true)) (.t 17))])
 (.cond (.t 18)
 (.seq
 (.reg [rg 19 (.load (some 3) (.t 5)),rg 20 (.call 207 [(.t 19)]),so (.store 3 (.t 8) (.t 20))])
 (.pre (.norm false [8]) .ret))
 .skip))
 (.seq
 (.drawT [rg 21 (.load (some 3) (.t 5)),rg 22 (.load (some 3) (.t 6)),rg 23 (.fad 4 (.t 4)),rg 24 (.fad 1 (.t 23)),rg 25 (.load none (.t 24)),mv 26 3,rg 27 (.iad 3 (.t 25) (.t 26)),rg 28 (.load (some 3) (.t 27)),rg 29 (.call 217 [(.t 22),(.t 28)])]
 [rg 30 (.call 215 [(.t 21),(.t 29)]),so (.store 3 (.t 8) (.t 30))])
 (.pre (.norm false [8]) .ret))))
class CStepD (T:Tbl):Prop where
 h526:T 526=some ⟨4,46,[.cell 8 (some 4),.cell 9 (some 4)],b526,none,false⟩
 h537:T 537=some ⟨1,72,[.cell 2 (some 4)],b537,(some [true]),false⟩
 h552:T 552=some ⟨2,93,[.cell 4 (some 4)],b552,(some [true,false]),false⟩
 h553:T 553=some ⟨2,20,[.t 4],b553,(some [true,false]),false⟩
 h554:T 554=some ⟨3,25,[.cell 6 (some 4)],b554,(some [true,false,false]),false⟩
 h556:T 556=some ⟨2,28,[.t 4],b556,(some [true,false]),false⟩
 h564:T 564=some ⟨4,31,[.cell 8 (some 3)],b564,none,false⟩
section
variable{T:Tbl}[CStepD T]{d:Option Nat}{st:St}{xs:List AV}{ps:List Opd}{e:Env}{h:Heap}{ol:List Heap}
@[simp] theorem x526:callX (orc T) T 526 xs d st=cP T 526 false xs d st:=zaa CStepD.h526
theorem f526(xs:List AV)(hn:xs.length=4):callF T 526 xs=retF [.cell 8 (some 4),.cell 9 (some 4)] false (evX (orc T) T 0 b526 ⟨argEnv xs,[],1⟩):=zab CStepD.h526 hn
@[simp] theorem x537:callX (orc T) T 537 xs d st=cL T 537 false [true] xs d st:=zan CStepD.h537
theorem f537(xs:List AV)(hb:Heap)(hn:xs.length=1):callH T 537 xs hb=retH [.cell 2 (some 4)] false hb.length (evX (orc T) T hb.length b537 ⟨argEnv xs,hb,hb.length+1⟩):=zau CStepD.h537 hn
@[simp] theorem x552:callX (orc T) T 552 xs d st=cL T 552 false [true,false] xs d st:=zan CStepD.h552
theorem f552(xs:List AV)(hb:Heap)(hn:xs.length=2):callH T 552 xs hb=retH [.cell 4 (some 4)] false hb.length (evX (orc T) T hb.length b552 ⟨argEnv xs,hb,hb.length+1⟩):=zau CStepD.h552 hn
@[simp] theorem x553:callX (orc T) T 553 xs d st=cL T 553 false [true,false] xs d st:=zan CStepD.h553
theorem f553(xs:List AV)(hb:Heap)(hn:xs.length=2):callH T 553 xs hb=retH [.t 4] false hb.length (evX (orc T) T hb.length b553 ⟨argEnv xs,hb,hb.length+1⟩):=zau CStepD.h553 hn
@[simp] theorem x554:callX (orc T) T 554 xs d st=cL T 554 false [true,false,false] xs d st:=zan CStepD.h554
theorem f554(xs:List AV)(hb:Heap)(hn:xs.length=3):callH T 554 xs hb=retH [.cell 6 (some 4)] false hb.length (evX (orc T) T hb.length b554 ⟨argEnv xs,hb,hb.length+1⟩):=zau CStepD.h554 hn
@[simp] theorem x556:callX (orc T) T 556 xs d st=cL T 556 false [true,false] xs d st:=zan CStepD.h556
theorem f556(xs:List AV)(hb:Heap)(hn:xs.length=2):callH T 556 xs hb=retH [.t 4] false hb.length (evX (orc T) T hb.length b556 ⟨argEnv xs,hb,hb.length+1⟩):=zau CStepD.h556 hn
@[simp] theorem y564:opD (orc T) T (.call 564 ps) e h ol=dP T 564 false ps e:=zal CStepD.h564
theorem f564(xs:List AV)(hn:xs.length=4):callF T 564 xs=retF [.cell 8 (some 3)] false (evX (orc T) T 0 b564 ⟨argEnv xs,[],1⟩):=zab CStepD.h564 hn
end
def l499_0:AX:=
 (.note
 (.seq
 (.reg [rg 27 (.bin .lss (.t 26) (.t 25))])
 (.seq
 (.cond (.t 27)
 .skip
 (.exit 0))
 (.seq
 (.block 1
 (.seq
 (.reg [rg 28 (.iad 1 (.t 24) (.t 26)),rg 29 (.load none (.t 28)),mv 9 29])
 (.seq
 (.drawT [rg 30 (.fad 2 (.t 5)),rg 31 (.load none (.t 30)),mv 32 6,mv 33 9,rg 34 (.iad 3 (.t 32) (.t 33)),rg 35 (.load (some 3) (.t 34)),rg 36 (.bsl 3 [(.b false),(.sl [] .nl),(.sl [] .nl)] 1 [(0,(.t 35))])]
 [rg 37 (.app 3 (.t 31) (.t 36)),rg 38 (.fad 2 (.t 5)),so (.store 1 (.t 38) (.t 37))])
 (.drawT [rg 39 (.fad 3 (.t 5)),rg 40 (.load none (.t 39)),mv 41 7,mv 42 9,rg 43 (.iad 1 (.t 41) (.t 42)),rg 44 (.load none (.t 43)),rg 45 (.bsl 1 [(.sl [] .nl)] 1 [(0,(.t 44))])]
 [rg 46 (.app 1 (.t 40) (.t 45)),rg 47 (.fad 3 (.t 5)),so (.store 1 (.t 47) (.t 46))]))))
 (.reg [rg 48 (.bin .add (.t 26) (.c (.i .i64 1))),mv 26 48]))))
 (.norm false [4,5,6,7,24,25,26]))
def b499:AX:=
 (.seq
 (.reg [rg 2 (.xop (.box 5) [(.t 0)]),rg 4 (.alloc [(.i .i64 0),(.sl [] .nl),(.sl [] .nl),(.sl [] .nl)])])
 (.seq
 (.note (.note (.draw [⟨mv 10 1,0,1⟩,⟨rg 11 (.call 518 [(.t 10)]),0,1⟩,⟨rg 12 (.load (some 5) (.t 2)),0,1⟩,⟨rg 13 (.call 519 [(.t 12)]),0,1⟩,⟨rg 14 (.build [(.i .i64 0),(.sl [] .nl),(.sl [] .nl),(.sl [] .nl)] [(0,1,(.t 11)),(1,1,(.t 13))]),0,1⟩,⟨rg 5 (.alloc [(.i .i64 0),(.sl [] .nl),(.sl [] .nl),(.sl [] .nl)]),0,1⟩,⟨so (.store 4 (.t 5) (.t 14)),1,2⟩]) (.fld 5 0 2 3)) (.fld 5 0 3 1))
 (.seq
 (.reg [rg 16 (.load (some 5) (.t 2)),rg 17 (.call 513 [(.t 16)]),mv 15 17,rg 18 (.ext (.t 15) 0),rg 19 (.ext (.t 15) 1),mv 6 18,mv 7 19])
 (.seq
 (.seq
 (.reg [rg 20 (.fad 1 (.t 5)),rg 21 (.load none (.t 20)),rg 22 (.len (.t 21)),mv 23 1,rg 24 (.call 517 [(.t 22),(.t 23)]),rg 25 (.len (.t 24)),rg 26 (.mov (.c (.i .i64 0)))])
 (.lp 0 (.norm false [4,5,6,7,24,25,26]) l499_0 (.norm false [4,5])))
 (.seq
 (.reg [rg 49 (.load (some 4) (.t 5)),so (.store 4 (.t 4) (.t 49))])
 (.pre (.norm false [4]) .ret))))))
def l504_0:AX:=
 (.note
 (.seq
 (.reg [rg 10 (.bin .lss (.t 9) (.t 8))])
 (.seq
 (.cond (.t 10)
 .skip
 (.exit 0))
 (.seq
 (.block 1
 (.seq
 (.reg [rg 11 (.iad 3 (.t 7) (.t 9)),rg 12 (.load (some 3) (.t 11)),rg 4 (.alloc [(.b false),(.sl [] .nl),(.sl [] .nl)]),so (.store 3 (.t 4) (.t 12))])
 (.seq
 (.reg [rg 13 (.load (some 3) (.t 4)),rg 14 (.call 209 [(.t 13)]),rg 15 (.bin .leq (.t 14) (.c (.i .i64 0)))])
 (.cond (.t 15)
 (.seq
 (.reg [rg 2 (.mov (.c (.b false)))])
 (.pre (.norm false [2]) .ret))
 .skip))))
 (.reg [rg 16 (.bin .add (.t 9) (.c (.i .i64 1))),mv 9 16]))))
 (.norm false [1,7,8,9]))
def b504:AX:=
 (.seq
 (.reg [rg 1 (.xop (.box 4) [(.t 0)]),rg 2 (.mov (.c (.b false)))])
 (.seq
 (.seq
 (.reg [rg 6 (.fad 1 (.t 1)),rg 7 (.load none (.t 6)),rg 8 (.len (.t 7)),rg 9 (.mov (.c (.i .i64 0)))])
 (.lp 0 (.norm false [1,7,8,9]) l504_0 (.norm false [1])))
 (.seq
 (.reg [rg 17 (.fad 1 (.t 1)),rg 18 (.load none (.t 17)),rg 19 (.len (.t 18)),rg 20 (.fad 0 (.t 1)),rg 21 (.load none (.t 20)),rg 22 (.call 517 [(.t 19),(.t 21)]),rg 23 (.len (.t 22)),mv 5 23])
 (.seq
 (.drawT [rg 24 (.fad 0 (.t 1)),rg 25 (.load none (.t 24)),rg 26 (.fad 0 (.t 1)),rg 27 (.load none (.t 26)),rg 28 (.call 518 [(.t 27)]),rg 29 (.bin .eql (.t 25) (.t 28)),mv 30 29,gd 31 30 true (.fad 1 (.t 1)),gd 32 30 true (.load none (.t 31)),gd 33 30 true (.len (.t 32)),gd 34 30 true (.bin .leq (.t 33) (.c (.i .i64 200))),rg 35 (.pick (.t 30) (.t 34) (.c (.b false))),mv 36 35,gd 37 36 true (.fad 2 (.t 1)),gd 38 36 true (.load none (.t 37)),gd 39 36 true (.len (.t 38)),gd 40 36 true (.mov (.t 5)),gd 41 36 true (.bin .eql (.t 39) (.t 40)),rg 42 (.pick (.t 36) (.t 41) (.c (.b false))),mv 43 42,gd 44 43 true (.fad 3 (.t 1)),gd 45 43 true (.load none (.t 44)),gd 46 43 true (.len (.t 45)),gd 47 43 true (.mov (.t 5))]
 [gd 48 43 true (.bin .eql (.t 46) (.t 47)),rg 49 (.pick (.t 43) (.t 48) (.c (.b false))),mv 2 49])
 (.pre (.norm false [2]) .ret)))))
def l506_0:AX:=
 (.note
 (.seq
 (.reg [rg 75 (.bin .lss (.t 74) (.t 73))])
 (.seq
 (.cond (.t 75)
 .skip
 (.exit 0))
 (.seq
 (.block 1
 (.seq
 (.reg [mv 76 74,rg 77 (.iad 3 (.t 72) (.t 74)),rg 78 (.load (some 3) (.t 77)),rg 13 (.alloc [(.b false),(.sl [] .nl),(.sl [] .nl)]),mv 12 76,so (.store 3 (.t 13) (.t 78))])
 (.seq
 (.reg [rg 80 (.load (some 11) (.t 3)),rg 81 (.load (some 3) (.t 9)),rg 82 (.load (some 3) (.t 13)),mv 83 10,rg 84 (.call 526 [(.t 80),(.t 81),(.t 82),(.t 83)]),mv 79 84,rg 85 (.ext (.t 79) 0),rg 86 (.ext (.t 79) 1),rg 14 (.alloc [(.sl [] .nl),(.sl [] .nl),(.sl [] .nl),(.sl [] .nl)]),rg 15 (.alloc [(.i .i64 0),(.i .i64 0),(.i .i64 0),(.i .i64 0)]),so (.store 4 (.t 14) (.t 85)),so (.store 4 (.t 15) (.t 86))])
 (.seq
 (.seq
 (.reg [rg 87 (.load (some 4) (.t 15)),rg 88 (.build [(.i .i64 0),(.i .i64 0),(.i .i64 0),(.i .i64 0)] []),rg 89 (.eqs true [(0,.int),(1,.int),(2,.int),(3,.int)] (.t 87) (.t 88))])
 (.cond (.t 89)
 (.seq
 (.reg [rg 90 (.fad 0 (.t 5)),rg 91 (.load none (.t 90)),mv 92 12,rg 93 (.bin .add (.t 91) (.t 92)),rg 94 (.bin .add (.t 93) (.c (.i .i64 1))),rg 95 (.fad 1 (.t 15)),so (.store 1 (.t 95) (.t 94))])
 (.seq
 (.drawT [rg 96 (.load (some 4) (.t 15)),rg 6 (.mov (.c (.sl [] .nl)))]
 [so (.store 4 (.t 7) (.t 96))])
 (.pre (.norm false [6,7]) .ret)))
 .skip))
 (.seq
 (.draw [⟨rg 97 (.load (some 3) (.t 9)),0,0⟩,⟨rg 98 (.load (some 3) (.t 13)),0,0⟩,⟨rg 99 (.call 215 [(.t 97),(.t 98)]),0,0⟩,⟨rg 100 (.fad 2 (.t 14)),0,1⟩,⟨rg 101 (.load none (.t 100)),0,1⟩,⟨so (.store 3 (.t 9) (.t 99)),0,1⟩,⟨mv 10 101,1,1⟩])
 (.reg [mv 102 11,mv 103 10,rg 104 (.bsl 1 [(.sl [] .nl)] 1 [(0,(.t 103))]),rg 105 (.app 1 (.t 102) (.t 104)),mv 11 105]))))))
 (.reg [rg 106 (.bin .add (.t 74) (.c (.i .i64 1))),mv 74 106]))))
 (.norm false [3,5,7,9,10,11,72,73,74]))
def b506:AX:=
 (.seq
 (.reg [rg 3 (.xop (.box 11) [(.t 0)]),rg 4 (.xop (.box 4) [(.t 1)]),rg 5 (.xop (.box 2) [(.t 2)]),rg 6 (.mov (.c (.sl [] .nl))),rg 7 (.alloc [(.i .i64 0),(.i .i64 0),(.i .i64 0),(.i .i64 0)])])
 (.seq
 (.reg [rg 16 (.build [(.i .i64 0),(.i .i64 0),(.i .i64 0),(.i .i64 0)] [(0,1,(.c (.i .i64 2)))]),rg 8 (.alloc [(.i .i64 0),(.i .i64 0),(.i .i64 0),(.i .i64 0)]),so (.store 4 (.t 8) (.t 16))])
 (.seq
 (.seq
 (.reg [rg 17 (.load (some 11) (.t 3)),rg 18 (.call 524 [(.t 17)]),rg 19 (.un .not (.t 18)),mv 20 19,gd 21 20 false (.load (some 4) (.t 4)),gd 22 20 false (.call 504 [(.t 21)]),gd 23 20 false (.un .not (.t 22)),rg 24 (.pick (.t 20) (.c (.b true)) (.t 23)),mv 25 24,gd 26 25 false (.load (some 4) (.t 4)),gd 27 25 false (.load (some 2) (.t 5)),gd 28 25 false (.call 525 [(.t 26),(.t 27)]),gd 29 25 false (.un .not (.t 28)),rg 30 (.pick (.t 25) (.c (.b true)) (.t 29))])
 (.cond (.t 30)
 (.seq
 (.drawT [rg 31 (.load (some 4) (.t 8)),rg 6 (.mov (.c (.sl [] .nl)))]
 [so (.store 4 (.t 7) (.t 31))])
 (.pre (.norm false [6,7]) .ret))
 .skip))
 (.seq
 (.draw [⟨rg 32 (.fad 2 (.t 4)),0,1⟩,⟨rg 33 (.load none (.t 32)),0,1⟩,⟨rg 34 (.fad 0 (.t 5)),0,1⟩,⟨rg 35 (.load none (.t 34)),0,1⟩,⟨rg 36 (.fad 0 (.t 4)),0,1⟩,⟨rg 37 (.load none (.t 36)),0,1⟩,⟨rg 38 (.bin .quo (.t 35) (.t 37)),0,1⟩,⟨rg 39 (.iad 3 (.t 33) (.t 38)),0,1⟩,⟨rg 40 (.load (some 3) (.t 39)),0,1⟩,⟨rg 41 (.fad 3 (.t 4)),0,2⟩,⟨rg 42 (.load none (.t 41)),0,2⟩,⟨rg 43 (.fad 0 (.t 5)),0,2⟩,⟨rg 44 (.load none (.t 43)),0,2⟩,⟨rg 45 (.fad 0 (.t 4)),0,2⟩,⟨rg 46 (.load none (.t 45)),0,2⟩,⟨rg 47 (.bin .quo (.t 44) (.t 46)),0,2⟩,⟨rg 48 (.iad 1 (.t 42) (.t 47)),0,2⟩,⟨rg 49 (.load none (.t 48)),0,2⟩,⟨rg 9 (.alloc [(.b false),(.sl [] .nl),(.sl [] .nl)]),0,1⟩,⟨so (.store 3 (.t 9) (.t 40)),1,2⟩,⟨mv 10 49,2,2⟩])
 (.seq
 (.seq
 (.reg [mv 50 10,rg 51 (.len (.t 50)),rg 52 (.fad 0 (.t 3)),rg 53 (.fad 2 (.t 52)),rg 54 (.load none (.t 53)),rg 55 (.bin .neq (.t 51) (.t 54))])
 (.cond (.t 55)
 (.seq
 (.drawT [rg 56 (.load (some 4) (.t 8)),rg 6 (.mov (.c (.sl [] .nl)))]
 [so (.store 4 (.t 7) (.t 56))])
 (.pre (.norm false [6,7]) .ret))
 .skip))
 (.seq
 (.reg [rg 57 (.call 205 [(.c (.i .i64 1))]),mv 58 10,rg 59 (.call 269 [(.t 57),(.t 58)]),mv 10 59])
 (.seq
 (.reg [mv 60 10,rg 61 (.bsl 1 [(.sl [] .nl)] 1 [(0,(.t 60))]),mv 11 61])
 (.seq
 (.seq
 (.reg [rg 62 (.fad 1 (.t 4)),rg 63 (.load none (.t 62)),rg 64 (.fad 0 (.t 5)),rg 65 (.load none (.t 64)),rg 66 (.fad 1 (.t 5)),rg 67 (.load none (.t 66)),rg 68 (.bin .sub (.t 67) (.c (.i .i64 1))),rg 69 (.fad 1 (.t 5)),rg 70 (.load none (.t 69)),rg 71 (.bin .sub (.t 70) (.c (.i .i64 1))),rg 72 (.slc 3 (.t 63) (some (.t 65)) (some (.t 68)) (some (.t 71))),rg 73 (.len (.t 72)),rg 74 (.mov (.c (.i .i64 0)))])
 (.lp 0 (.norm true [3,5,7,9,10,11,72,73,74]) l506_0 (.norm false [7,11])))
 (.seq
 (.reg [mv 107 11,rg 108 (.build [(.i .i64 0),(.i .i64 0),(.i .i64 0),(.i .i64 0)] []),mv 6 107,so (.store 4 (.t 7) (.t 108))])
 (.pre (.norm false [6,7]) .ret))))))))))
def l514_0:AX:=
 (.note
 (.seq
 (.reg [rg 16 (.bin .lss (.t 15) (.t 14))])
 (.seq
 (.cond (.t 16)
 .skip
 (.exit 0))
 (.seq
 (.block 1
 (.seq
 (.reg [rg 17 (.iad 1 (.t 13) (.t 15)),rg 18 (.load none (.t 17)),mv 7 18])
 (.reg [mv 19 7,mv 20 7,mv 21 1,rg 22 (.call 518 [(.t 21)]),rg 23 (.bin .add (.t 20) (.t 22)),mv 24 0,rg 25 (.mm false [(.t 23),(.t 24)]),rg 26 (.build [(.i .i64 0),(.i .i64 0)] [(0,1,(.t 19)),(1,1,(.t 25))]),rg 27 (.bsl 2 [(.i .i64 0),(.i .i64 0)] 1 [(0,(.t 26))]),rg 28 (.call 534 [(.t 5),(.t 27)])])))
 (.reg [rg 29 (.bin .add (.t 15) (.c (.i .i64 1))),mv 15 29]))))
 (.norm false [0,1,5,13,14,15]))
def l514_1:AX:=
 (.note
 (.seq
 (.seq
 (.reg [mv 34 10])
 (.cond (.t 34)
 .skip
 (.exit 2)))
 (.seq
 (.block 3
 (.reg [mv 39 8,rg 40 (.load (some 2) (.t 9)),rg 41 (.bsl 2 [(.i .i64 0),(.i .i64 0)] 1 [(0,(.t 40))]),rg 42 (.app 2 (.t 39) (.t 41)),mv 8 42]))
 (.seq
 (.seq
 (.reg [rg 43 (.load (some 2) (.t 9))])
 (.reg [rg 9 (.alloc [(.i .i64 0),(.i .i64 0)]),so (.store 2 (.t 9) (.t 43))]))
 (.reg [rg 36 (.call 535 [(.t 5)]),mv 35 36,rg 37 (.ext (.t 35) 0),rg 38 (.ext (.t 35) 1),so (.store 2 (.t 9) (.t 37)),mv 10 38]))))
 (.norm false [5,8,9,10]))
def b514:AX:=
 (.seq
 (.reg [rg 4 (.mov (.c (.sl [] .nl)))])
 (.seq
 (.note (.reg [rg 5 (.alloc [(.sl [] .nl)])]) (.fld 5 0 0 2))
 (.seq
 (.seq
 (.reg [mv 11 0,mv 12 1,rg 13 (.call 517 [(.t 11),(.t 12)]),rg 14 (.len (.t 13)),rg 15 (.mov (.c (.i .i64 0)))])
 (.lp 0 (.norm false [0,1,5,13,14,15]) l514_0 (.norm false [5])))
 (.seq
 (.note (.reg [rg 8 (.mov (.c (.sl [] .nl)))]) (.nil 8 2))
 (.seq
 (.seq
 (.reg [rg 31 (.call 535 [(.t 5)]),mv 30 31,rg 32 (.ext (.t 30) 0),rg 33 (.ext (.t 30) 1),rg 9 (.alloc [(.i .i64 0),(.i .i64 0)]),so (.store 2 (.t 9) (.t 32)),mv 10 33])
 (.lp 2 (.norm false [5,8,9,10]) l514_1 (.norm false [8])))
 (.seq
 (.reg [mv 44 8,mv 4 44])
 (.pre (.norm false [4]) .ret)))))))
def l517_0:AX:=
 (.note
 (.seq
 (.seq
 (.reg [mv 13 6,mv 14 0,rg 15 (.bin .lss (.t 13) (.t 14))])
 (.cond (.t 15)
 .skip
 (.exit 0)))
 (.seq
 (.block 1
 (.reg [mv 20 5,mv 21 6,rg 22 (.bsl 1 [(.i .i64 0)] 1 [(0,(.t 21))]),rg 23 (.app 1 (.t 20) (.t 22)),mv 5 23]))
 (.reg [mv 16 6,mv 17 1,rg 18 (.call 518 [(.t 17)]),rg 19 (.bin .add (.t 16) (.t 18)),mv 6 19])))
 (.norm false [0,1,5,6]))
def b517:AX:=
 (.seq
 (.reg [rg 4 (.mov (.c (.sl [] .nl)))])
 (.seq
 (.seq
 (.reg [mv 7 0,rg 8 (.bin .lss (.t 7) (.c (.i .i64 1))),mv 9 8,gd 10 9 false (.mov (.t 0)),gd 11 9 false (.bin .gtr (.t 10) (.c (.i .i64 200))),rg 12 (.pick (.t 9) (.c (.b true)) (.t 11))])
 (.cond (.t 12)
 (.seq
 (.reg [rg 4 (.mov (.c (.sl [] .nl)))])
 (.pre (.norm false [4]) .ret))
 .skip))
 (.seq
 (.note (.reg [rg 5 (.mov (.c (.sl [] .nl)))]) (.nil 5 1))
 (.seq
 (.seq
 (.reg [rg 6 (.mov (.c (.i .i64 0)))])
 (.lp 0 (.norm false [0,1,5,6]) l517_0 (.norm false [5])))
 (.seq
 (.reg [mv 24 5,mv 4 24])
 (.pre (.norm false [4]) .ret))))))
def b518:AX:=
 (.seq
 (.reg [rg 2 (.mov (.c (.i .i64 0)))])
 (.seq
 (.reg [mv 3 0,rg 4 (.mm true [(.t 3),(.c (.i .i64 1))]),rg 5 (.mm false [(.t 4),(.c (.i .i64 200))]),mv 2 5])
 (.pre (.norm false [2]) .ret)))
def l525_0:AX:=
 (.note
 (.seq
 (.reg [rg 15 (.bin .lss (.t 14) (.t 13))])
 (.seq
 (.cond (.t 15)
 .skip
 (.exit 0))
 (.seq
 (.block 1
 (.seq
 (.reg [rg 16 (.iad 2 (.t 12) (.t 14)),rg 17 (.load (some 2) (.t 16)),rg 6 (.alloc [(.i .i64 0),(.i .i64 0)]),so (.store 2 (.t 6) (.t 17))])
 (.seq
 (.reg [rg 18 (.load (some 2) (.t 6)),rg 19 (.load (some 2) (.t 3)),rg 20 (.eqs false [(0,.int),(1,.int)] (.t 18) (.t 19))])
 (.cond (.t 20)
 (.seq
 (.reg [rg 4 (.mov (.c (.b true)))])
 (.pre (.norm false [4]) .ret))
 .skip))))
 (.reg [rg 21 (.bin .add (.t 14) (.c (.i .i64 1))),mv 14 21]))))
 (.norm false [3,12,13,14]))
def b525:AX:=
 (.seq
 (.reg [rg 2 (.xop (.box 4) [(.t 0)]),rg 3 (.xop (.box 2) [(.t 1)]),rg 4 (.mov (.c (.b false)))])
 (.seq
 (.seq
 (.reg [rg 7 (.fad 1 (.t 2)),rg 8 (.load none (.t 7)),rg 9 (.len (.t 8)),rg 10 (.fad 0 (.t 2)),rg 11 (.load none (.t 10)),rg 12 (.call 514 [(.t 9),(.t 11)]),rg 13 (.len (.t 12)),rg 14 (.mov (.c (.i .i64 0)))])
 (.lp 0 (.norm false [3,12,13,14]) l525_0 (.norm false [])))
 (.seq
 (.reg [rg 4 (.mov (.c (.b false)))])
 (.pre (.norm false [4]) .ret))))
def b534:AX:=
 (.reg [mv 4 0,mv 5 0,rg 6 (.nilc (.t 5)),rg 7 (.fad 0 (.t 6)),rg 8 (.load none (.t 7)),mv 9 1,rg 10 (.app 2 (.t 8) (.t 9)),rg 11 (.nilc (.t 4)),rg 12 (.fad 0 (.t 11)),so (.store 1 (.t 12) (.t 10))])
def b535:AX:=
 (.seq
 (.reg [rg 2 (.alloc [(.i .i64 0),(.i .i64 0)]),rg 3 (.mov (.c (.b false)))])
 (.seq
 (.reg [mv 8 0,rg 9 (.call 550 [(.t 8)]),mv 7 9,rg 10 (.ext (.t 7) 0),rg 11 (.ext (.t 7) 1),rg 4 (.alloc [(.i .i64 0),(.i .i64 0)]),so (.store 2 (.t 4) (.t 10)),mv 5 11])
 (.seq
 (.seq
 (.reg [mv 12 5])
 (.cond (.t 12)
 (.seq
 (.reg [rg 6 (.alloc [(.i .i64 0),(.i .i64 0)])])
 (.seq
 (.drawT [mv 13 0,rg 14 (.nilc (.t 13)),rg 15 (.fad 0 (.t 14)),rg 16 (.load none (.t 15)),mv 17 0,rg 18 (.nilc (.t 17)),rg 19 (.fad 0 (.t 18)),rg 20 (.load none (.t 19)),rg 21 (.len (.t 20)),rg 22 (.bin .sub (.t 21) (.c (.i .i64 1))),rg 23 (.load (some 2) (.t 6))]
 [rg 24 (.iad 2 (.t 16) (.t 22)),so (.store 2 (.t 24) (.t 23))])
 (.drawT [mv 25 0,mv 26 0,rg 27 (.nilc (.t 26)),rg 28 (.fad 0 (.t 27)),rg 29 (.load none (.t 28)),mv 30 0,rg 31 (.nilc (.t 30)),rg 32 (.fad 0 (.t 31)),rg 33 (.load none (.t 32)),rg 34 (.len (.t 33)),rg 35 (.bin .sub (.t 34) (.c (.i .i64 1))),rg 36 (.slc 2 (.t 29) none (some (.t 35)) none)]
 [rg 37 (.nilc (.t 25)),rg 38 (.fad 0 (.t 37)),so (.store 1 (.t 38) (.t 36))])))
 .skip))
 (.seq
 (.reg [rg 39 (.load (some 2) (.t 4)),mv 40 5,so (.store 2 (.t 2) (.t 39)),mv 3 40])
 (.pre (.norm false [2,3]) .ret)))))
def b550:AX:=
 (.seq
 (.reg [rg 2 (.alloc [(.i .i64 0),(.i .i64 0)]),rg 3 (.mov (.c (.b false)))])
 (.seq
 (.seq
 (.reg [mv 5 0,rg 6 (.nilc (.t 5)),rg 7 (.fad 0 (.t 6)),rg 8 (.load none (.t 7)),rg 9 (.len (.t 8)),rg 10 (.bin .eql (.t 9) (.c (.i .i64 0)))])
 (.cond (.t 10)
 (.seq
 (.reg [rg 4 (.alloc [(.i .i64 0),(.i .i64 0)])])
 (.seq
 (.reg [rg 11 (.load (some 2) (.t 4)),so (.store 2 (.t 2) (.t 11)),rg 3 (.mov (.c (.b false)))])
 (.pre (.norm false [2,3]) .ret)))
 .skip))
 (.seq
 (.drawT [mv 12 0,rg 13 (.nilc (.t 12)),rg 14 (.fad 0 (.t 13)),rg 15 (.load none (.t 14)),mv 16 0,rg 17 (.nilc (.t 16)),rg 18 (.fad 0 (.t 17)),rg 19 (.load none (.t 18)),rg 20 (.len (.t 19)),rg 21 (.bin .sub (.t 20) (.c (.i .i64 1)))]
 [rg 22 (.iad 2 (.t 15) (.t 21)),rg 23 (.load (some 2) (.t 22)),so (.store 2 (.t 2) (.t 23)),rg 3 (.mov (.c (.b true)))])
 (.pre (.norm false [2,3]) .ret))))
-- (*retrospect/keep.Pile[retrospect/keep.Segment]).Len does not resolve
class CKeep (T:Tbl):Prop where
 h499:T 499=some ⟨2,50,[.cell 4 (some 4)],b499,none,false⟩
 h504:T 504=some ⟨1,50,[.t 2],b504,none,false⟩
 h506:T 506=some ⟨3,109,[.t 6,.cell 7 (some 4)],b506,none,false⟩
 h514:T 514=some ⟨2,45,[.t 4],b514,none,false⟩
 h517:T 517=some ⟨2,25,[.t 4],b517,none,false⟩
 h518:T 518=some ⟨1,6,[.t 2],b518,none,false⟩
 h525:T 525=some ⟨2,22,[.t 4],b525,none,false⟩
 h534:T 534=some ⟨2,13,[],b534,(some [true,false]),false⟩
 h535:T 535=some ⟨1,41,[.cell 2 (some 2),.t 3],b535,(some [true]),false⟩
 h550:T 550=some ⟨1,24,[.cell 2 (some 2),.t 3],b550,(some [true]),false⟩
section
variable{T:Tbl}[CKeep T]{d:Option Nat}{st:St}{xs:List AV}{ps:List Opd}{e:Env}{h:Heap}{ol:List Heap}
@[simp] theorem x499:callX (orc T) T 499 xs d st=cP T 499 false xs d st:=zaa CKeep.h499
theorem f499(xs:List AV)(hn:xs.length=2):callF T 499 xs=retF [.cell 4 (some 4)] false (evX (orc T) T 0 b499 ⟨argEnv xs,[],1⟩):=zab CKeep.h499 hn
@[simp] theorem x504:callX (orc T) T 504 xs d st=cP T 504 false xs d st:=zaa CKeep.h504
theorem f504(xs:List AV)(hn:xs.length=1):callF T 504 xs=retF [.t 2] false (evX (orc T) T 0 b504 ⟨argEnv xs,[],1⟩):=zab CKeep.h504 hn
@[simp] theorem y506:opD (orc T) T (.call 506 ps) e h ol=dP T 506 false ps e:=zal CKeep.h506
theorem f506(xs:List AV)(hn:xs.length=3):callF T 506 xs=retF [.t 6,.cell 7 (some 4)] false (evX (orc T) T 0 b506 ⟨argEnv xs,[],1⟩):=zab CKeep.h506 hn
@[simp] theorem x514:callX (orc T) T 514 xs d st=cP T 514 false xs d st:=zaa CKeep.h514
theorem f514(xs:List AV)(hn:xs.length=2):callF T 514 xs=retF [.t 4] false (evX (orc T) T 0 b514 ⟨argEnv xs,[],1⟩):=zab CKeep.h514 hn
@[simp] theorem x517:callX (orc T) T 517 xs d st=cP T 517 false xs d st:=zaa CKeep.h517
theorem f517(xs:List AV)(hn:xs.length=2):callF T 517 xs=retF [.t 4] false (evX (orc T) T 0 b517 ⟨argEnv xs,[],1⟩):=zab CKeep.h517 hn
@[simp] theorem x518:callX (orc T) T 518 xs d st=cP T 518 false xs d st:=zaa CKeep.h518
@[simp] theorem y518:opD (orc T) T (.call 518 ps) e h ol=dP T 518 false ps e:=zal CKeep.h518
theorem f518(xs:List AV)(hn:xs.length=1):callF T 518 xs=retF [.t 2] false (evX (orc T) T 0 b518 ⟨argEnv xs,[],1⟩):=zab CKeep.h518 hn
@[simp] theorem x525:callX (orc T) T 525 xs d st=cP T 525 false xs d st:=zaa CKeep.h525
theorem f525(xs:List AV)(hn:xs.length=2):callF T 525 xs=retF [.t 4] false (evX (orc T) T 0 b525 ⟨argEnv xs,[],1⟩):=zab CKeep.h525 hn
@[simp] theorem x534:callX (orc T) T 534 xs d st=cL T 534 false [true,false] xs d st:=zan CKeep.h534
theorem f534(xs:List AV)(hb:Heap)(hn:xs.length=2):callH T 534 xs hb=retH [] false hb.length (evX (orc T) T hb.length b534 ⟨argEnv xs,hb,hb.length+1⟩):=zau CKeep.h534 hn
@[simp] theorem x535:callX (orc T) T 535 xs d st=cL T 535 false [true] xs d st:=zan CKeep.h535
theorem f535(xs:List AV)(hb:Heap)(hn:xs.length=1):callH T 535 xs hb=retH [.cell 2 (some 2),.t 3] false hb.length (evX (orc T) T hb.length b535 ⟨argEnv xs,hb,hb.length+1⟩):=zau CKeep.h535 hn
@[simp] theorem x550:callX (orc T) T 550 xs d st=cL T 550 false [true] xs d st:=zan CKeep.h550
theorem f550(xs:List AV)(hb:Heap)(hn:xs.length=1):callH T 550 xs hb=retH [.cell 2 (some 2),.t 3] false hb.length (evX (orc T) T hb.length b550 ⟨argEnv xs,hb,hb.length+1⟩):=zau CKeep.h550 hn
end
def l512_0:AX:=
 (.note
 (.seq
 (.reg [rg 42 (.bin .lss (.t 41) (.t 40))])
 (.seq
 (.cond (.t 42)
 .skip
 (.exit 0))
 (.seq
 (.block 1
 (.seq
 (.reg [mv 43 41,rg 44 (.iad 3 (.t 39) (.t 41)),rg 45 (.load (some 3) (.t 44)),rg 12 (.alloc [(.b false),(.sl [] .nl),(.sl [] .nl)]),mv 11 43,so (.store 3 (.t 12) (.t 45))])
 (.seq
 (.reg [rg 46 (.load (some 3) (.t 12)),rg 47 (.call 207 [(.t 46)]),so (.store 3 (.t 12) (.t 47))])
 (.seq
 (.reg [rg 49 (.load (some 11) (.t 4)),rg 50 (.fad 1 (.t 10)),rg 51 (.load (some 3) (.t 50)),rg 52 (.load (some 3) (.t 12)),rg 53 (.fad 4 (.t 10)),rg 54 (.load none (.t 53)),rg 55 (.call 526 [(.t 49),(.t 51),(.t 52),(.t 54)]),mv 48 55,rg 56 (.ext (.t 48) 0),rg 57 (.ext (.t 48) 1),rg 13 (.alloc [(.sl [] .nl),(.sl [] .nl),(.sl [] .nl),(.sl [] .nl)]),rg 14 (.alloc [(.i .i64 0),(.i .i64 0),(.i .i64 0),(.i .i64 0)]),so (.store 4 (.t 13) (.t 56)),so (.store 4 (.t 14) (.t 57))])
 (.seq
 (.seq
 (.reg [rg 58 (.load (some 4) (.t 14)),rg 59 (.build [(.i .i64 0),(.i .i64 0),(.i .i64 0),(.i .i64 0)] []),rg 60 (.eqs true [(0,.int),(1,.int),(2,.int),(3,.int)] (.t 58) (.t 59))])
 (.cond (.t 60)
 (.seq
 (.reg [mv 61 11,rg 62 (.bin .add (.t 61) (.c (.i .i64 1))),rg 63 (.fad 1 (.t 14)),so (.store 1 (.t 63) (.t 62))])
 (.seq
 (.draw [⟨rg 64 (.build [(.sl [] .nl),(.b false),(.sl [] .nl),(.sl [] .nl),(.sl [] .nl)] []),0,0⟩,⟨rg 65 (.load (some 4) (.t 14)),0,1⟩,⟨so (.store 5 (.t 8) (.t 64)),0,1⟩,⟨so (.store 4 (.t 9) (.t 65)),1,2⟩])
 (.pre (.norm false [8,9]) .ret)))
 .skip))
 (.seq
 (.drawT [rg 66 (.fad 0 (.t 10)),rg 67 (.load none (.t 66)),rg 68 (.fad 1 (.t 10)),rg 69 (.load (some 3) (.t 68)),rg 70 (.load (some 3) (.t 12)),rg 71 (.load (some 3) (.t 12)),rg 72 (.fad 3 (.t 13)),rg 73 (.load none (.t 72)),rg 74 (.call 272 [(.t 73)]),rg 75 (.fad 4 (.t 10)),rg 76 (.load none (.t 75)),rg 77 (.build [(.b false),(.sl [] .nl),(.sl [] .nl),(.b false),(.sl [] .nl),(.sl [] .nl),(.b false),(.sl [] .nl),(.sl [] .nl),(.b false),(.sl [] .nl),(.sl [] .nl),(.sl [] .nl),(.b false)] [(0,3,(.t 69)),(3,3,(.t 70)),(6,3,(.t 71)),(9,3,(.t 74)),(12,1,(.t 76)),(13,1,(.c (.b true)))]),rg 78 (.bsl 14 [(.b false),(.sl [] .nl),(.sl [] .nl),(.b false),(.sl [] .nl),(.sl [] .nl),(.b false),(.sl [] .nl),(.sl [] .nl),(.b false),(.sl [] .nl),(.sl [] .nl),(.sl [] .nl),(.b false)] 1 [(0,(.t 77))])]
 [rg 79 (.app 14 (.t 67) (.t 78)),rg 80 (.fad 0 (.t 10)),so (.store 1 (.t 80) (.t 79))])
 (.draw [⟨rg 81 (.fad 1 (.t 10)),0,0⟩,⟨rg 82 (.load (some 3) (.t 81)),0,0⟩,⟨rg 83 (.load (some 3) (.t 12)),0,0⟩,⟨rg 84 (.call 215 [(.t 82),(.t 83)]),0,0⟩,⟨rg 85 (.fad 2 (.t 13)),0,1⟩,⟨rg 86 (.load none (.t 85)),0,1⟩,⟨rg 87 (.fad 1 (.t 10)),0,0⟩,⟨so (.store 3 (.t 87) (.t 84)),0,1⟩,⟨rg 88 (.fad 4 (.t 10)),1,1⟩,⟨so (.store 1 (.t 88) (.t 86)),1,2⟩])))))))
 (.reg [rg 89 (.bin .add (.t 41) (.c (.i .i64 1))),mv 41 89]))))
 (.norm false [4,8,9,10,39,40,41]))
def b512:AX:=
 (.seq
 (.reg [rg 4 (.xop (.box 11) [(.t 0)]),rg 5 (.xop (.box 3) [(.t 1)]),rg 8 (.alloc [(.sl [] .nl),(.b false),(.sl [] .nl),(.sl [] .nl),(.sl [] .nl)]),rg 9 (.alloc [(.i .i64 0),(.i .i64 0),(.i .i64 0),(.i .i64 0)])])
 (.seq
 (.seq
 (.reg [rg 15 (.load (some 11) (.t 4)),rg 16 (.call 524 [(.t 15)]),rg 17 (.un .not (.t 16)),mv 18 17,gd 19 18 false (.mov (.t 2)),gd 20 18 false (.len (.t 19)),gd 21 18 false (.fad 0 (.t 4)),gd 22 18 false (.fad 2 (.t 21)),gd 23 18 false (.load none (.t 22)),gd 24 18 false (.bin .neq (.t 20) (.t 23)),rg 25 (.pick (.t 18) (.c (.b true)) (.t 24)),mv 26 25,gd 27 26 false (.mov (.t 3)),gd 28 26 false (.call 531 [(.t 27)]),gd 29 26 false (.un .not (.t 28)),rg 30 (.pick (.t 26) (.c (.b true)) (.t 29))])
 (.cond (.t 30)
 (.seq
 (.reg [rg 31 (.build [(.sl [] .nl),(.b false),(.sl [] .nl),(.sl [] .nl),(.sl [] .nl)] []),rg 32 (.build [(.i .i64 0),(.i .i64 0),(.i .i64 0),(.i .i64 0)] [(0,1,(.c (.i .i64 2)))]),so (.store 5 (.t 8) (.t 31)),so (.store 4 (.t 9) (.t 32))])
 (.pre (.norm false [8,9]) .ret))
 .skip))
 (.seq
 (.note (.reg [rg 33 (.load (some 3) (.t 5)),rg 34 (.call 207 [(.t 33)]),rg 35 (.call 205 [(.c (.i .i64 1))]),mv 36 2,rg 37 (.call 269 [(.t 35),(.t 36)]),rg 38 (.build [(.sl [] .nl),(.b false),(.sl [] .nl),(.sl [] .nl),(.sl [] .nl)] [(1,3,(.t 34)),(4,1,(.t 37))]),rg 10 (.alloc [(.sl [] .nl),(.b false),(.sl [] .nl),(.sl [] .nl),(.sl [] .nl)]),so (.store 5 (.t 10) (.t 38))]) (.fld 10 0 0 14))
 (.seq
 (.seq
 (.reg [mv 39 3,rg 40 (.len (.t 39)),rg 41 (.mov (.c (.i .i64 0)))])
 (.lp 0 (.norm false [4,8,9,10,39,40,41]) l512_0 (.norm false [8,9,10])))
 (.seq
 (.reg [rg 90 (.load (some 5) (.t 10)),rg 91 (.build [(.i .i64 0),(.i .i64 0),(.i .i64 0),(.i .i64 0)] []),so (.store 5 (.t 8) (.t 90)),so (.store 4 (.t 9) (.t 91))])
 (.pre (.norm false [8,9]) .ret))))))
def l531_0:AX:=
 (.note
 (.seq
 (.reg [rg 8 (.bin .lss (.t 7) (.t 6))])
 (.seq
 (.cond (.t 8)
 .skip
 (.exit 0))
 (.seq
 (.block 1
 (.seq
 (.reg [rg 9 (.iad 3 (.t 5) (.t 7)),rg 10 (.load (some 3) (.t 9)),rg 4 (.alloc [(.b false),(.sl [] .nl),(.sl [] .nl)]),so (.store 3 (.t 4) (.t 10))])
 (.seq
 (.reg [rg 11 (.load (some 3) (.t 4)),rg 12 (.call 209 [(.t 11)]),rg 13 (.bin .leq (.t 12) (.c (.i .i64 0)))])
 (.cond (.t 13)
 (.seq
 (.reg [rg 2 (.mov (.c (.b false)))])
 (.pre (.norm false [2]) .ret))
 .skip))))
 (.reg [rg 14 (.bin .add (.t 7) (.c (.i .i64 1))),mv 7 14]))))
 (.norm false [0,5,6,7]))
def b531:AX:=
 (.seq
 (.reg [rg 2 (.mov (.c (.b false)))])
 (.seq
 (.seq
 (.reg [mv 5 0,rg 6 (.len (.t 5)),rg 7 (.mov (.c (.i .i64 0)))])
 (.lp 0 (.norm false [0,5,6,7]) l531_0 (.norm false [0])))
 (.seq
 (.reg [mv 15 0,rg 16 (.len (.t 15)),rg 17 (.bin .leq (.t 16) (.c (.i .i64 200))),mv 2 17])
 (.pre (.norm false [2]) .ret))))
class CMarch (T:Tbl):Prop where
 h512:T 512=some ⟨4,92,[.cell 8 (some 5),.cell 9 (some 4)],b512,none,false⟩
 h531:T 531=some ⟨1,18,[.t 2],b531,none,false⟩
section
variable{T:Tbl}[CMarch T]{d:Option Nat}{st:St}{xs:List AV}{ps:List Opd}{e:Env}{h:Heap}{ol:List Heap}
@[simp] theorem y512:opD (orc T) T (.call 512 ps) e h ol=dP T 512 false ps e:=zal CMarch.h512
theorem f512(xs:List AV)(hn:xs.length=4):callF T 512 xs=retF [.cell 8 (some 5),.cell 9 (some 4)] false (evX (orc T) T 0 b512 ⟨argEnv xs,[],1⟩):=zab CMarch.h512 hn
@[simp] theorem x531:callX (orc T) T 531 xs d st=cP T 531 false xs d st:=zaa CMarch.h531
theorem f531(xs:List AV)(hn:xs.length=1):callF T 531 xs=retF [.t 2] false (evX (orc T) T 0 b531 ⟨argEnv xs,[],1⟩):=zab CMarch.h531 hn
end
def l513_0:AX:=
 (.note
 (.seq
 (.reg [rg 12 (.bin .lss (.t 11) (.t 10))])
 (.seq
 (.cond (.t 12)
 .skip
 (.exit 0))
 (.seq
 (.block 1
 (.seq
 (.reg [rg 13 (.iad 14 (.t 9) (.t 11)),rg 14 (.load (some 14) (.t 13)),rg 7 (.alloc [(.b false),(.sl [] .nl),(.sl [] .nl),(.b false),(.sl [] .nl),(.sl [] .nl),(.b false),(.sl [] .nl),(.sl [] .nl),(.b false),(.sl [] .nl),(.sl [] .nl),(.sl [] .nl),(.b false)]),so (.store 14 (.t 7) (.t 14))])
 (.seq
 (.reg [mv 15 4,rg 16 (.fad 0 (.t 7)),rg 17 (.load (some 3) (.t 16)),rg 18 (.bsl 3 [(.b false),(.sl [] .nl),(.sl [] .nl)] 1 [(0,(.t 17))]),rg 19 (.app 3 (.t 15) (.t 18)),mv 4 19])
 (.reg [mv 20 5,rg 21 (.fad 12 (.t 7)),rg 22 (.load none (.t 21)),rg 23 (.bsl 1 [(.sl [] .nl)] 1 [(0,(.t 22))]),rg 24 (.app 1 (.t 20) (.t 23)),mv 5 24]))))
 (.reg [rg 25 (.bin .add (.t 11) (.c (.i .i64 1))),mv 11 25]))))
 (.norm false [1,4,5,9,10,11]))
def b513:AX:=
 (.seq
 (.reg [rg 1 (.xop (.box 5) [(.t 0)]),rg 2 (.mov (.c (.sl [] .nl))),rg 3 (.mov (.c (.sl [] .nl)))])
 (.seq
 (.note (.reg [rg 4 (.mov (.c (.sl [] .nl)))]) (.nil 4 3))
 (.seq
 (.note (.reg [rg 5 (.mov (.c (.sl [] .nl)))]) (.nil 5 1))
 (.seq
 (.seq
 (.reg [rg 8 (.load (some 5) (.t 1)),rg 9 (.call 532 [(.t 8)]),rg 10 (.len (.t 9)),rg 11 (.mov (.c (.i .i64 0)))])
 (.lp 0 (.norm false [1,4,5,9,10,11]) l513_0 (.norm false [1,4,5])))
 (.seq
 (.drawM [mv 26 4,rg 27 (.fad 1 (.t 1)),rg 28 (.load (some 3) (.t 27)),rg 29 (.call 207 [(.t 28)]),rg 30 (.bsl 3 [(.b false),(.sl [] .nl),(.sl [] .nl)] 1 [(0,(.t 29))]),rg 31 (.app 3 (.t 26) (.t 30)),mv 32 5,rg 33 (.fad 4 (.t 1)),rg 34 (.load none (.t 33)),rg 35 (.call 533 [(.t 34)]),rg 36 (.bsl 1 [(.sl [] .nl)] 1 [(0,(.t 35))])]
 [rg 37 (.app 1 (.t 32) (.t 36)),mv 2 31,mv 3 37])
 (.pre (.norm false [2,3]) .ret))))))
def l532_0:AX:=
 (.note
 (.seq
 (.reg [rg 11 (.bin .lss (.t 10) (.t 9))])
 (.seq
 (.cond (.t 11)
 .skip
 (.exit 0))
 (.seq
 (.block 1
 (.seq
 (.reg [rg 12 (.iad 14 (.t 8) (.t 10)),rg 13 (.load (some 14) (.t 12)),rg 5 (.alloc [(.b false),(.sl [] .nl),(.sl [] .nl),(.b false),(.sl [] .nl),(.sl [] .nl),(.b false),(.sl [] .nl),(.sl [] .nl),(.b false),(.sl [] .nl),(.sl [] .nl),(.sl [] .nl),(.b false)]),so (.store 14 (.t 5) (.t 13))])
 (.seq
 (.reg [rg 14 (.fad 13 (.t 5)),rg 15 (.load none (.t 14))])
 (.cond (.t 15)
 (.seq
 (.reg [rg 16 (.load (some 14) (.t 5)),rg 17 (.call 549 [(.t 16)]),rg 18 (.call 533 [(.t 17)]),mv 6 18])
 (.drawT [mv 19 3,mv 20 6,rg 21 (.iad 3 (.t 20) (.c (.i .i64 0))),rg 22 (.load (some 3) (.t 21)),mv 23 6,rg 24 (.iad 3 (.t 23) (.c (.i .i64 1))),rg 25 (.load (some 3) (.t 24)),mv 26 6,rg 27 (.iad 3 (.t 26) (.c (.i .i64 2))),rg 28 (.load (some 3) (.t 27)),mv 29 6,rg 30 (.iad 3 (.t 29) (.c (.i .i64 3))),rg 31 (.load (some 3) (.t 30)),rg 32 (.fad 12 (.t 5)),rg 33 (.load none (.t 32)),rg 34 (.call 533 [(.t 33)]),rg 35 (.build [(.b false),(.sl [] .nl),(.sl [] .nl),(.b false),(.sl [] .nl),(.sl [] .nl),(.b false),(.sl [] .nl),(.sl [] .nl),(.b false),(.sl [] .nl),(.sl [] .nl),(.sl [] .nl),(.b false)] [(0,3,(.t 22)),(3,3,(.t 25)),(6,3,(.t 28)),(9,3,(.t 31)),(12,1,(.t 34)),(13,1,(.c (.b true)))]),rg 36 (.bsl 14 [(.b false),(.sl [] .nl),(.sl [] .nl),(.b false),(.sl [] .nl),(.sl [] .nl),(.b false),(.sl [] .nl),(.sl [] .nl),(.b false),(.sl [] .nl),(.sl [] .nl),(.sl [] .nl),(.b false)] 1 [(0,(.t 35))])]
 [rg 37 (.app 14 (.t 19) (.t 36)),mv 3 37]))
 .skip))))
 (.reg [rg 38 (.bin .add (.t 10) (.c (.i .i64 1))),mv 10 38]))))
 (.norm false [3,8,9,10]))
def b532:AX:=
 (.seq
 (.reg [rg 1 (.xop (.box 5) [(.t 0)]),rg 2 (.mov (.c (.sl [] .nl)))])
 (.seq
 (.note (.reg [rg 3 (.mov (.c (.sl [] .nl)))]) (.nil 3 14))
 (.seq
 (.seq
 (.reg [rg 7 (.fad 0 (.t 1)),rg 8 (.load none (.t 7)),rg 9 (.len (.t 8)),rg 10 (.mov (.c (.i .i64 0)))])
 (.lp 0 (.norm false [3,8,9,10]) l532_0 (.norm false [3])))
 (.seq
 (.reg [mv 39 3,mv 2 39])
 (.pre (.norm false [2]) .ret)))))
def b533:AX:=
 (.seq
 (.reg [rg 2 (.mov (.c (.sl [] .nl)))])
 (.seq
 (.reg [rg 3 (.call 205 [(.c (.i .i64 1))]),mv 4 0,rg 5 (.call 269 [(.t 3),(.t 4)]),mv 2 5])
 (.pre (.norm false [2]) .ret)))
def b549:AX:=
 (.seq
 (.reg [rg 1 (.xop (.box 14) [(.t 0)]),rg 2 (.mov (.c (.sl [] .nl)))])
 (.seq
 (.reg [rg 3 (.fad 0 (.t 1)),rg 4 (.load (some 3) (.t 3)),rg 5 (.fad 3 (.t 1)),rg 6 (.load (some 3) (.t 5)),rg 7 (.fad 6 (.t 1)),rg 8 (.load (some 3) (.t 7)),rg 9 (.fad 9 (.t 1)),rg 10 (.load (some 3) (.t 9)),rg 11 (.bsl 3 [(.b false),(.sl [] .nl),(.sl [] .nl)] 4 [(0,(.t 4)),(1,(.t 6)),(2,(.t 8)),(3,(.t 10))]),mv 2 11])
 (.pre (.norm false [2]) .ret)))
class CPast (T:Tbl):Prop where
 h513:T 513=some ⟨1,38,[.t 2,.t 3],b513,none,false⟩
 h532:T 532=some ⟨1,40,[.t 2],b532,none,false⟩
 h533:T 533=some ⟨1,6,[.t 2],b533,none,false⟩
 h549:T 549=some ⟨1,12,[.t 2],b549,none,false⟩
section
variable{T:Tbl}[CPast T]{d:Option Nat}{st:St}{xs:List AV}{ps:List Opd}{e:Env}{h:Heap}{ol:List Heap}
@[simp] theorem x513:callX (orc T) T 513 xs d st=cP T 513 false xs d st:=zaa CPast.h513
theorem f513(xs:List AV)(hn:xs.length=1):callF T 513 xs=retF [.t 2,.t 3] false (evX (orc T) T 0 b513 ⟨argEnv xs,[],1⟩):=zab CPast.h513 hn
@[simp] theorem x532:callX (orc T) T 532 xs d st=cP T 532 false xs d st:=zaa CPast.h532
theorem f532(xs:List AV)(hn:xs.length=1):callF T 532 xs=retF [.t 2] false (evX (orc T) T 0 b532 ⟨argEnv xs,[],1⟩):=zab CPast.h532 hn
@[simp] theorem x533:callX (orc T) T 533 xs d st=cP T 533 false xs d st:=zaa CPast.h533
@[simp] theorem y533:opD (orc T) T (.call 533 ps) e h ol=dP T 533 false ps e:=zal CPast.h533
theorem f533(xs:List AV)(hn:xs.length=1):callF T 533 xs=retF [.t 2] false (evX (orc T) T 0 b533 ⟨argEnv xs,[],1⟩):=zab CPast.h533 hn
@[simp] theorem x549:callX (orc T) T 549 xs d st=cP T 549 false xs d st:=zaa CPast.h549
theorem f549(xs:List AV)(hn:xs.length=1):callF T 549 xs=retF [.t 2] false (evX (orc T) T 0 b549 ⟨argEnv xs,[],1⟩):=zab CPast.h549 hn
end
def l519_0:AX:=
 (.note
 (.seq
 (.reg [rg 10 (.bin .lss (.t 9) (.t 8))])
 (.seq
 (.cond (.t 10)
 .skip
 (.exit 0))
 (.seq
 (.block 1
 (.seq
 (.reg [rg 11 (.iad 14 (.t 7) (.t 9)),rg 12 (.load (some 14) (.t 11)),rg 5 (.alloc [(.b false),(.sl [] .nl),(.sl [] .nl),(.b false),(.sl [] .nl),(.sl [] .nl),(.b false),(.sl [] .nl),(.sl [] .nl),(.b false),(.sl [] .nl),(.sl [] .nl),(.sl [] .nl),(.b false)]),so (.store 14 (.t 5) (.t 12))])
 (.reg [mv 13 3,rg 14 (.fad 6 (.t 5)),rg 15 (.load (some 3) (.t 14)),rg 16 (.bsl 3 [(.b false),(.sl [] .nl),(.sl [] .nl)] 1 [(0,(.t 15))]),rg 17 (.app 3 (.t 13) (.t 16)),mv 3 17])))
 (.reg [rg 18 (.bin .add (.t 9) (.c (.i .i64 1))),mv 9 18]))))
 (.norm false [3,7,8,9]))
def b519:AX:=
 (.seq
 (.reg [rg 1 (.xop (.box 5) [(.t 0)]),rg 2 (.mov (.c (.sl [] .nl)))])
 (.seq
 (.note (.reg [rg 3 (.mov (.c (.sl [] .nl)))]) (.nil 3 3))
 (.seq
 (.seq
 (.reg [rg 6 (.load (some 5) (.t 1)),rg 7 (.call 532 [(.t 6)]),rg 8 (.len (.t 7)),rg 9 (.mov (.c (.i .i64 0)))])
 (.lp 0 (.norm false [3,7,8,9]) l519_0 (.norm false [3])))
 (.seq
 (.reg [mv 19 3,mv 2 19])
 (.pre (.norm false [2]) .ret)))))
class CPast2 (T:Tbl):Prop where
 h519:T 519=some ⟨1,20,[.t 2],b519,none,false⟩
section
variable{T:Tbl}[CPast2 T]{d:Option Nat}{st:St}{xs:List AV}{ps:List Opd}{e:Env}{h:Heap}{ol:List Heap}
@[simp] theorem y519:opD (orc T) T (.call 519 ps) e h ol=dP T 519 false ps e:=zal CPast2.h519
theorem f519(xs:List AV)(hn:xs.length=1):callF T 519 xs=retF [.t 2] false (evX (orc T) T 0 b519 ⟨argEnv xs,[],1⟩):=zab CPast2.h519 hn
end
def b496:AX:=
 (.seq
 (.reg [rg 4 (.xop (.box 11) [(.t 0)]),rg 8 (.mov (.c (.b false)))])
 (.seq
 (.reg [rg 9 (.fad 0 (.t 4)),rg 10 (.load (some 4) (.t 9)),mv 11 1,mv 12 3,rg 13 (.call 379 [(.t 10),(.t 11),(.t 12)]),mv 14 13,gd 15 14 false (.fad 4 (.t 4)),gd 16 14 false (.load (some 5) (.t 15)),gd 17 14 false (.mov (.t 2)),gd 18 14 false (.call 515 [(.t 16),(.t 17),(.c (.i .i64 4))]),rg 19 (.pick (.t 14) (.c (.b true)) (.t 18)),mv 20 19,gd 21 20 false (.fad 9 (.t 4)),gd 22 20 false (.load none (.t 21)),gd 23 20 false (.mov (.t 3)),gd 24 20 false (.call 286 [(.t 22),(.c (.i .i64 6)),(.t 23)]),rg 25 (.pick (.t 20) (.c (.b true)) (.t 24)),mv 8 25])
 (.pre (.norm false [8]) .ret)))
def l515_0:AX:=
 (.note
 (.seq
 (.seq
 (.reg [mv 40 7,rg 41 (.fad 2 (.t 3)),rg 42 (.load none (.t 41)),rg 43 (.len (.t 42)),rg 44 (.bin .lss (.t 40) (.t 43))])
 (.cond (.t 44)
 .skip
 (.exit 0)))
 (.seq
 (.block 1
 (.seq
 (.reg [rg 47 (.fad 2 (.t 3)),rg 48 (.load none (.t 47)),mv 49 7,rg 50 (.iad 1 (.t 48) (.t 49)),rg 51 (.load none (.t 50)),mv 52 1,mv 53 2,rg 54 (.call 286 [(.t 51),(.t 52),(.t 53)])])
 (.cond (.t 54)
 (.seq
 (.reg [rg 6 (.mov (.c (.b true)))])
 (.pre (.norm false [6]) .ret))
 .skip)))
 (.reg [mv 45 7,rg 46 (.bin .add (.t 45) (.c (.i .i64 1))),mv 7 46])))
 (.norm false [1,2,3,7]))
def b515:AX:=
 (.seq
 (.reg [rg 3 (.xop (.box 5) [(.t 0)]),rg 6 (.mov (.c (.b false)))])
 (.seq
 (.seq
 (.reg [rg 8 (.fad 0 (.t 3)),rg 9 (.load none (.t 8)),rg 10 (.lens (.t 9)),rg 11 (.bin .gtr (.t 10) (.c (.i .i64 50))),mv 12 11,gd 13 12 false (.fad 2 (.t 3)),gd 14 12 false (.load none (.t 13)),gd 15 12 false (.len (.t 14)),gd 16 12 false (.mov (.t 1)),gd 17 12 false (.bin .gtr (.t 15) (.t 16)),rg 18 (.pick (.t 12) (.c (.b true)) (.t 17)),mv 19 18,gd 20 19 false (.fad 3 (.t 3)),gd 21 19 false (.load none (.t 20)),gd 22 19 false (.mov (.t 1)),gd 23 19 false (.mov (.t 2)),gd 24 19 false (.call 286 [(.t 21),(.t 22),(.t 23)]),rg 25 (.pick (.t 19) (.c (.b true)) (.t 24)),mv 26 25,gd 27 26 false (.fad 1 (.t 3)),gd 28 26 false (.load none (.t 27)),gd 29 26 false (.mov (.t 1)),gd 30 26 false (.mov (.t 2)),gd 31 26 false (.call 286 [(.t 28),(.t 29),(.t 30)]),rg 32 (.pick (.t 26) (.c (.b true)) (.t 31)),mv 33 32,gd 34 33 false (.fad 4 (.t 3)),gd 35 33 false (.load none (.t 34)),gd 36 33 false (.mov (.t 1)),gd 37 33 false (.mov (.t 2)),gd 38 33 false (.call 286 [(.t 35),(.t 36),(.t 37)]),rg 39 (.pick (.t 33) (.c (.b true)) (.t 38))])
 (.cond (.t 39)
 (.seq
 (.reg [rg 6 (.mov (.c (.b true)))])
 (.pre (.norm false [6]) .ret))
 .skip))
 (.seq
 (.seq
 (.reg [rg 7 (.mov (.c (.i .i64 0)))])
 (.lp 0 (.norm false [1,2,3,7]) l515_0 (.norm false [])))
 (.seq
 (.reg [rg 6 (.mov (.c (.b false)))])
 (.pre (.norm false [6]) .ret)))))
class CLong33 (T:Tbl):Prop where
 h496:T 496=some ⟨4,26,[.t 8],b496,none,false⟩
 h515:T 515=some ⟨3,55,[.t 6],b515,none,false⟩
section
variable{T:Tbl}[CLong33 T]{d:Option Nat}{st:St}{xs:List AV}{ps:List Opd}{e:Env}{h:Heap}{ol:List Heap}
@[simp] theorem x496:callX (orc T) T 496 xs d st=cP T 496 false xs d st:=zaa CLong33.h496
theorem f496(xs:List AV)(hn:xs.length=4):callF T 496 xs=retF [.t 8] false (evX (orc T) T 0 b496 ⟨argEnv xs,[],1⟩):=zab CLong33.h496 hn
@[simp] theorem x515:callX (orc T) T 515 xs d st=cP T 515 false xs d st:=zaa CLong33.h515
theorem f515(xs:List AV)(hn:xs.length=3):callF T 515 xs=retF [.t 6] false (evX (orc T) T 0 b515 ⟨argEnv xs,[],1⟩):=zab CLong33.h515 hn
end
def b507:AX:=
 (.seq
 (.reg [rg 1 (.xop (.box 11) [(.t 0)]),rg 2 (.alloc [(.sl [] .nl),(.sl [] .nl),(.i .i64 0),(.i .i64 0),(.s []),(.sl [] .nl),(.sl [] .nl),(.sl [] .nl),(.sl [] .nl),(.sl [] .nl),(.i .i64 0)])])
 (.seq
 (.drawT [rg 3 (.fad 0 (.t 1)),rg 4 (.load (some 4) (.t 3)),rg 5 (.call 382 [(.t 4)]),rg 6 (.fad 4 (.t 1)),rg 7 (.load (some 5) (.t 6)),rg 8 (.call 527 [(.t 7)]),rg 9 (.fad 9 (.t 1)),rg 10 (.load none (.t 9)),rg 11 (.call 287 [(.t 10)]),rg 12 (.fad 10 (.t 1)),rg 13 (.load none (.t 12))]
 [rg 14 (.build [(.sl [] .nl),(.sl [] .nl),(.i .i64 0),(.i .i64 0),(.s []),(.sl [] .nl),(.sl [] .nl),(.sl [] .nl),(.sl [] .nl),(.sl [] .nl),(.i .i64 0)] [(0,4,(.t 5)),(4,5,(.t 8)),(9,1,(.t 11)),(10,1,(.t 13))]),so (.store 11 (.t 2) (.t 14))])
 (.pre (.norm false [2]) .ret)))
def b527:AX:=
 (.seq
 (.reg [rg 1 (.xop (.box 5) [(.t 0)]),rg 2 (.alloc [(.s []),(.sl [] .nl),(.sl [] .nl),(.sl [] .nl),(.sl [] .nl)])])
 (.seq
 (.drawT [rg 3 (.fad 0 (.t 1)),rg 4 (.load none (.t 3)),rg 5 (.fad 1 (.t 1)),rg 6 (.load none (.t 5)),rg 7 (.call 287 [(.t 6)]),rg 8 (.fad 2 (.t 1)),rg 9 (.load none (.t 8)),rg 10 (.call 308 [(.t 9)]),rg 11 (.fad 3 (.t 1)),rg 12 (.load none (.t 11)),rg 13 (.call 287 [(.t 12)]),rg 14 (.fad 4 (.t 1)),rg 15 (.load none (.t 14)),rg 16 (.call 287 [(.t 15)])]
 [rg 17 (.build [(.s []),(.sl [] .nl),(.sl [] .nl),(.sl [] .nl),(.sl [] .nl)] [(0,1,(.t 4)),(1,1,(.t 7)),(2,1,(.t 10)),(3,1,(.t 13)),(4,1,(.t 16))]),so (.store 5 (.t 2) (.t 17))])
 (.pre (.norm false [2]) .ret)))
class CTo33 (T:Tbl):Prop where
 h507:T 507=some ⟨1,15,[.cell 2 (some 11)],b507,none,false⟩
 h527:T 527=some ⟨1,18,[.cell 2 (some 5)],b527,none,false⟩
section
variable{T:Tbl}[CTo33 T]{d:Option Nat}{st:St}{xs:List AV}{ps:List Opd}{e:Env}{h:Heap}{ol:List Heap}
@[simp] theorem x507:callX (orc T) T 507 xs d st=cP T 507 false xs d st:=zaa CTo33.h507
theorem f507(xs:List AV)(hn:xs.length=1):callF T 507 xs=retF [.cell 2 (some 11)] false (evX (orc T) T 0 b507 ⟨argEnv xs,[],1⟩):=zab CTo33.h507 hn
@[simp] theorem y527:opD (orc T) T (.call 527 ps) e h ol=dP T 527 false ps e:=zal CTo33.h527
theorem f527(xs:List AV)(hn:xs.length=1):callF T 527 xs=retF [.cell 2 (some 5)] false (evX (orc T) T 0 b527 ⟨argEnv xs,[],1⟩):=zab CTo33.h527 hn
end
def l495_0:AX:=
 (.note
 (.seq
 (.seq
 (.reg [mv 118 20,mv 119 18,rg 120 (.len (.t 119)),rg 121 (.bin .lss (.t 118) (.t 120))])
 (.cond (.t 121)
 .skip
 (.exit 2)))
 (.seq
 (.block 3
 (.seq
 (.reg [mv 124 15,mv 125 17,rg 126 (.iad 2 (.t 124) (.t 125)),rg 127 (.fad 0 (.t 126)),rg 128 (.load none (.t 127)),mv 129 20,rg 130 (.bin .add (.t 128) (.t 129)),mv 21 130])
 (.seq
 (.drawT [mv 131 21,rg 132 (.bin .lss (.t 131) (.c (.i .i64 0))),mv 133 132,gd 134 133 false (.mov (.t 21)),gd 135 133 false (.mov (.t 14)),gd 136 133 false (.len (.t 135)),gd 137 133 false (.bin .geq (.t 134) (.t 136)),rg 138 (.pick (.t 133) (.c (.b true)) (.t 137)),mv 139 138,gd 140 139 false (.mov (.t 18)),gd 141 139 false (.mov (.t 20)),gd 142 139 false (.iad 1 (.t 140) (.t 141)),gd 143 139 false (.load none (.t 142)),gd 144 139 false (.mov (.t 14)),gd 145 139 false (.mov (.t 21)),gd 146 139 false (.iad 1 (.t 144) (.t 145)),gd 147 139 false (.load none (.t 146))]
 [gd 148 139 false (.call 265 [(.t 143),(.t 147)]),gd 149 139 false (.un .not (.t 148)),rg 150 (.pick (.t 139) (.c (.b true)) (.t 149))])
 (.cond (.t 150)
 (.seq
 (.reg [rg 8 (.mov (.c (.b false)))])
 (.pre (.norm false [8]) .ret))
 .skip))))
 (.reg [mv 122 20,rg 123 (.bin .add (.t 122) (.c (.i .i64 1))),mv 20 123])))
 (.norm false [9,12,14,15,17,18,20]))
def l495_1:AX:=
 (.note
 (.seq
 (.seq
 (.reg [mv 74 17,mv 75 15,rg 76 (.len (.t 75)),rg 77 (.bin .lss (.t 74) (.t 76))])
 (.cond (.t 77)
 .skip
 (.exit 0)))
 (.seq
 (.block 1
 (.seq
 (.draw [⟨rg 81 (.load (some 11) (.t 9)),0,1⟩,⟨rg 82 (.load (some 4) (.t 12)),0,1⟩,⟨mv 83 15,0,1⟩,⟨mv 84 17,0,1⟩,⟨rg 85 (.iad 2 (.t 83) (.t 84)),0,1⟩,⟨rg 86 (.load (some 2) (.t 85)),0,1⟩,⟨rg 87 (.call 506 [(.t 81),(.t 82),(.t 86)]),0,1⟩,⟨mv 80 87,0,1⟩,⟨rg 88 (.ext (.t 80) 0),0,1⟩,⟨rg 89 (.ext (.t 80) 1),0,1⟩,⟨rg 19 (.alloc [(.i .i64 0),(.i .i64 0),(.i .i64 0),(.i .i64 0)]),0,1⟩,⟨mv 18 88,1,1⟩,⟨so (.store 4 (.t 19) (.t 89)),1,2⟩])
 (.seq
 (.seq
 (.drawT [rg 90 (.load (some 4) (.t 19)),rg 91 (.build [(.i .i64 0),(.i .i64 0),(.i .i64 0),(.i .i64 0)] []),rg 92 (.eqs true [(0,.int),(1,.int),(2,.int),(3,.int)] (.t 90) (.t 91)),mv 93 92,gd 94 93 false (.mov (.t 15)),gd 95 93 false (.mov (.t 17)),gd 96 93 false (.iad 2 (.t 94) (.t 95)),gd 97 93 false (.fad 1 (.t 96)),gd 98 93 false (.load none (.t 97)),gd 99 93 false (.mov (.t 16)),gd 100 93 false (.bin .neq (.t 98) (.t 99)),rg 101 (.pick (.t 93) (.c (.b true)) (.t 100)),mv 102 101,gd 103 102 false (.mov (.t 18)),gd 104 102 false (.len (.t 103)),gd 105 102 false (.mov (.t 15)),gd 106 102 false (.mov (.t 17)),gd 107 102 false (.iad 2 (.t 105) (.t 106)),gd 108 102 false (.fad 1 (.t 107)),gd 109 102 false (.load none (.t 108)),gd 110 102 false (.mov (.t 15)),gd 111 102 false (.mov (.t 17)),gd 112 102 false (.iad 2 (.t 110) (.t 111)),gd 113 102 false (.fad 0 (.t 112)),gd 114 102 false (.load none (.t 113)),gd 115 102 false (.bin .sub (.t 109) (.t 114))]
 [gd 116 102 false (.bin .neq (.t 104) (.t 115)),rg 117 (.pick (.t 102) (.c (.b true)) (.t 116))])
 (.cond (.t 117)
 (.seq
 (.reg [rg 8 (.mov (.c (.b false)))])
 (.pre (.norm false [8]) .ret))
 .skip))
 (.seq
 (.seq
 (.reg [rg 20 (.mov (.c (.i .i64 0)))])
 (.lp 2 (.norm false [9,12,14,15,17,18,20]) l495_0 (.norm false [9,12,14,15,17])))
 (.reg [mv 151 15,mv 152 17,rg 153 (.iad 2 (.t 151) (.t 152)),rg 154 (.fad 0 (.t 153)),rg 155 (.load none (.t 154)),mv 16 155])))))
 (.reg [mv 78 17,rg 79 (.bin .add (.t 78) (.c (.i .i64 1))),mv 17 79])))
 (.norm false [9,12,14,15,16,17]))
def b495:AX:=
 (.seq
 (.reg [rg 4 (.xop (.box 11) [(.t 0)]),rg 5 (.xop (.box 7) [(.t 1)]),rg 8 (.mov (.c (.b false)))])
 (.seq
 (.seq
 (.reg [rg 22 (.load (some 11) (.t 4)),rg 23 (.call 496 [(.t 22),(.c (.i .i64 10)),(.c (.i .i64 4)),(.c (.i .i64 2))]),mv 24 23,gd 25 24 false (.fad 4 (.t 4)),gd 26 24 false (.fad 3 (.t 25)),gd 27 24 false (.load none (.t 26)),gd 28 24 false (.len (.t 27)),gd 29 24 false (.bin .gtr (.t 28) (.c (.i .i64 3))),rg 30 (.pick (.t 24) (.c (.b true)) (.t 29)),mv 31 30,gd 32 31 false (.load (some 7) (.t 5)),gd 33 31 false (.call 511 [(.t 32)]),rg 34 (.pick (.t 31) (.c (.b true)) (.t 33)),mv 35 34,gd 36 35 false (.mov (.t 2)),gd 37 35 false (.call 286 [(.t 36),(.c (.i .i64 4)),(.c (.i .i64 2))]),rg 38 (.pick (.t 35) (.c (.b true)) (.t 37))])
 (.cond (.t 38)
 (.seq
 (.reg [rg 39 (.call 498 []),mv 8 39])
 (.pre (.norm false [8]) .ret))
 .skip))
 (.seq
 (.reg [rg 40 (.load (some 11) (.t 4)),rg 41 (.call 507 [(.t 40)]),rg 9 (.alloc [(.sl [] .nl),(.sl [] .nl),(.i .i64 0),(.i .i64 0),(.s []),(.sl [] .nl),(.sl [] .nl),(.sl [] .nl),(.sl [] .nl),(.sl [] .nl),(.i .i64 0)]),so (.store 11 (.t 9) (.t 41))])
 (.seq
 (.reg [rg 42 (.fad 10 (.t 9)),so (.store 1 (.t 42) (.c (.i .i64 1500)))])
 (.seq
 (.drawM [rg 44 (.load (some 11) (.t 9)),rg 45 (.fad 0 (.t 5)),rg 46 (.load (some 3) (.t 45)),rg 47 (.call 248 [(.t 46)]),rg 48 (.fad 6 (.t 5)),rg 49 (.load none (.t 48)),rg 50 (.call 287 [(.t 49)]),mv 51 2,rg 52 (.call 287 [(.t 51)]),rg 53 (.call 512 [(.t 44),(.t 47),(.t 50),(.t 52)]),mv 43 53,rg 54 (.ext (.t 43) 0),rg 55 (.ext (.t 43) 1),rg 10 (.alloc [(.sl [] .nl),(.b false),(.sl [] .nl),(.sl [] .nl),(.sl [] .nl)]),rg 11 (.alloc [(.i .i64 0),(.i .i64 0),(.i .i64 0),(.i .i64 0)]),so (.store 5 (.t 10) (.t 54))]
 [so (.store 4 (.t 11) (.t 55))])
 (.seq
 (.seq
 (.reg [rg 56 (.load (some 4) (.t 11)),rg 57 (.build [(.i .i64 0),(.i .i64 0),(.i .i64 0),(.i .i64 0)] []),rg 58 (.eqs true [(0,.int),(1,.int),(2,.int),(3,.int)] (.t 56) (.t 57))])
 (.cond (.t 58)
 (.seq
 (.reg [rg 59 (.call 498 []),mv 8 59])
 (.pre (.norm false [8]) .ret))
 .skip))
 (.seq
 (.reg [rg 60 (.load (some 5) (.t 10)),mv 61 3,rg 62 (.call 499 [(.t 60),(.t 61)]),rg 12 (.alloc [(.i .i64 0),(.sl [] .nl),(.sl [] .nl),(.sl [] .nl)]),so (.store 4 (.t 12) (.t 62))])
 (.seq
 (.reg [rg 64 (.load (some 5) (.t 10)),rg 65 (.call 513 [(.t 64)]),mv 63 65,rg 66 (.ext (.t 63) 0),rg 67 (.ext (.t 63) 1),mv 13 66,mv 14 67])
 (.seq
 (.reg [mv 68 2,rg 69 (.len (.t 68)),mv 70 3,rg 71 (.call 514 [(.t 69),(.t 70)]),mv 15 71])
 (.seq
 (.reg [mv 72 2,rg 73 (.len (.t 72)),mv 16 73])
 (.seq
 (.seq
 (.reg [rg 17 (.mov (.c (.i .i64 0)))])
 (.lp 0 (.norm false [9,12,14,15,16,17]) l495_1 (.norm false [12,16])))
 (.seq
 (.reg [mv 156 16,rg 157 (.bin .eql (.t 156) (.c (.i .i64 0))),mv 158 157,gd 159 158 true (.load (some 4) (.t 12)),gd 160 158 true (.call 504 [(.t 159)]),rg 161 (.pick (.t 158) (.t 160) (.c (.b false))),mv 162 161,gd 163 162 true (.call 498 []),rg 164 (.pick (.t 162) (.t 163) (.c (.b false))),mv 8 164])
 (.pre (.norm false [8]) .ret)))))))))))))
def b498:AX:=
 (.seq
 (.reg [rg 0 (.mov (.c (.b false)))])
 (.seq
 (.reg [rg 3 (.call 514 [(.c (.i .i64 5)),(.c (.i .i64 2))]),mv 1 3])
 (.seq
 (.reg [rg 4 (.call 517 [(.c (.i .i64 5)),(.c (.i .i64 2))]),mv 2 4])
 (.seq
 (.reg [mv 5 1,rg 6 (.len (.t 5)),rg 7 (.bin .eql (.t 6) (.c (.i .i64 3))),mv 8 7,gd 9 8 true (.mov (.t 1)),gd 10 8 true (.iad 2 (.t 9) (.c (.i .i64 0))),gd 11 8 true (.load (some 2) (.t 10)),gd 12 8 true (.build [(.i .i64 0),(.i .i64 0)] [(0,1,(.c (.i .i64 4))),(1,1,(.c (.i .i64 5)))]),gd 13 8 true (.eqs false [(0,.int),(1,.int)] (.t 11) (.t 12)),rg 14 (.pick (.t 8) (.t 13) (.c (.b false))),mv 15 14,gd 16 15 true (.mov (.t 1)),gd 17 15 true (.iad 2 (.t 16) (.c (.i .i64 2))),gd 18 15 true (.load (some 2) (.t 17)),gd 19 15 true (.build [(.i .i64 0),(.i .i64 0)] [(1,1,(.c (.i .i64 2)))]),gd 20 15 true (.eqs false [(0,.int),(1,.int)] (.t 18) (.t 19)),rg 21 (.pick (.t 15) (.t 20) (.c (.b false))),mv 22 21,gd 23 22 true (.mov (.t 2)),gd 24 22 true (.len (.t 23)),gd 25 22 true (.bin .eql (.t 24) (.c (.i .i64 3))),rg 26 (.pick (.t 22) (.t 25) (.c (.b false))),mv 27 26,gd 28 27 true (.mov (.t 2)),gd 29 27 true (.iad 1 (.t 28) (.c (.i .i64 2))),gd 30 27 true (.load none (.t 29)),gd 31 27 true (.bin .eql (.t 30) (.c (.i .i64 4))),rg 32 (.pick (.t 27) (.t 31) (.c (.b false))),mv 0 32])
 (.pre (.norm false [0]) .ret)))))
def b511:AX:=
 (.seq
 (.reg [rg 1 (.xop (.box 7) [(.t 0)]),rg 2 (.mov (.c (.b false)))])
 (.seq
 (.reg [rg 3 (.fad 0 (.t 1)),rg 4 (.load (some 3) (.t 3)),rg 5 (.call 247 [(.t 4),(.c (.i .i64 2))]),mv 6 5,gd 7 6 false (.fad 3 (.t 1)),gd 8 6 false (.load (some 3) (.t 7)),gd 9 6 false (.call 247 [(.t 8),(.c (.i .i64 2))]),rg 10 (.pick (.t 6) (.c (.b true)) (.t 9)),mv 11 10,gd 12 11 false (.fad 6 (.t 1)),gd 13 11 false (.load none (.t 12)),gd 14 11 false (.call 286 [(.t 13),(.c (.i .i64 4)),(.c (.i .i64 2))]),rg 15 (.pick (.t 11) (.c (.b true)) (.t 14)),mv 2 15])
 (.pre (.norm false [2]) .ret)))
class CLaw43 (T:Tbl):Prop where
 h495:T 495=some ⟨4,165,[.t 8],b495,none,false⟩
 h498:T 498=some ⟨0,33,[.t 0],b498,none,false⟩
 h511:T 511=some ⟨1,16,[.t 2],b511,none,false⟩
section
variable{T:Tbl}[CLaw43 T]{d:Option Nat}{st:St}{xs:List AV}{ps:List Opd}{e:Env}{h:Heap}{ol:List Heap}
theorem f495(xs:List AV)(hn:xs.length=4):callF T 495 xs=retF [.t 8] false (evX (orc T) T 0 b495 ⟨argEnv xs,[],1⟩):=zab CLaw43.h495 hn
@[simp] theorem x498:callX (orc T) T 498 xs d st=cP T 498 false xs d st:=zaa CLaw43.h498
theorem f498(xs:List AV)(hn:xs.length=0):callF T 498 xs=retF [.t 0] false (evX (orc T) T 0 b498 ⟨argEnv xs,[],1⟩):=zab CLaw43.h498 hn
@[simp] theorem x511:callX (orc T) T 511 xs d st=cP T 511 false xs d st:=zaa CLaw43.h511
theorem f511(xs:List AV)(hn:xs.length=1):callF T 511 xs=retF [.t 2] false (evX (orc T) T 0 b511 ⟨argEnv xs,[],1⟩):=zab CLaw43.h511 hn
end
class CRef02 (T:Tbl):Prop where
section
variable{T:Tbl}[CRef02 T]
def atW(a:List UInt32)(i:Nat):Nat:=(a[i]?.map UInt32.toNat).getD 0
end
section
variable{T:Tbl}[CRef02 T]
def stAdd2(a b:List UInt32)(n:Nat)(y:Nat×Nat×List UInt32):St:=
 ⟨[(0,.sl (u32s a) .an),(1,.sl (u32s b) .an),(5,.i .i64 n),(6,.bs (.loc 16) 1 1 0 n),(7,u64 y.2.1),(8,.i .i64 y.1)],[(.loc 16,⟨1,.own,1,u32s y.2.2⟩)],3⟩
def stSub2(a b:List UInt32)(n:Nat)(y:Nat×Nat×List UInt32):St:=
 ⟨[(0,.sl (u32s a) .an),(1,.sl (u32s b) .an),(5,.i .i64 n),(6,.bs (.loc 17) 1 1 0 n),(7,u64 y.2.1),(8,.i .i64 y.1)],[(.loc 17,⟨1,.own,1,u32s y.2.2⟩)],3⟩
end
class CRef04 (T:Tbl):Prop extends CRef02 T where
section
variable{T:Tbl}[CRef04 T]
def stIn4(P S a b:List UInt32)(y:Nat×Nat×List UInt32):St:=
 ⟨[(0,.sl (u32s a) .an),(1,.sl (u32s b) .an),(5,.bs (.loc 14) 1 1 0 (P.length+S.length)),(6,.i .i64 P.length),(7,u64 y.2.1),(8,.i .i64 y.1)],[(.loc 14,⟨1,.own,1,u32s (P++(y.2.2++S.drop y.1))⟩)],3⟩
end
section
variable{T:Tbl}[CRef04 T]
def stMul4(a b:List UInt32)(y:Nat×List UInt32):St:=
 ⟨[(0,.sl (u32s a) .an),(1,.sl (u32s b) .an),(5,.bs (.loc 14) 1 1 0 (a.length+b.length)),(6,.i .i64 y.1)],[(.loc 14,⟨1,.own,1,u32s (y.2++List.replicate (a.length-y.1) 0)⟩)],3⟩
end
class CRef05 (T:Tbl):Prop extends CRef04 T where
class CRef06 (T:Tbl):Prop where
section
variable{T:Tbl}[CRef05 T]
def stDb(a:List UInt32)(y:Nat×Nat×List UInt32):St:=
 ⟨[(0,.bs (.bor 0) 0 1 0 a.length),(4,u32 y.2.1),(5,.i .i64 y.1)],[(.bor 0,⟨0,.own,1,u32s (y.2.2++a.drop y.1)⟩)],4⟩
end
section
variable{T:Tbl}[CRef05 T]
def stLs(a b:List UInt32)(y:Nat×Nat×List UInt32):St:=
 ⟨[(0,.bs (.bor 0) 0 1 0 a.length),(1,.sl (u32s b) .an),(4,u64 y.2.1),(5,.i .i64 y.1)],[(.bor 0,⟨0,.own,1,u32s (y.2.2++a.drop y.1)⟩)],4⟩
def stHs(x i:Nat)(y:Nat):St:=⟨[(1,.i .i64 i),(5,u32 (x/2^y)),(6,.i .i64 y)],[],2⟩
end
section
variable{T:Tbl}[CRef05 T]
def stLn(a:List UInt32)(y:Nat):St:=⟨[(0,.sl (u32s a) .an),(3,.i .i64 y)],[],2⟩
end
section
variable{T:Tbl}[CRef05 T]
def stDv(a b:List UInt32)(y:Nat×List UInt32×List UInt32):St:=
 ⟨[(0,.sl (u32s a) .an),(1,.sl (u32s b) .an),(6,.bs (.loc 11) 1 1 0 a.length),(7,.bs (.loc 15) 2 1 0 (b.length+1)),(8,.i .i64 ((y.1:Int)-1))],[(.loc 11,⟨1,.own,1,u32s y.2.1⟩),(.loc 15,⟨2,.own,1,u32s y.2.2⟩)],4⟩
end
class CRef07 (T:Tbl):Prop extends CRef05 T where
section
variable{T:Tbl}[CRef07 T]
def stTen(N:Nat)(y:Nat×Nat×List UInt32)(P:List UInt32):St:=
 ⟨[(0,.bs (.bor 0) 0 1 0 N),(3,u64 y.2.1),(4,.i .i64 ((y.1:Int)-1))],[(.bor 0,⟨0,.own,1,u32s (P.take y.1++y.2.2)⟩)],4⟩
end
section
variable{T:Tbl}[CRef07 T]
def stTx(b:BId)(x:List UInt32)(s:List UInt8):St:=⟨[(3,.bs b 1 1 0 x.length),(4,.s s)],[(b,⟨1,.own,1,u32s x⟩)],3⟩
end
class CRef08 (T:Tbl):Prop extends CRef07 T where
def b247:AX:=
 (.seq
 (.reg [rg 2 (.xop (.box 3) [(.t 0)]),rg 4 (.mov (.c (.b false)))])
 (.seq
 (.reg [rg 5 (.fad 1 (.t 2)),rg 6 (.load none (.t 5)),rg 7 (.len (.t 6)),mv 8 1,rg 9 (.bin .gtr (.t 7) (.t 8)),mv 10 9,gd 11 10 false (.fad 2 (.t 2)),gd 12 10 false (.load none (.t 11)),gd 13 10 false (.len (.t 12)),gd 14 10 false (.mov (.t 1)),gd 15 10 false (.bin .gtr (.t 13) (.t 14)),rg 16 (.pick (.t 10) (.c (.b true)) (.t 15)),mv 4 16])
 (.pre (.norm false [4]) .ret)))
class CRef09 (T:Tbl):Prop where
 h247:T 247=some ⟨2,17,[.t 4],b247,none,false⟩
section
variable{T:Tbl}[CRef09 T]{d:Option Nat}{st:St}{xs:List AV}{ps:List Opd}{e:Env}{h:Heap}{ol:List Heap}
@[simp] theorem x247:callX (orc T) T 247 xs d st=cP T 247 false xs d st:=zaa CRef09.h247
theorem f247(xs:List AV)(hn:xs.length=2):callF T 247 xs=retF [.t 4] false (evX (orc T) T 0 b247 ⟨argEnv xs,[],1⟩):=zab CRef09.h247 hn
end
def l286_0:AX:=
 (.note
 (.seq
 (.seq
 (.reg [mv 8 7,mv 9 0,rg 10 (.len (.t 9)),rg 11 (.bin .lss (.t 8) (.t 10)),mv 12 11,gd 13 12 true (.mov (.t 7)),gd 14 12 true (.mov (.t 1)),gd 15 12 true (.bin .lss (.t 13) (.t 14)),rg 16 (.pick (.t 12) (.t 15) (.c (.b false)))])
 (.cond (.t 16)
 .skip
 (.exit 0)))
 (.seq
 (.block 1
 (.seq
 (.reg [mv 19 0,mv 20 7,rg 21 (.iad 3 (.t 19) (.t 20)),rg 22 (.load (some 3) (.t 21)),mv 23 2,rg 24 (.call 247 [(.t 22),(.t 23)])])
 (.cond (.t 24)
 (.seq
 (.reg [rg 6 (.mov (.c (.b true)))])
 (.pre (.norm false [6]) .ret))
 .skip)))
 (.reg [mv 17 7,rg 18 (.bin .add (.t 17) (.c (.i .i64 1))),mv 7 18])))
 (.norm false [0,1,2,7]))
def b286:AX:=
 (.seq
 (.reg [rg 6 (.mov (.c (.b false)))])
 (.seq
 (.seq
 (.reg [rg 7 (.mov (.c (.i .i64 0)))])
 (.lp 0 (.norm false [0,1,2,7]) l286_0 (.norm false [0,1])))
 (.seq
 (.reg [mv 25 0,rg 26 (.len (.t 25)),mv 27 1,rg 28 (.bin .gtr (.t 26) (.t 27)),mv 6 28])
 (.pre (.norm false [6]) .ret))))
class CRef11 (T:Tbl):Prop where
 h286:T 286=some ⟨3,29,[.t 6],b286,none,false⟩
section
variable{T:Tbl}[CRef11 T]{d:Option Nat}{st:St}{xs:List AV}{ps:List Opd}{e:Env}{h:Heap}{ol:List Heap}
@[simp] theorem x286:callX (orc T) T 286 xs d st=cP T 286 false xs d st:=zaa CRef11.h286
theorem f286(xs:List AV)(hn:xs.length=3):callF T 286 xs=retF [.t 6] false (evX (orc T) T 0 b286 ⟨argEnv xs,[],1⟩):=zab CRef11.h286 hn
end
class CRef12 (T:Tbl):Prop where
class CGrid (T:Tbl):Prop where
def b248:AX:=
 (.seq
 (.reg [rg 1 (.xop (.box 3) [(.t 0)]),rg 2 (.alloc [(.b false),(.sl [] .nl),(.sl [] .nl)])])
 (.seq
 (.reg [rg 3 (.fad 0 (.t 1)),rg 4 (.load none (.t 3)),rg 5 (.fad 1 (.t 1)),rg 6 (.load none (.t 5)),rg 7 (.build [(.b false),(.sl [] .nl)] [(0,1,(.t 4)),(1,1,(.t 6))]),rg 8 (.fad 2 (.t 1)),rg 9 (.load none (.t 8)),rg 10 (.build [(.b false),(.sl [] .nl),(.sl [] .nl)] [(0,2,(.t 7)),(2,1,(.t 9))]),so (.store 3 (.t 2) (.t 10))])
 (.pre (.norm false [2]) .ret)))
class CLaw09 (T:Tbl):Prop where
 h248:T 248=some ⟨1,11,[.cell 2 (some 3)],b248,none,false⟩
section
variable{T:Tbl}[CLaw09 T]{d:Option Nat}{st:St}{xs:List AV}{ps:List Opd}{e:Env}{h:Heap}{ol:List Heap}
@[simp] theorem x248:callX (orc T) T 248 xs d st=cP T 248 false xs d st:=zaa CLaw09.h248
@[simp] theorem y248:opD (orc T) T (.call 248 ps) e h ol=dP T 248 false ps e:=zal CLaw09.h248
theorem f248(xs:List AV)(hn:xs.length=1):callF T 248 xs=retF [.cell 2 (some 3)] false (evX (orc T) T 0 b248 ⟨argEnv xs,[],1⟩):=zab CLaw09.h248 hn
end
def l287_0:AX:=
 (.note
 (.seq
 (.seq
 (.reg [mv 5 4,mv 6 0,rg 7 (.len (.t 6)),rg 8 (.bin .lss (.t 5) (.t 7))])
 (.cond (.t 8)
 .skip
 (.exit 0)))
 (.seq
 (.block 1
 (.reg [mv 11 3,mv 12 0,mv 13 4,rg 14 (.iad 3 (.t 12) (.t 13)),rg 15 (.load (some 3) (.t 14)),rg 16 (.call 248 [(.t 15)]),rg 17 (.bsl 3 [(.b false),(.sl [] .nl),(.sl [] .nl)] 1 [(0,(.t 16))]),rg 18 (.app 3 (.t 11) (.t 17)),mv 3 18]))
 (.reg [mv 9 4,rg 10 (.bin .add (.t 9) (.c (.i .i64 1))),mv 4 10])))
 (.norm false [0,3,4]))
def b287:AX:=
 (.seq
 (.reg [rg 2 (.mov (.c (.sl [] .nl)))])
 (.seq
 (.note (.reg [rg 3 (.mov (.c (.sl [] .nl)))]) (.nil 3 3))
 (.seq
 (.seq
 (.reg [rg 4 (.mov (.c (.i .i64 0)))])
 (.lp 0 (.norm false [0,3,4]) l287_0 (.norm false [3])))
 (.seq
 (.reg [mv 19 3,mv 2 19])
 (.pre (.norm false [2]) .ret)))))
class CLaw11 (T:Tbl):Prop where
 h287:T 287=some ⟨1,20,[.t 2],b287,none,false⟩
section
variable{T:Tbl}[CLaw11 T]{d:Option Nat}{st:St}{xs:List AV}{ps:List Opd}{e:Env}{h:Heap}{ol:List Heap}
@[simp] theorem x287:callX (orc T) T 287 xs d st=cP T 287 false xs d st:=zaa CLaw11.h287
@[simp] theorem y287:opD (orc T) T (.call 287 ps) e h ol=dP T 287 false ps e:=zal CLaw11.h287
theorem f287(xs:List AV)(hn:xs.length=1):callF T 287 xs=retF [.t 2] false (evX (orc T) T 0 b287 ⟨argEnv xs,[],1⟩):=zab CLaw11.h287 hn
end
def l308_0:AX:=
 (.note
 (.seq
 (.seq
 (.reg [mv 5 4,mv 6 0,rg 7 (.len (.t 6)),rg 8 (.bin .lss (.t 5) (.t 7))])
 (.cond (.t 8)
 .skip
 (.exit 0)))
 (.seq
 (.block 1
 (.reg [mv 11 3,mv 12 0,mv 13 4,rg 14 (.iad 1 (.t 12) (.t 13)),rg 15 (.load none (.t 14)),rg 16 (.call 287 [(.t 15)]),rg 17 (.bsl 1 [(.sl [] .nl)] 1 [(0,(.t 16))]),rg 18 (.app 1 (.t 11) (.t 17)),mv 3 18]))
 (.reg [mv 9 4,rg 10 (.bin .add (.t 9) (.c (.i .i64 1))),mv 4 10])))
 (.norm false [0,3,4]))
def b308:AX:=
 (.seq
 (.reg [rg 2 (.mov (.c (.sl [] .nl)))])
 (.seq
 (.note (.reg [rg 3 (.mov (.c (.sl [] .nl)))]) (.nil 3 1))
 (.seq
 (.seq
 (.reg [rg 4 (.mov (.c (.i .i64 0)))])
 (.lp 0 (.norm false [0,3,4]) l308_0 (.norm false [3])))
 (.seq
 (.reg [mv 19 3,mv 2 19])
 (.pre (.norm false [2]) .ret)))))
class CLaw12 (T:Tbl):Prop where
 h308:T 308=some ⟨1,20,[.t 2],b308,none,false⟩
section
variable{T:Tbl}[CLaw12 T]{d:Option Nat}{st:St}{xs:List AV}{ps:List Opd}{e:Env}{h:Heap}{ol:List Heap}
@[simp] theorem y308:opD (orc T) T (.call 308 ps) e h ol=dP T 308 false ps e:=zal CLaw12.h308
theorem f308(xs:List AV)(hn:xs.length=1):callF T 308 xs=retF [.t 2] false (evX (orc T) T 0 b308 ⟨argEnv xs,[],1⟩):=zab CLaw12.h308 hn
end
def l379_0:AX:=
 (.note
 (.seq
 (.seq
 (.reg [mv 8 7,rg 9 (.fad 0 (.t 3)),rg 10 (.load none (.t 9)),rg 11 (.len (.t 10)),rg 12 (.bin .lss (.t 8) (.t 11)),mv 13 12,gd 14 13 true (.mov (.t 7)),gd 15 13 true (.mov (.t 1)),gd 16 13 true (.bin .lss (.t 14) (.t 15)),rg 17 (.pick (.t 13) (.t 16) (.c (.b false)))])
 (.cond (.t 17)
 .skip
 (.exit 0)))
 (.seq
 (.block 1
 (.seq
 (.reg [rg 20 (.fad 0 (.t 3)),rg 21 (.load none (.t 20)),mv 22 7,rg 23 (.iad 6 (.t 21) (.t 22)),rg 24 (.fad 3 (.t 23)),rg 25 (.load (some 3) (.t 24)),mv 26 2,rg 27 (.call 247 [(.t 25),(.t 26)])])
 (.cond (.t 27)
 (.seq
 (.reg [rg 6 (.mov (.c (.b true)))])
 (.pre (.norm false [6]) .ret))
 .skip)))
 (.reg [mv 18 7,rg 19 (.bin .add (.t 18) (.c (.i .i64 1))),mv 7 19])))
 (.norm false [1,2,3,7]))
def b379:AX:=
 (.seq
 (.reg [rg 3 (.xop (.box 4) [(.t 0)]),rg 6 (.mov (.c (.b false)))])
 (.seq
 (.seq
 (.reg [rg 7 (.mov (.c (.i .i64 0)))])
 (.lp 0 (.norm false [1,2,3,7]) l379_0 (.norm false [1,3])))
 (.seq
 (.reg [rg 28 (.fad 0 (.t 3)),rg 29 (.load none (.t 28)),rg 30 (.len (.t 29)),mv 31 1,rg 32 (.bin .gtr (.t 30) (.t 31)),mv 33 32,gd 34 33 false (.fad 1 (.t 3)),gd 35 33 false (.load none (.t 34)),gd 36 33 false (.len (.t 35)),gd 37 33 false (.mov (.t 1)),gd 38 33 false (.bin .gtr (.t 36) (.t 37)),rg 39 (.pick (.t 33) (.c (.b true)) (.t 38)),mv 6 39])
 (.pre (.norm false [6]) .ret))))
def l382_0:AX:=
 (.note
 (.seq
 (.seq
 (.reg [mv 15 4,rg 16 (.fad 0 (.t 1)),rg 17 (.load none (.t 16)),rg 18 (.len (.t 17)),rg 19 (.bin .lss (.t 15) (.t 18))])
 (.cond (.t 19)
 .skip
 (.exit 0)))
 (.seq
 (.block 1
 (.seq
 (.reg [rg 22 (.fad 0 (.t 1)),rg 23 (.load none (.t 22)),mv 24 4,rg 25 (.iad 6 (.t 23) (.t 24)),rg 26 (.load (some 6) (.t 25)),rg 5 (.alloc [(.i .i64 0),(.i .i64 0),(.i .i64 0),(.b false),(.sl [] .nl),(.sl [] .nl)]),so (.store 6 (.t 5) (.t 26))])
 (.drawT [rg 27 (.fad 0 (.t 3)),rg 28 (.load none (.t 27)),rg 29 (.fad 0 (.t 5)),rg 30 (.load none (.t 29)),rg 31 (.fad 1 (.t 5)),rg 32 (.load none (.t 31)),rg 33 (.fad 2 (.t 5)),rg 34 (.load none (.t 33)),rg 35 (.fad 3 (.t 5)),rg 36 (.load (some 3) (.t 35)),rg 37 (.call 248 [(.t 36)]),rg 38 (.build [(.i .i64 0),(.i .i64 0),(.i .i64 0),(.b false),(.sl [] .nl),(.sl [] .nl)] [(0,1,(.t 30)),(1,1,(.t 32)),(2,1,(.t 34)),(3,3,(.t 37))]),rg 39 (.bsl 6 [(.i .i64 0),(.i .i64 0),(.i .i64 0),(.b false),(.sl [] .nl),(.sl [] .nl)] 1 [(0,(.t 38))])]
 [rg 40 (.app 6 (.t 28) (.t 39)),rg 41 (.fad 0 (.t 3)),so (.store 1 (.t 41) (.t 40))])))
 (.reg [mv 20 4,rg 21 (.bin .add (.t 20) (.c (.i .i64 1))),mv 4 21])))
 (.norm false [1,2,3,4]))
def b382:AX:=
 (.seq
 (.reg [rg 1 (.xop (.box 4) [(.t 0)]),rg 2 (.alloc [(.sl [] .nl),(.sl [] .nl),(.i .i64 0),(.i .i64 0)])])
 (.seq
 (.drawM [rg 6 (.fad 2 (.t 1)),rg 7 (.load none (.t 6)),rg 8 (.fad 3 (.t 1)),rg 9 (.load none (.t 8)),rg 10 (.bsl 1 [(.i .i64 0)] 0 []),rg 11 (.fad 1 (.t 1)),rg 12 (.load none (.t 11)),rg 13 (.app 1 (.t 10) (.t 12)),rg 14 (.build [(.sl [] .nl),(.sl [] .nl),(.i .i64 0),(.i .i64 0)] [(2,1,(.t 7)),(3,1,(.t 9)),(1,1,(.t 13))]),rg 3 (.alloc [(.sl [] .nl),(.sl [] .nl),(.i .i64 0),(.i .i64 0)])]
 [so (.store 4 (.t 3) (.t 14))])
 (.seq
 (.seq
 (.reg [rg 4 (.mov (.c (.i .i64 0)))])
 (.pre (.fld 3 0 0 6) (.lp 0 (.norm false [1,2,3,4]) l382_0 (.norm false [2,3]))))
 (.seq
 (.reg [rg 42 (.load (some 4) (.t 3)),so (.store 4 (.t 2) (.t 42))])
 (.pre (.norm false [2]) .ret)))))
class CLaw24 (T:Tbl):Prop where
 h379:T 379=some ⟨3,40,[.t 6],b379,none,false⟩
 h382:T 382=some ⟨1,43,[.cell 2 (some 4)],b382,none,false⟩
section
variable{T:Tbl}[CLaw24 T]{d:Option Nat}{st:St}{xs:List AV}{ps:List Opd}{e:Env}{h:Heap}{ol:List Heap}
@[simp] theorem x379:callX (orc T) T 379 xs d st=cP T 379 false xs d st:=zaa CLaw24.h379
theorem f379(xs:List AV)(hn:xs.length=3):callF T 379 xs=retF [.t 6] false (evX (orc T) T 0 b379 ⟨argEnv xs,[],1⟩):=zab CLaw24.h379 hn
@[simp] theorem y382:opD (orc T) T (.call 382 ps) e h ol=dP T 382 false ps e:=zal CLaw24.h382
theorem f382(xs:List AV)(hn:xs.length=1):callF T 382 xs=retF [.cell 2 (some 4)] false (evX (orc T) T 0 b382 ⟨argEnv xs,[],1⟩):=zab CLaw24.h382 hn
end
section
open Go.RowKit
def opU:AOp→List Nat
 | .call u _=>[u]
 | .ifc k _=>[1000000+k]
 | .inv _ k u _ _=>[1000000+k,u]
 | .xop (.mkf k) _ | .xop (.mkv k) _=>[1000000+k]
 | _=>[]
def cXs:AX→List Nat
 | .reg l=>l.flatMap fun o=>opU o.op
 | .draw l=>l.flatMap fun o=>opU o.ao.op
 | .drawT hd tl=>(hd.flatMap fun o=>opU o.op)++tl.flatMap fun o=>opU o.op
 | .drawM hd tl=>(hd.flatMap fun o=>opU o.op)++tl.flatMap fun o=>opU o.op
 | .drawC l1 o l2 tl=>(l1.flatMap fun o=>opU o.op)++(opU o.op++((l2.flatMap fun o=>opU o.op)++tl.flatMap fun o=>opU o.op))
 | .drawN l1 o l2=>(l1.flatMap fun o=>opU o.ao.op)++(opU o.op++l2.flatMap fun o=>opU o.ao.op)
 | .drawR hd tl=>(hd.flatMap fun o=>opU o.op)++tl.flatMap fun o=>opU o.op
 | .drawP l1 o l2 _ _ _ _ _=>(l1.flatMap fun o=>opU o.ao.op)++(opU o.op++l2.flatMap fun o=>opU o.ao.op)
 | .seq a b=>cXs a++cXs b
 | .cond _ x y=>cXs x++cXs y
 | .block _ c | .loop c | .note c _ | .pre _ c | .scope c | .lp _ _ c _=>cXs c
 | .gsc _ c r=>cXs c++cXs r
 | _=>[]
structure Agr (R:Nat→Bool) (T T':Tbl) (O O':Orc):Prop where
 tbl:∀u,R u=true→T u=T' u
 call:∀u xs hb,R u=true→O.call u xs hb=O'.call u xs hb
 loop:∀k c st,(∀u∈cXs c,R u=true)→O.loop k c st=O'.loop k c st
section
variable{R:Nat→Bool}{T T':Tbl}{O O':Orc}
theorem zhu(h:Agr R T T' O O'){u:Nat}(hu:R u=true){xs:List AV}{d:Option Nat}{st:St}:callX O T u xs d st=callX O' T' u xs d st:=by
 unfold callX
 rw[h.tbl u hu]
 simp only[h.call u _ _ hu]
theorem z1q(h:Agr R T T' O O'){op:AOp}(hu:∀u∈opU op,R u=true){d:Option Nat}{st:St}:opX O T op d st=opX O' T' op d st:=by
 cases op<;>simp only[opX]
 case call u args=>exact zhu h (hu _ (by simp[opU]))
 case ifc k x=>unfold tyNum;rw[h.tbl _ (hu _ (by simp[opU]))]
 case inv nm k u r args=>
  have e1:tyNum T k=tyNum T' k:=by unfold tyNum;rw[h.tbl _ (hu _ (by simp[opU]))]
  have e2:methsT T k=methsT T' k:=by unfold methsT;rw[h.tbl _ (hu _ (by simp[opU]))]
  have e3:funT T k=funT T' k:=by unfold funT;rw[h.tbl _ (hu _ (by simp[opU]))]
  grind[zhu,opU]
 case xop k xs=>
  cases k<;>simp only
  all_goals rename_i k
  all_goals
   have e1:tyNum T k=tyNum T' k:=by unfold tyNum;rw[h.tbl _ (hu _ (by simp[opU]))]
   rw[e1]
theorem ztz(h:Agr R T T' O O'){o:AO}(hu:∀u∈opU o.op,R u=true){st:St}:stepX O T o st=stepX O' T' o st:=by
 unfold stepX gX
 simp only[z1q h hu]
theorem zen(h:Agr R T T' O O'):∀(l:List AO),(∀o∈l,∀u∈opU o.op,R u=true)→∀st,runX O T l st=runX O' T' l st
 | [],_,st=>rfl
 | o::l,hu,st=>by
  simp only[runX]
  rw[ztz h (hu o List.mem_cons_self)]
  congr 1
  funext s
  exact zen h l (fun o ho=>hu o (List.mem_cons_of_mem _ ho)) s
theorem z1r(h:Agr R T T' O O'){op:AOp}(hu:∀u∈opU op,R u=true){e:Env}{hp:Heap}{older:List Heap}:opD O T op e hp older=opD O' T' op e hp older:=by
 by_cases hap:∃z x0 y,op=.app z x0 y
 ·obtain⟨z,x0,y,rfl⟩:=hap
  by_cases hc:x0=.c (.sl [] .nl)
  ·subst hc;rfl
  ·rw[zn8 hc,zn8 hc]
 cases op<;>(try exact absurd ⟨_,_,_,rfl⟩ hap)<;>simp only[opD]
 case call u args=>
  rw[h.tbl _ (hu _ (by simp[opU]))]
  simp only[h.call _ _ _ (hu _ (show u∈_ by simp[opU]))]
 case ifc k x=>unfold tyNum;rw[h.tbl _ (hu _ (by simp[opU]))]
 case inv nm k u r args=>
  have e1:tyNum T k=tyNum T' k:=by unfold tyNum;rw[h.tbl _ (hu _ (by simp[opU]))]
  have e2:methsT T k=methsT T' k:=by unfold methsT;rw[h.tbl _ (hu _ (by simp[opU]))]
  rw[e1,e2,h.tbl u (hu u (by simp[opU]))]
  simp only[h.call u _ _ (hu u (by simp[opU]))]
theorem zhv(h:Agr R T T' O O'){o:AO}(hu:∀u∈opU o.op,R u=true){e:Env}{hp:Heap}{older:List Heap}:qX O T o e hp older=qX O' T' o e hp older:=by
 unfold qX
 simp only[z1r h hu]
theorem zl9(h:Agr R T T' O O'){u:Nat}(hu:R u=true){ys:List AV}:callR O T u ys=callR O' T' u ys:=by
 unfold callR
 rw[h.tbl u hu]
 simp only[h.call u _ _ hu]
theorem zhw(h:Agr R T T' O O'):∀(l:List DO),(∀o∈l,∀u∈opU o.ao.op,R u=true)→∀e hp clk older pend,drawX O T l e hp clk older pend=drawX O' T' l e hp clk older pend
 | [],_,e,hp,clk,older,pend=>rfl
 | o::l,hu,e,hp,clk,older,pend=>by
  have ih:=zhw h l (fun o ho=>hu o (List.mem_cons_of_mem _ ho))
  simp only[drawX]
  rw[zhv h (hu o List.mem_cons_self)]
  simp only[ih]
  cases o.ao.op.writes with
  | true=>rfl
  | false=>
   cases hrow:rowQ o.ao.guard o.ao.op.callN e hp (older.take (older.length-o.lo)) with
   | none=>rfl
   | some p=>
    obtain⟨_,args,hop,_⟩:=zfk hrow
    have hp:R p.1=true:=hu o List.mem_cons_self _ (by rw[hop];simp[opU])
    simp only[zl9 h hp]
theorem zma(h:Agr R T T' O O')(tl:List AO)(ht:∀o∈tl,∀u∈opU o.op,R u=true):∀(l:List AO),(∀o∈l,∀u∈opU o.op,R u=true)→∀e hp clk,headR O T tl l e hp clk=headR O' T' tl l e hp clk
 | [],_,e,hp,clk=>zen h tl ht _
 | o::l,hu,e,hp,clk=>by
  have ih:=zma h tl ht l (fun o ho=>hu o (List.mem_cons_of_mem _ ho))
  simp only[headR]
  rw[zhv h (hu o List.mem_cons_self)]
  simp only[ih]
  cases hrow:rowQ o.guard o.op.callN e hp []with
  | none=>rfl
  | some p=>
   obtain⟨_,args,hop,_⟩:=zfk hrow
   have hp:R p.1=true:=hu o List.mem_cons_self _ (by rw[hop];simp[opU])
   simp only[zl9 h hp]
theorem zmb(h:Agr R T T' O O')(tl:List AO)(ht:∀o∈tl,∀u∈opU o.op,R u=true):∀(l:List AO),(∀o∈l,∀u∈opU o.op,R u=true)→∀e hp clk,headX O T tl l e hp clk=headX O' T' tl l e hp clk
 | [],_,e,hp,clk=>zen h tl ht _
 | o::l,hu,e,hp,clk=>by
  have ih:=zmb h tl ht l (fun o ho=>hu o (List.mem_cons_of_mem _ ho))
  simp only[headX]
  rw[zhv h (hu o List.mem_cons_self)]
  simp only[ih]
theorem zt0(h:Agr R T T' O O'){u:Nat}(hu:R u=true){xs:List AV}{d clk:Nat}:callM O T u xs d clk=callM O' T' u xs d clk:=by
 unfold callM
 rw[h.tbl u hu]
 simp only[h.call u _ _ hu]
theorem zmc(h:Agr R T T' O O')(tl:List AO)(ht:∀o∈tl,∀u∈opU o.op,R u=true)(h0:Heap)(c0:Nat)(X:Heap):∀(l:List AO),(∀o∈l,∀u∈opU o.op,R u=true)→∀e hp clk,headM O T tl h0 c0 X l e hp clk=headM O' T' tl h0 c0 X l e hp clk
 | [],_,e,hp,clk=>zen h tl ht _
 | o::l,hu,e,hp,clk=>by
  have ih:=zmc h tl ht h0 c0 X l (fun o ho=>hu o (List.mem_cons_of_mem _ ho))
  simp only[headM]
  rw[zhv h (hu o List.mem_cons_self)]
  simp only[ih]
  cases hm:o.op.maker with
  | true=>rfl
  | false=>
   cases hst:o.op.isStore with
   | true=>rfl
   | false=>
   cases hl:o.op.lentN with
   | none=>rfl
   | some ua=>
    have hua:R ua.1=true:=hu o List.mem_cons_self _ (by rw[zjp hl];simp[opU])
    simp only[zt0 h hua]
theorem zgv(h:Agr R T T' O O'){K K':Env→PendX→Option St}(hK:∀e pend,K e pend=K' e pend)(hp:Heap):∀(l:List DO),(∀o∈l,∀u∈opU o.ao.op,R u=true)→∀e pend,preC O T K hp l e pend=preC O' T' K' hp l e pend
 | [],_,e,pend=>hK e pend
 | o::l,hu,e,pend=>by
  have ih:=zgv h hK hp l (fun o ho=>hu o (List.mem_cons_of_mem _ ho))
  simp only[preC]
  rw[zhv h (hu o List.mem_cons_self)]
  simp only[ih]
theorem zmd(h:Agr R T T' O O'){K K':Env→Option St}(hK:∀e,K e=K' e)(h0 h1:Heap):∀(l:List AO),(∀o∈l,∀u∈opU o.op,R u=true)→∀e,postC O T K h0 h1 l e=postC O' T' K' h0 h1 l e
 | [],_,e=>hK e
 | o::l,hu,e=>by
  have ih:=zmd h hK h0 h1 l (fun o ho=>hu o (List.mem_cons_of_mem _ ho))
  simp only[postC]
  rw[zhv h (hu o List.mem_cons_self)]
  simp only[ih]
theorem zhx(h:Agr R T T' O O'){o:AO}(hu:∀u∈opU o.op,R u=true){st:St}:callC O T o st=callC O' T' o st:=by
 obtain⟨d,g,op⟩:=o
 cases op
 case call u args=>
  cases g<;>cases d<;>simp only[callC]
  exact zhu h (hu u (by simp[opU]))
 all_goals cases g<;>cases d<;>rfl
theorem zt1(h:Agr R T T' O O')(l1:List AO)(o:AO)(l2 tl:List AO)(hu:∀u∈cXs (.drawC l1 o l2 tl),R u=true)(st:St):headC O T l1 o l2 tl st=headC O' T' l1 o l2 tl st:=by
 have u1:∀o∈l1,∀u∈opU o.op,R u=true:=fun o ho u hou=>hu u (List.mem_append_left _ (List.mem_flatMap.2 ⟨o,ho,hou⟩))
 have u2:∀u∈opU o.op,R u=true:=fun u hou=>hu u (List.mem_append_right _ (List.mem_append_left _ hou))
 have u3:∀o∈l2,∀u∈opU o.op,R u=true:=fun o ho u hou=>hu u (List.mem_append_right _ (List.mem_append_right _ (List.mem_append_left _ (List.mem_flatMap.2 ⟨o,ho,hou⟩))))
 have u4:∀o∈tl,∀u∈opU o.op,R u=true:=fun o ho u hou=>hu u (List.mem_append_right _ (List.mem_append_right _ (List.mem_append_right _ (List.mem_flatMap.2 ⟨o,ho,hou⟩))))
 unfold headC
 refine zgv h (fun e pend=>?_) _ _ (fun o ho=>?_) _ _
 ·rw[zhx h u2]
  congr 1
  funext s
  rw[zmd h (fun e=>zen h tl u4 _) _ _ l2 u3]
 ·obtain⟨o',ho',rfl⟩:=List.mem_map.1 ho
  exact u1 o' ho'
theorem zt2(h:Agr R T T' O O')(l1:List DO)(o:AO)(l2:List DO)(hu:∀u∈cXs (.drawN l1 o l2),R u=true)(st:St):headN O T l1 o l2 st=headN O' T' l1 o l2 st:=by
 have u1:∀o∈l1,∀u∈opU o.ao.op,R u=true:=fun o ho u hou=>hu u (List.mem_append_left _ (List.mem_flatMap.2 ⟨o,ho,hou⟩))
 have u2:∀u∈opU o.op,R u=true:=fun u hou=>hu u (List.mem_append_right _ (List.mem_append_left _ hou))
 have u3:∀o∈l2,∀u∈opU o.ao.op,R u=true:=fun o ho u hou=>hu u (List.mem_append_right _ (List.mem_append_right _ (List.mem_flatMap.2 ⟨o,ho,hou⟩)))
 unfold headN
 congr 1
 refine zgv h (fun e pend=>?_) _ _ (fun o ho=>?_) _ _
 ·rw[zhx h u2]
  congr 1
  funext s
  rw[zhw h _ fun o ho=>?_]
  obtain⟨o',ho',rfl⟩:=List.mem_map.1 ho
  exact u3 o' ho'
 ·obtain⟨o',ho',rfl⟩:=List.mem_map.1 ho
  exact u1 o' ho'
theorem zme(h:Agr R T T' O O'){K K':Env→Option St}(hK:∀e,K e=K' e)(hs:List Heap)(h1:Heap):∀(l:List AO),(∀o∈l,∀u∈opU o.op,R u=true)→∀e,postP O T K hs h1 l e=postP O' T' K' hs h1 l e
 | [],_,e=>hK e
 | o::l,hu,e=>by
  have ih:=zme h hK hs h1 l (fun o ho=>hu o (List.mem_cons_of_mem _ ho))
  simp only[postP]
  rw[zhv h (hu o List.mem_cons_self)]
  simp only[ih]
theorem zt3(h:Agr R T T' O O')(l1:List DO)(o:AO)(l2:List DO)(da:Nat)(cs:List AV)(n:Nat)(xs vs:Opd)(hu:∀u∈cXs (.drawP l1 o l2 da cs n xs vs),R u=true)(st:St):headP O T l1 o l2 da cs n xs vs st=headP O' T' l1 o l2 da cs n xs vs st:=by
 have u1:∀o∈l1,∀u∈opU o.ao.op,R u=true:=fun o ho u hou=>hu u (List.mem_append_left _ (List.mem_flatMap.2 ⟨o,ho,hou⟩))
 have u2:∀u∈opU o.op,R u=true:=fun u hou=>hu u (List.mem_append_right _ (List.mem_append_left _ hou))
 have u3:∀o∈l2,∀u∈opU o.ao.op,R u=true:=fun o ho u hou=>hu u (List.mem_append_right _ (List.mem_append_right _ (List.mem_flatMap.2 ⟨o,ho,hou⟩)))
 unfold headP
 congr 1
 refine zgv h (fun e pend=>?_) _ _ (fun o ho=>?_) _ _
 ·simp only[zhx h u2]
  congr 1
  funext s1
  congr 1
  funext s2
  rw[zme h (fun e=>rfl) _ _ _ fun o ho=>?_]
  obtain⟨o',ho',rfl⟩:=List.mem_map.1 ho
  exact u3 o' ho'
 ·obtain⟨o',ho',rfl⟩:=List.mem_map.1 ho
  exact u1 o' ho'
theorem zce(h:Agr R T T' O O')(k:Nat):∀(c:AX),(∀u∈cXs c,R u=true)→∀st,evX O T k c st=evX O' T' k c st
 | .skip,_,st=>rfl
 | .reg l,hu,st=>by
  simp only[evX]
  rw[zen h l fun o ho u hou=>hu u (List.mem_flatMap.2 ⟨o,ho,hou⟩)]
 | .draw l,hu,st=>by
  simp only[evX]
  rw[zhw h l fun o ho u hou=>hu u (List.mem_flatMap.2 ⟨o,ho,hou⟩)]
 | .drawT hd tl,hu,st=>by
  simp only[evX]
  rw[zmb h tl (fun o ho u hou=>hu u (List.mem_append_right _ (List.mem_flatMap.2 ⟨o,ho,hou⟩))) hd (fun o ho u hou=>hu u (List.mem_append_left _ (List.mem_flatMap.2 ⟨o,ho,hou⟩)))]
 | .drawM hd tl,hu,st=>by
  simp only[evX]
  rw[zmc h tl (fun o ho u hou=>hu u (List.mem_append_right _ (List.mem_flatMap.2 ⟨o,ho,hou⟩))) _ _ _ hd (fun o ho u hou=>hu u (List.mem_append_left _ (List.mem_flatMap.2 ⟨o,ho,hou⟩)))]
 | .drawC l1 o l2 tl,hu,st=>by
  simp only[evX]
  rw[zt1 h l1 o l2 tl hu]
 | .drawN l1 o l2,hu,st=>by
  simp only[evX]
  rw[zt2 h l1 o l2 hu]
 | .drawR hd tl,hu,st=>by
  simp only[evX]
  rw[zma h tl (fun o ho u hou=>hu u (List.mem_append_right _ (List.mem_flatMap.2 ⟨o,ho,hou⟩))) hd (fun o ho u hou=>hu u (List.mem_append_left _ (List.mem_flatMap.2 ⟨o,ho,hou⟩)))]
 | .drawP l1 o l2 da cs n xs vs,hu,st=>by
  simp only[evX]
  rw[zt3 h l1 o l2 da cs n xs vs hu]
 | .bad,_,st=>rfl
 | .prim f,_,st=>rfl
 | .seq a b,hu,st=>by
  simp only[evX]
  rw[zce h k a fun u hm=>hu u (List.mem_append_left _ hm)]
  congr 1
  funext r
  rw[zce h k b fun u hm=>hu u (List.mem_append_right _ hm)]
 | .cond c x y,hu,st=>by
  simp only[evX]
  rw[zce h k x fun u hm=>hu u (List.mem_append_left _ hm),zce h k y fun u hm=>hu u (List.mem_append_right _ hm)]
 | .block id c,hu,st=>by
  simp only[evX]
  rw[zce h k c hu]
 | .loop c,hu,st=>h.loop k c st hu
 | .exit id,_,st=>rfl
 | .ret,_,st=>rfl
 | .note c g,hu,st=>by
  simp only[evX]
  rw[zce h k c hu]
 | .pre g c,hu,st=>by
  simp only[evX]
  congr 1
  funext s
  exact zce h k c hu s
 | .scope c,hu,st=>by
  simp only[evX]
  rw[zce h k c hu]
 | .label _,_,st=>rfl
 | .goto _,_,st=>rfl
 | .gsc l c r,hu,st=>by
  simp only[evX]
  rw[zce h k c fun u hm=>hu u (List.mem_append_left _ hm)]
  congr 1
  funext s
  exact zce h k r (fun u hm=>hu u (List.mem_append_right _ hm)) s
 | .lp id g c g2,hu,st=>by
  simp only[evX,h.loop k c _ hu]
theorem zt4(hc:∀u af,R u=true→T u=some af→∀v∈cXs af.body,R v=true)(h:Agr R T T' O O'):Agr R T T' (nextO T O) (nextO T' O') where
 tbl:=h.tbl
 call u xs hb hu:=by
  simp only[nextO]
  rw[←h.tbl u hu]
  cases ht:T u with
  | none=>rfl
  | some af=>
   grind[zce]
 loop k c st hu:=by
  simp only[nextO]
  rw[zce h k c hu]
  congr 1
  funext r
  rw[h.loop k c _ hu]
theorem zkm(ht:∀u,R u=true→T u=T' u)(hc:∀u af,R u=true→T u=some af→∀v∈cXs af.body,R v=true):∀n,Agr R T T' (orcN T n) (orcN T' n)
 | 0=>⟨ht,fun _ _ _ _=>rfl,fun _ _ _ _=>rfl⟩
 | n+1=>zt4 hc (zkm ht hc n)
theorem z1s(ht:∀u,R u=true→T u=T' u)(hc:∀u af,R u=true→T u=some af→∀v∈cXs af.body,R v=true):Agr R T T' (orc T) (orc T'):=by
 refine⟨ht,fun u xs hb hu=>?_,fun k c st hu=>?_⟩
 ·simp only[orc]
  congr 1
  funext n
  exact(zkm ht hc n).call u xs hb hu
 ·simp only[orc]
  congr 1
  funext n
  exact(zkm ht hc n).loop k c st hu
end
theorem zdu{l:List (Nat×AFx)}{u:Nat}{af:AFx}(h:l.lookup u=some af):(u,af)∈l:=by
 induction l with
 | nil=>cases h
 | cons q l ih=>
  grind
structure Part (l l':List (Nat×AFx)):Prop where
 sub:∀p∈l',l.lookup p.1=some p.2
 clo:(l'.all fun p=>(cXs p.2.body).all fun v=>(l'.lookup v).isSome || (l.lookup v).isNone)=true
theorem Part.agr{l l':List (Nat×AFx)}(h:Part l l'):Agr (fun u=>(l'.lookup u).isSome || (l.lookup u).isNone) (fun u=>l.lookup u) (fun u=>l'.lookup u) (orc fun u=>l.lookup u) (orc fun u=>l'.lookup u):=by
 refine z1s (fun v hv=>?_) (fun v a hv hva w hw=>?_)
 ·cases hv2:l'.lookup v with
  | none=>
   cases hv3:l.lookup v with
   | none=>rfl
   | some a=>grind
  | some a=>exact h.sub _ (zdu hv2)
 ·cases hv2:l'.lookup v with
  | none=>grind
  | some b=>
   have hb:=zdu hv2
   have h1:=h.sub _ hb
   rw[hva]at h1
   cases h1
   exact List.all_eq_true.1 (List.all_eq_true.1 h.clo _ hb) w hw
theorem Part.ev{l l':List (Nat×AFx)}(h:Part l l'){c:AX}(hc:((cXs c).all fun v=>(l'.lookup v).isSome)=true){st:St}{r:Option (Ex×St)}
  (he:evX (orc fun u=>l.lookup u) (fun u=>l.lookup u) 0 c st=r):evX (orc fun u=>l'.lookup u) (fun u=>l'.lookup u) 0 c st=r:=by
 rw[←zce h.agr 0 c (fun v hv=>by grind) st]
 omega
theorem Part.call{l l':List (Nat×AFx)}(h:Part l l'){u:Nat}(hu:(l'.lookup u).isSome=true){xs:List AV}{r:Option AV}(he:callF (fun u=>l.lookup u) u xs=r):callF (fun u=>l'.lookup u) u xs=r:=by
 rw[←he]
 unfold callF
 rw[h.agr.call u xs [] (by grind)]
end
end Go.Ab