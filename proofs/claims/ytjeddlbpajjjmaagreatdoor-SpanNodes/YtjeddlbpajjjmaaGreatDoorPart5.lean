/-
  A calculus of values, boxes and code, and what functions of the program compute, proved in it.
  Conditions: none beyond those that the theorems state. (Part 5.)
-/
import Derived.Test.YtjeddlbpajjjmaaGreatDoorPart4

set_option linter.unusedSectionVars false
set_option linter.unusedVariables false
set_option linter.unusedSimpArgs false
set_option linter.unnecessarySimpa false

namespace Go.Ab
def l513_0:AX:=
 (.note
 (.seq
 (.reg [rg 12 (.bin .lss (.t 11) (.t 10))])
 (.seq
 (.cond (.t 12)
 .skip
 (.exit 0))
 (.seq
 (.block 1
 (.seq
 (.reg [rg 13 (.iad 14 (.t 9) (.t 11)),rg 14 (.load (some 14) (.t 13)),rg 7 (.alloc [(.b false),(.sl [] .nl),(.sl [] .nl),(.b false),(.sl [] .nl),(.sl [] .nl),(.b false),(.sl [] .nl),(.sl [] .nl),(.b false),(.sl [] .nl),(.sl [] .nl),(.sl [] .nl),(.b false)]),so (.store 14 (.t 7) (.t 14))])
 (.seq
 (.reg [mv 15 4,rg 16 (.fad 0 (.t 7)),rg 17 (.load (some 3) (.t 16)),rg 18 (.bsl 3 [(.b false),(.sl [] .nl),(.sl [] .nl)] 1 [(0,(.t 17))]),rg 19 (.app 3 (.t 15) (.t 18)),mv 4 19])
 (.reg [mv 20 5,rg 21 (.fad 12 (.t 7)),rg 22 (.load none (.t 21)),rg 23 (.bsl 1 [(.sl [] .nl)] 1 [(0,(.t 22))]),rg 24 (.app 1 (.t 20) (.t 23)),mv 5 24]))))
 (.reg [rg 25 (.bin .add (.t 11) (.c (.i .i64 1))),mv 11 25]))))
 (.norm false [1,4,5,9,10,11]))
def b513:AX:=
 (.seq
 (.reg [rg 1 (.xop (.box 5) [(.t 0)]),rg 2 (.mov (.c (.sl [] .nl))),rg 3 (.mov (.c (.sl [] .nl)))])
 (.seq
 (.note (.reg [rg 4 (.mov (.c (.sl [] .nl)))]) (.nil 4 3))
 (.seq
 (.note (.reg [rg 5 (.mov (.c (.sl [] .nl)))]) (.nil 5 1))
 (.seq
 (.seq
 (.reg [rg 8 (.load (some 5) (.t 1)),rg 9 (.call 532 [(.t 8)]),rg 10 (.len (.t 9)),rg 11 (.mov (.c (.i .i64 0)))])
 (.lp 0 (.norm false [1,4,5,9,10,11]) l513_0 (.norm false [1,4,5])))
 (.seq
 (.drawM [mv 26 4,rg 27 (.fad 1 (.t 1)),rg 28 (.load (some 3) (.t 27)),rg 29 (.call 207 [(.t 28)]),rg 30 (.bsl 3 [(.b false),(.sl [] .nl),(.sl [] .nl)] 1 [(0,(.t 29))]),rg 31 (.app 3 (.t 26) (.t 30)),mv 32 5,rg 33 (.fad 4 (.t 1)),rg 34 (.load none (.t 33)),rg 35 (.call 533 [(.t 34)]),rg 36 (.bsl 1 [(.sl [] .nl)] 1 [(0,(.t 35))])]
 [rg 37 (.app 1 (.t 32) (.t 36)),mv 2 31,mv 3 37])
 (.pre (.norm false [2,3]) .ret))))))
def l532_0:AX:=
 (.note
 (.seq
 (.reg [rg 11 (.bin .lss (.t 10) (.t 9))])
 (.seq
 (.cond (.t 11)
 .skip
 (.exit 0))
 (.seq
 (.block 1
 (.seq
 (.reg [rg 12 (.iad 14 (.t 8) (.t 10)),rg 13 (.load (some 14) (.t 12)),rg 5 (.alloc [(.b false),(.sl [] .nl),(.sl [] .nl),(.b false),(.sl [] .nl),(.sl [] .nl),(.b false),(.sl [] .nl),(.sl [] .nl),(.b false),(.sl [] .nl),(.sl [] .nl),(.sl [] .nl),(.b false)]),so (.store 14 (.t 5) (.t 13))])
 (.seq
 (.reg [rg 14 (.fad 13 (.t 5)),rg 15 (.load none (.t 14))])
 (.cond (.t 15)
 (.seq
 (.reg [rg 16 (.load (some 14) (.t 5)),rg 17 (.call 549 [(.t 16)]),rg 18 (.call 533 [(.t 17)]),mv 6 18])
 (.drawT [mv 19 3,mv 20 6,rg 21 (.iad 3 (.t 20) (.c (.i .i64 0))),rg 22 (.load (some 3) (.t 21)),mv 23 6,rg 24 (.iad 3 (.t 23) (.c (.i .i64 1))),rg 25 (.load (some 3) (.t 24)),mv 26 6,rg 27 (.iad 3 (.t 26) (.c (.i .i64 2))),rg 28 (.load (some 3) (.t 27)),mv 29 6,rg 30 (.iad 3 (.t 29) (.c (.i .i64 3))),rg 31 (.load (some 3) (.t 30)),rg 32 (.fad 12 (.t 5)),rg 33 (.load none (.t 32)),rg 34 (.call 533 [(.t 33)]),rg 35 (.build [(.b false),(.sl [] .nl),(.sl [] .nl),(.b false),(.sl [] .nl),(.sl [] .nl),(.b false),(.sl [] .nl),(.sl [] .nl),(.b false),(.sl [] .nl),(.sl [] .nl),(.sl [] .nl),(.b false)] [(0,3,(.t 22)),(3,3,(.t 25)),(6,3,(.t 28)),(9,3,(.t 31)),(12,1,(.t 34)),(13,1,(.c (.b true)))]),rg 36 (.bsl 14 [(.b false),(.sl [] .nl),(.sl [] .nl),(.b false),(.sl [] .nl),(.sl [] .nl),(.b false),(.sl [] .nl),(.sl [] .nl),(.b false),(.sl [] .nl),(.sl [] .nl),(.sl [] .nl),(.b false)] 1 [(0,(.t 35))])]
 [rg 37 (.app 14 (.t 19) (.t 36)),mv 3 37]))
 .skip))))
 (.reg [rg 38 (.bin .add (.t 10) (.c (.i .i64 1))),mv 10 38]))))
 (.norm false [3,8,9,10]))
def b532:AX:=
 (.seq
 (.reg [rg 1 (.xop (.box 5) [(.t 0)]),rg 2 (.mov (.c (.sl [] .nl)))])
 (.seq
 (.note (.reg [rg 3 (.mov (.c (.sl [] .nl)))]) (.nil 3 14))
 (.seq
 (.seq
 (.reg [rg 7 (.fad 0 (.t 1)),rg 8 (.load none (.t 7)),rg 9 (.len (.t 8)),rg 10 (.mov (.c (.i .i64 0)))])
 (.lp 0 (.norm false [3,8,9,10]) l532_0 (.norm false [3])))
 (.seq
 (.reg [mv 39 3,mv 2 39])
 (.pre (.norm false [2]) .ret)))))
def b533:AX:=
 (.seq
 (.reg [rg 2 (.mov (.c (.sl [] .nl)))])
 (.seq
 (.reg [rg 3 (.call 205 [(.c (.i .i64 1))]),mv 4 0,rg 5 (.call 269 [(.t 3),(.t 4)]),mv 2 5])
 (.pre (.norm false [2]) .ret)))
def b549:AX:=
 (.seq
 (.reg [rg 1 (.xop (.box 14) [(.t 0)]),rg 2 (.mov (.c (.sl [] .nl)))])
 (.seq
 (.reg [rg 3 (.fad 0 (.t 1)),rg 4 (.load (some 3) (.t 3)),rg 5 (.fad 3 (.t 1)),rg 6 (.load (some 3) (.t 5)),rg 7 (.fad 6 (.t 1)),rg 8 (.load (some 3) (.t 7)),rg 9 (.fad 9 (.t 1)),rg 10 (.load (some 3) (.t 9)),rg 11 (.bsl 3 [(.b false),(.sl [] .nl),(.sl [] .nl)] 4 [(0,(.t 4)),(1,(.t 6)),(2,(.t 8)),(3,(.t 10))]),mv 2 11])
 (.pre (.norm false [2]) .ret)))
def b576:AX:=
 (.seq
 (.reg [rg 1 (.xop (.box 5) [(.t 0)]),rg 2 (.mov (.c (.b false)))])
 (.seq
 (.reg [rg 3 (.load (some 5) (.t 1)),rg 4 (.call 579 [(.t 3)]),rg 5 (.bin .eql (.t 4) (.c (.i .i64 0))),mv 2 5])
 (.pre (.norm false [2]) .ret)))
def b579:AX:=
 (.seq
 (.reg [rg 1 (.xop (.box 5) [(.t 0)]),rg 2 (.mov (.c (.i .i64 0)))])
 (.seq
 (.block 0
 (.seq
 (.reg [rg 4 (.load (some 5) (.t 1)),rg 5 (.call 580 [(.t 4)]),rg 6 (.un .not (.t 5)),mv 3 6])
 (.cond (.t 3)
 (.seq
 (.reg [rg 2 (.mov (.c (.i .i64 1)))])
 (.pre (.norm false [2]) .ret))
 (.seq
 (.reg [rg 8 (.load (some 5) (.t 1)),rg 9 (.call 581 [(.t 8)]),rg 10 (.un .not (.t 9)),mv 7 10])
 (.cond (.t 7)
 (.seq
 (.reg [rg 2 (.mov (.c (.i .i64 2)))])
 (.pre (.norm false [2]) .ret))
 (.seq
 (.reg [rg 12 (.fad 0 (.t 1)),rg 13 (.load none (.t 12)),rg 14 (.len (.t 13)),rg 15 (.bin .gtr (.t 14) (.c (.i .i64 200))),mv 11 15])
 (.cond (.t 11)
 (.seq
 (.reg [rg 2 (.mov (.c (.i .i64 3)))])
 (.pre (.norm false [2]) .ret))
 (.seq
 (.reg [rg 17 (.load (some 5) (.t 1)),rg 18 (.call 582 [(.t 17)]),rg 19 (.un .not (.t 18)),mv 16 19])
 (.cond (.t 16)
 (.seq
 (.reg [rg 2 (.mov (.c (.i .i64 4)))])
 (.pre (.norm false [2]) .ret))
 (.seq
 (.reg [rg 21 (.load (some 5) (.t 1)),rg 22 (.call 583 [(.t 21)]),rg 23 (.un .not (.t 22)),mv 20 23])
 (.cond (.t 20)
 (.seq
 (.reg [rg 2 (.mov (.c (.i .i64 5)))])
 (.pre (.norm false [2]) .ret))
 .skip)))))))))))
 (.seq
 (.reg [rg 2 (.mov (.c (.i .i64 0)))])
 (.pre (.norm false [2]) .ret))))
def l580_0:AX:=
 (.note
 (.seq
 (.reg [rg 9 (.bin .lss (.t 8) (.t 7))])
 (.seq
 (.cond (.t 9)
 .skip
 (.exit 0))
 (.seq
 (.block 1
 (.seq
 (.reg [rg 10 (.iad 14 (.t 6) (.t 8)),rg 11 (.load (some 14) (.t 10)),rg 4 (.alloc [(.b false),(.sl [] .nl),(.sl [] .nl),(.b false),(.sl [] .nl),(.sl [] .nl),(.b false),(.sl [] .nl),(.sl [] .nl),(.b false),(.sl [] .nl),(.sl [] .nl),(.sl [] .nl),(.b false)]),so (.store 14 (.t 4) (.t 11))])
 (.seq
 (.drawT [rg 12 (.load (some 14) (.t 4)),rg 13 (.call 549 [(.t 12)]),rg 14 (.fad 12 (.t 4)),rg 15 (.load none (.t 14))]
 [rg 16 (.bsl 1 [(.sl [] .nl)] 2 [(0,(.t 13)),(1,(.t 15))]),rg 17 (.call 584 [(.t 16)]),rg 18 (.un .not (.t 17))])
 (.cond (.t 18)
 (.seq
 (.reg [rg 2 (.mov (.c (.b false)))])
 (.pre (.norm false [2]) .ret))
 .skip))))
 (.reg [rg 19 (.bin .add (.t 8) (.c (.i .i64 1))),mv 8 19]))))
 (.norm false [1,6,7,8]))
def b580:AX:=
 (.seq
 (.reg [rg 1 (.xop (.box 5) [(.t 0)]),rg 2 (.mov (.c (.b false)))])
 (.seq
 (.seq
 (.reg [rg 5 (.fad 0 (.t 1)),rg 6 (.load none (.t 5)),rg 7 (.len (.t 6)),rg 8 (.mov (.c (.i .i64 0)))])
 (.lp 0 (.norm false [1,6,7,8]) l580_0 (.norm false [1])))
 (.seq
 (.reg [rg 20 (.fad 1 (.t 1)),rg 21 (.load (some 3) (.t 20)),rg 22 (.bsl 3 [(.b false),(.sl [] .nl),(.sl [] .nl)] 1 [(0,(.t 21))]),rg 23 (.fad 4 (.t 1)),rg 24 (.load none (.t 23)),rg 25 (.bsl 1 [(.sl [] .nl)] 2 [(0,(.t 22)),(1,(.t 24))]),rg 26 (.call 584 [(.t 25)]),mv 2 26])
 (.pre (.norm false [2]) .ret))))
def l581_0:AX:=
 (.note
 (.seq
 (.reg [rg 9 (.bin .lss (.t 8) (.t 7))])
 (.seq
 (.cond (.t 9)
 .skip
 (.exit 0))
 (.seq
 (.block 1
 (.seq
 (.reg [rg 10 (.iad 14 (.t 6) (.t 8)),rg 11 (.load (some 14) (.t 10)),rg 4 (.alloc [(.b false),(.sl [] .nl),(.sl [] .nl),(.b false),(.sl [] .nl),(.sl [] .nl),(.b false),(.sl [] .nl),(.sl [] .nl),(.b false),(.sl [] .nl),(.sl [] .nl),(.sl [] .nl),(.b false)]),so (.store 14 (.t 4) (.t 11))])
 (.seq
 (.reg [rg 12 (.fad 12 (.t 4)),rg 13 (.load none (.t 12)),rg 14 (.len (.t 13)),rg 15 (.fad 4 (.t 1)),rg 16 (.load none (.t 15)),rg 17 (.len (.t 16)),rg 18 (.bin .neq (.t 14) (.t 17))])
 (.cond (.t 18)
 (.seq
 (.reg [rg 2 (.mov (.c (.b false)))])
 (.pre (.norm false [2]) .ret))
 .skip))))
 (.reg [rg 19 (.bin .add (.t 8) (.c (.i .i64 1))),mv 8 19]))))
 (.norm false [1,6,7,8]))
def b581:AX:=
 (.seq
 (.reg [rg 1 (.xop (.box 5) [(.t 0)]),rg 2 (.mov (.c (.b false)))])
 (.seq
 (.seq
 (.reg [rg 5 (.fad 0 (.t 1)),rg 6 (.load none (.t 5)),rg 7 (.len (.t 6)),rg 8 (.mov (.c (.i .i64 0)))])
 (.lp 0 (.norm false [1,6,7,8]) l581_0 (.norm false [1])))
 (.seq
 (.reg [rg 20 (.fad 4 (.t 1)),rg 21 (.load none (.t 20)),rg 22 (.len (.t 21)),rg 23 (.bin .geq (.t 22) (.c (.i .i64 1))),mv 24 23,gd 25 24 true (.fad 4 (.t 1)),gd 26 24 true (.load none (.t 25)),gd 27 24 true (.len (.t 26)),gd 28 24 true (.bin .leq (.t 27) (.c (.i .i64 6))),rg 29 (.pick (.t 24) (.t 28) (.c (.b false))),mv 2 29])
 (.pre (.norm false [2]) .ret))))
def l582_0:AX:=
 (.note
 (.seq
 (.reg [rg 9 (.bin .lss (.t 8) (.t 7))])
 (.seq
 (.cond (.t 9)
 .skip
 (.exit 0))
 (.seq
 (.block 1
 (.seq
 (.reg [rg 10 (.iad 14 (.t 6) (.t 8)),rg 11 (.load (some 14) (.t 10)),rg 4 (.alloc [(.b false),(.sl [] .nl),(.sl [] .nl),(.b false),(.sl [] .nl),(.sl [] .nl),(.b false),(.sl [] .nl),(.sl [] .nl),(.b false),(.sl [] .nl),(.sl [] .nl),(.sl [] .nl),(.b false)]),so (.store 14 (.t 4) (.t 11))])
 (.seq
 (.reg [rg 12 (.fad 3 (.t 4)),rg 13 (.load (some 3) (.t 12)),rg 14 (.call 209 [(.t 13)]),rg 15 (.bin .leq (.t 14) (.c (.i .i64 0))),mv 16 15,gd 17 16 false (.fad 6 (.t 4)),gd 18 16 false (.load (some 3) (.t 17)),gd 19 16 false (.call 209 [(.t 18)]),gd 20 16 false (.bin .leq (.t 19) (.c (.i .i64 0))),rg 21 (.pick (.t 16) (.c (.b true)) (.t 20)),mv 22 21,gd 23 22 false (.fad 6 (.t 4)),gd 24 22 false (.load (some 3) (.t 23)),gd 25 22 false (.fad 3 (.t 4)),gd 26 22 false (.load (some 3) (.t 25)),gd 27 22 false (.call 211 [(.t 24),(.t 26)]),gd 28 22 false (.bin .gtr (.t 27) (.c (.i .i64 0))),rg 29 (.pick (.t 22) (.c (.b true)) (.t 28)),mv 30 29,gd 31 30 false (.fad 9 (.t 4)),gd 32 30 false (.load (some 3) (.t 31)),gd 33 30 false (.call 209 [(.t 32)]),gd 34 30 false (.bin .lss (.t 33) (.c (.i .i64 0))),rg 35 (.pick (.t 30) (.c (.b true)) (.t 34))])
 (.cond (.t 35)
 (.seq
 (.reg [rg 2 (.mov (.c (.b false)))])
 (.pre (.norm false [2]) .ret))
 .skip))))
 (.reg [rg 36 (.bin .add (.t 8) (.c (.i .i64 1))),mv 8 36]))))
 (.norm false [6,7,8]))
def b582:AX:=
 (.seq
 (.reg [rg 1 (.xop (.box 5) [(.t 0)]),rg 2 (.mov (.c (.b false)))])
 (.seq
 (.seq
 (.reg [rg 5 (.fad 0 (.t 1)),rg 6 (.load none (.t 5)),rg 7 (.len (.t 6)),rg 8 (.mov (.c (.i .i64 0)))])
 (.lp 0 (.norm false [6,7,8]) l582_0 (.norm false [])))
 (.seq
 (.reg [rg 2 (.mov (.c (.b true)))])
 (.pre (.norm false [2]) .ret))))
def l583_0:AX:=
 (.note
 (.seq
 (.reg [rg 11 (.bin .lss (.t 10) (.t 9))])
 (.seq
 (.cond (.t 11)
 .skip
 (.exit 0))
 (.seq
 (.block 1
 (.seq
 (.reg [mv 12 10,rg 13 (.iad 14 (.t 8) (.t 10)),rg 14 (.load (some 14) (.t 13)),rg 4 (.alloc [(.b false),(.sl [] .nl),(.sl [] .nl),(.b false),(.sl [] .nl),(.sl [] .nl),(.b false),(.sl [] .nl),(.sl [] .nl),(.b false),(.sl [] .nl),(.sl [] .nl),(.sl [] .nl),(.b false)]),mv 3 12,so (.store 14 (.t 4) (.t 14))])
 (.seq
 (.draw [⟨rg 15 (.fad 1 (.t 1)),0,1⟩,⟨rg 16 (.load (some 3) (.t 15)),0,1⟩,⟨rg 17 (.fad 4 (.t 1)),0,2⟩,⟨rg 18 (.load none (.t 17)),0,2⟩,⟨rg 5 (.alloc [(.b false),(.sl [] .nl),(.sl [] .nl)]),0,1⟩,⟨so (.store 3 (.t 5) (.t 16)),1,2⟩,⟨mv 6 18,2,2⟩])
 (.seq
 (.seq
 (.reg [mv 19 3,rg 20 (.bin .add (.t 19) (.c (.i .i64 1))),rg 21 (.fad 0 (.t 1)),rg 22 (.load none (.t 21)),rg 23 (.len (.t 22)),rg 24 (.bin .lss (.t 20) (.t 23))])
 (.cond (.t 24)
 (.draw [⟨rg 25 (.fad 0 (.t 1)),0,0⟩,⟨rg 26 (.load none (.t 25)),0,0⟩,⟨mv 27 3,0,0⟩,⟨rg 28 (.bin .add (.t 27) (.c (.i .i64 1))),0,0⟩,⟨rg 29 (.iad 14 (.t 26) (.t 28)),0,0⟩,⟨rg 30 (.fad 0 (.t 29)),0,0⟩,⟨rg 31 (.load (some 3) (.t 30)),0,0⟩,⟨rg 32 (.fad 0 (.t 1)),0,1⟩,⟨rg 33 (.load none (.t 32)),0,1⟩,⟨mv 34 3,0,1⟩,⟨rg 35 (.bin .add (.t 34) (.c (.i .i64 1))),0,1⟩,⟨rg 36 (.iad 14 (.t 33) (.t 35)),0,1⟩,⟨rg 37 (.fad 12 (.t 36)),0,1⟩,⟨rg 38 (.load none (.t 37)),0,1⟩,⟨so (.store 3 (.t 5) (.t 31)),0,1⟩,⟨mv 6 38,1,1⟩])
 .skip))
 (.seq
 (.reg [rg 39 (.load (some 14) (.t 4)),rg 40 (.load (some 3) (.t 5)),mv 41 6,rg 42 (.call 585 [(.t 39),(.t 40),(.t 41)]),rg 43 (.un .not (.t 42))])
 (.cond (.t 43)
 (.seq
 (.reg [rg 2 (.mov (.c (.b false)))])
 (.pre (.norm false [2]) .ret))
 .skip))))))
 (.reg [rg 44 (.bin .add (.t 10) (.c (.i .i64 1))),mv 10 44]))))
 (.norm false [1,8,9,10]))
def b583:AX:=
 (.seq
 (.reg [rg 1 (.xop (.box 5) [(.t 0)]),rg 2 (.mov (.c (.b false)))])
 (.seq
 (.seq
 (.reg [rg 7 (.fad 0 (.t 1)),rg 8 (.load none (.t 7)),rg 9 (.len (.t 8)),rg 10 (.mov (.c (.i .i64 0)))])
 (.lp 0 (.norm false [1,8,9,10]) l583_0 (.norm false [])))
 (.seq
 (.reg [rg 2 (.mov (.c (.b true)))])
 (.pre (.norm false [2]) .ret))))
def l584_0:AX:=
 (.note
 (.seq
 (.reg [rg 16 (.bin .lss (.t 15) (.t 14))])
 (.seq
 (.cond (.t 16)
 .skip
 (.exit 2))
 (.seq
 (.block 3
 (.seq
 (.reg [rg 17 (.iad 3 (.t 13) (.t 15)),rg 18 (.load (some 3) (.t 17)),rg 6 (.alloc [(.b false),(.sl [] .nl),(.sl [] .nl)]),so (.store 3 (.t 6) (.t 18))])
 (.seq
 (.reg [rg 19 (.load (some 3) (.t 6)),rg 20 (.call 208 [(.t 19)]),rg 21 (.un .not (.t 20))])
 (.cond (.t 21)
 (.seq
 (.reg [rg 2 (.mov (.c (.b false)))])
 (.pre (.norm false [2]) .ret))
 .skip))))
 (.reg [rg 22 (.bin .add (.t 15) (.c (.i .i64 1))),mv 15 22]))))
 (.norm false [7,8,9,13,14,15]))
def l584_1:AX:=
 (.note
 (.seq
 (.reg [rg 10 (.bin .lss (.t 9) (.t 8))])
 (.seq
 (.cond (.t 10)
 .skip
 (.exit 0))
 (.seq
 (.block 1
 (.seq
 (.reg [rg 11 (.iad 1 (.t 7) (.t 9)),rg 12 (.load none (.t 11)),mv 4 12])
 (.seq
 (.reg [mv 13 4,rg 14 (.len (.t 13)),rg 15 (.mov (.c (.i .i64 0)))])
 (.lp 2 (.norm false [7,8,9,13,14,15]) l584_0 (.norm false [7,8,9])))))
 (.reg [rg 23 (.bin .add (.t 9) (.c (.i .i64 1))),mv 9 23]))))
 (.norm false [7,8,9]))
def b584:AX:=
 (.seq
 (.reg [rg 2 (.mov (.c (.b false)))])
 (.seq
 (.seq
 (.reg [mv 7 0,rg 8 (.len (.t 7)),rg 9 (.mov (.c (.i .i64 0)))])
 (.lp 0 (.norm false [7,8,9]) l584_1 (.norm false [])))
 (.seq
 (.reg [rg 2 (.mov (.c (.b true)))])
 (.pre (.norm false [2]) .ret))))
def b585:AX:=
 (.seq
 (.reg [rg 3 (.xop (.box 14) [(.t 0)]),rg 4 (.xop (.box 3) [(.t 1)]),rg 6 (.mov (.c (.b false)))])
 (.seq
 (.seq
 (.reg [rg 7 (.fad 13 (.t 3)),rg 8 (.load none (.t 7))])
 (.cond (.t 8)
 (.seq
 (.drawT [rg 9 (.load (some 3) (.t 4)),rg 10 (.fad 0 (.t 3)),rg 11 (.load (some 3) (.t 10)),rg 12 (.fad 6 (.t 3)),rg 13 (.load (some 3) (.t 12)),rg 14 (.call 215 [(.t 11),(.t 13)])]
 [rg 15 (.call 212 [(.t 9),(.t 14)]),mv 6 15])
 (.pre (.norm false [6]) .ret))
 .skip))
 (.seq
 (.reg [rg 16 (.load (some 3) (.t 4)),rg 17 (.fad 0 (.t 3)),rg 18 (.load (some 3) (.t 17)),rg 19 (.call 212 [(.t 16),(.t 18)]),mv 20 19,gd 21 20 true (.mov (.t 2)),gd 22 20 true (.fad 12 (.t 3)),gd 23 20 true (.load none (.t 22)),gd 24 20 true (.call 265 [(.t 21),(.t 23)]),rg 25 (.pick (.t 20) (.t 24) (.c (.b false))),mv 6 25])
 (.pre (.norm false [6]) .ret))))
class CPast (T:Tbl):Prop where
 h513:T 513=some ⟨1,38,[.t 2,.t 3],b513,none,false⟩
 h532:T 532=some ⟨1,40,[.t 2],b532,none,false⟩
 h533:T 533=some ⟨1,6,[.t 2],b533,none,false⟩
 h549:T 549=some ⟨1,12,[.t 2],b549,none,false⟩
 h576:T 576=some ⟨1,6,[.t 2],b576,none,false⟩
 h579:T 579=some ⟨1,24,[.t 2],b579,none,false⟩
 h580:T 580=some ⟨1,27,[.t 2],b580,none,false⟩
 h581:T 581=some ⟨1,30,[.t 2],b581,none,false⟩
 h582:T 582=some ⟨1,37,[.t 2],b582,none,false⟩
 h583:T 583=some ⟨1,45,[.t 2],b583,none,false⟩
 h584:T 584=some ⟨1,24,[.t 2],b584,none,false⟩
 h585:T 585=some ⟨3,26,[.t 6],b585,none,false⟩
section
variable{T:Tbl}[CPast T]{d:Option Nat}{st:St}{xs:List AV}{ps:List Opd}{e:Env}{h:Heap}{ol:List Heap}
@[simp] theorem x513:callX (orc T) T 513 xs d st=cP T 513 false xs d st:=zaa CPast.h513
theorem f513(xs:List AV)(hn:xs.length=1):callF T 513 xs=retF [.t 2,.t 3] false (evX (orc T) T 0 b513 ⟨argEnv xs,[],1⟩):=zab CPast.h513 hn
@[simp] theorem x532:callX (orc T) T 532 xs d st=cP T 532 false xs d st:=zaa CPast.h532
theorem f532(xs:List AV)(hn:xs.length=1):callF T 532 xs=retF [.t 2] false (evX (orc T) T 0 b532 ⟨argEnv xs,[],1⟩):=zab CPast.h532 hn
@[simp] theorem x533:callX (orc T) T 533 xs d st=cP T 533 false xs d st:=zaa CPast.h533
@[simp] theorem y533:opD (orc T) T (.call 533 ps) e h ol=dP T 533 false ps e:=zai CPast.h533
theorem f533(xs:List AV)(hn:xs.length=1):callF T 533 xs=retF [.t 2] false (evX (orc T) T 0 b533 ⟨argEnv xs,[],1⟩):=zab CPast.h533 hn
@[simp] theorem x549:callX (orc T) T 549 xs d st=cP T 549 false xs d st:=zaa CPast.h549
@[simp] theorem y549:opD (orc T) T (.call 549 ps) e h ol=dP T 549 false ps e:=zai CPast.h549
theorem f549(xs:List AV)(hn:xs.length=1):callF T 549 xs=retF [.t 2] false (evX (orc T) T 0 b549 ⟨argEnv xs,[],1⟩):=zab CPast.h549 hn
@[simp] theorem x576:callX (orc T) T 576 xs d st=cP T 576 false xs d st:=zaa CPast.h576
theorem f576(xs:List AV)(hn:xs.length=1):callF T 576 xs=retF [.t 2] false (evX (orc T) T 0 b576 ⟨argEnv xs,[],1⟩):=zab CPast.h576 hn
@[simp] theorem x579:callX (orc T) T 579 xs d st=cP T 579 false xs d st:=zaa CPast.h579
theorem f579(xs:List AV)(hn:xs.length=1):callF T 579 xs=retF [.t 2] false (evX (orc T) T 0 b579 ⟨argEnv xs,[],1⟩):=zab CPast.h579 hn
@[simp] theorem x580:callX (orc T) T 580 xs d st=cP T 580 false xs d st:=zaa CPast.h580
theorem f580(xs:List AV)(hn:xs.length=1):callF T 580 xs=retF [.t 2] false (evX (orc T) T 0 b580 ⟨argEnv xs,[],1⟩):=zab CPast.h580 hn
@[simp] theorem x581:callX (orc T) T 581 xs d st=cP T 581 false xs d st:=zaa CPast.h581
theorem f581(xs:List AV)(hn:xs.length=1):callF T 581 xs=retF [.t 2] false (evX (orc T) T 0 b581 ⟨argEnv xs,[],1⟩):=zab CPast.h581 hn
@[simp] theorem x582:callX (orc T) T 582 xs d st=cP T 582 false xs d st:=zaa CPast.h582
theorem f582(xs:List AV)(hn:xs.length=1):callF T 582 xs=retF [.t 2] false (evX (orc T) T 0 b582 ⟨argEnv xs,[],1⟩):=zab CPast.h582 hn
@[simp] theorem x583:callX (orc T) T 583 xs d st=cP T 583 false xs d st:=zaa CPast.h583
theorem f583(xs:List AV)(hn:xs.length=1):callF T 583 xs=retF [.t 2] false (evX (orc T) T 0 b583 ⟨argEnv xs,[],1⟩):=zab CPast.h583 hn
@[simp] theorem x584:callX (orc T) T 584 xs d st=cP T 584 false xs d st:=zaa CPast.h584
theorem f584(xs:List AV)(hn:xs.length=1):callF T 584 xs=retF [.t 2] false (evX (orc T) T 0 b584 ⟨argEnv xs,[],1⟩):=zab CPast.h584 hn
@[simp] theorem x585:callX (orc T) T 585 xs d st=cP T 585 false xs d st:=zaa CPast.h585
theorem f585(xs:List AV)(hn:xs.length=3):callF T 585 xs=retF [.t 6] false (evX (orc T) T 0 b585 ⟨argEnv xs,[],1⟩):=zab CPast.h585 hn
end
class CPast2 (T:Tbl):Prop where
def b536:AX:=
 (.seq
 (.reg [rg 1 (.xop (.box 5) [(.t 0)]),rg 2 (.mov (.c (.b false)))])
 (.seq
 (.reg [rg 3 (.load (some 5) (.t 1)),rg 4 (.call 551 [(.t 3)]),rg 5 (.bin .eql (.t 4) (.c (.i .i64 0))),mv 2 5])
 (.pre (.norm false [2]) .ret)))
def b551:AX:=
 (.seq
 (.reg [rg 1 (.xop (.box 5) [(.t 0)]),rg 2 (.mov (.c (.i .i64 0)))])
 (.seq
 (.reg [rg 4 (.call 205 [(.c (.i .i64 1))]),rg 3 (.alloc [(.b false),(.sl [] .nl),(.sl [] .nl)]),so (.store 3 (.t 3) (.t 4))])
 (.seq
 (.block 0
 (.seq
 (.reg [rg 6 (.fad 0 (.t 1)),rg 7 (.load none (.t 6)),rg 8 (.build [(.i .i64 0),(.s []),(.i .i64 0)] [(0,1,(.c (.i .i64 2))),(1,1,(.t 7))]),rg 9 (.call 172 [(.t 8)]),rg 10 (.un .not (.t 9)),mv 5 10])
 (.cond (.t 5)
 (.seq
 (.reg [rg 2 (.mov (.c (.i .i64 1)))])
 (.pre (.norm false [2]) .ret))
 (.seq
 (.reg [rg 12 (.load (some 5) (.t 1)),rg 13 (.call 559 [(.t 12)]),rg 14 (.un .not (.t 13)),mv 11 14])
 (.cond (.t 11)
 (.seq
 (.reg [rg 2 (.mov (.c (.i .i64 2)))])
 (.pre (.norm false [2]) .ret))
 (.seq
 (.reg [rg 16 (.fad 2 (.t 1)),rg 17 (.load none (.t 16)),rg 18 (.call 560 [(.t 17)]),rg 19 (.un .not (.t 18)),mv 20 19,gd 21 20 false (.fad 3 (.t 1)),gd 22 20 false (.load none (.t 21)),gd 23 20 false (.fad 1 (.t 1)),gd 24 20 false (.load none (.t 23)),gd 25 20 false (.fad 4 (.t 1)),gd 26 20 false (.load none (.t 25)),gd 27 20 false (.bsl 1 [(.sl [] .nl)] 3 [(0,(.t 22)),(1,(.t 24)),(2,(.t 26))]),gd 28 20 false (.call 560 [(.t 27)]),gd 29 20 false (.un .not (.t 28)),rg 30 (.pick (.t 20) (.c (.b true)) (.t 29)),mv 15 30])
 (.cond (.t 15)
 (.seq
 (.reg [rg 2 (.mov (.c (.i .i64 3)))])
 (.pre (.norm false [2]) .ret))
 (.seq
 (.reg [rg 32 (.load (some 5) (.t 1)),rg 33 (.call 561 [(.t 32)]),rg 34 (.un .not (.t 33)),mv 31 34])
 (.cond (.t 31)
 (.seq
 (.reg [rg 2 (.mov (.c (.i .i64 4)))])
 (.pre (.norm false [2]) .ret))
 (.seq
 (.drawT [rg 36 (.fad 3 (.t 1)),rg 37 (.load none (.t 36)),rg 38 (.call 562 [(.t 37)]),rg 39 (.load (some 3) (.t 3))]
 [rg 40 (.call 212 [(.t 38),(.t 39)]),rg 41 (.un .not (.t 40)),mv 35 41])
 (.cond (.t 35)
 (.seq
 (.reg [rg 2 (.mov (.c (.i .i64 5)))])
 (.pre (.norm false [2]) .ret))
 (.seq
 (.drawT [rg 43 (.fad 4 (.t 1)),rg 44 (.load none (.t 43)),rg 45 (.len (.t 44)),rg 46 (.bin .gtr (.t 45) (.c (.i .i64 0))),mv 47 46,gd 48 47 true (.fad 4 (.t 1)),gd 49 47 true (.load none (.t 48)),gd 50 47 true (.call 562 [(.t 49)]),gd 51 47 true (.load (some 3) (.t 3))]
 [gd 52 47 true (.call 212 [(.t 50),(.t 51)]),gd 53 47 true (.un .not (.t 52)),rg 54 (.pick (.t 47) (.t 53) (.c (.b false))),mv 42 54])
 (.cond (.t 42)
 (.seq
 (.reg [rg 2 (.mov (.c (.i .i64 6)))])
 (.pre (.norm false [2]) .ret))
 .skip)))))))))))))
 (.seq
 (.reg [rg 2 (.mov (.c (.i .i64 0)))])
 (.pre (.norm false [2]) .ret)))))
def l559_0:AX:=
 (.note
 (.seq
 (.reg [rg 46 (.bin .lss (.t 45) (.t 44))])
 (.seq
 (.cond (.t 46)
 .skip
 (.exit 0))
 (.seq
 (.block 1
 (.seq
 (.reg [mv 47 45,rg 48 (.iad 1 (.t 43) (.t 45)),rg 49 (.load none (.t 48)),mv 4 47,mv 5 49])
 (.seq
 (.reg [mv 50 5,rg 51 (.len (.t 50)),mv 52 4,rg 53 (.bin .neq (.t 51) (.t 52))])
 (.cond (.t 53)
 (.seq
 (.reg [rg 2 (.mov (.c (.b false)))])
 (.pre (.norm false [2]) .ret))
 .skip))))
 (.reg [rg 54 (.bin .add (.t 45) (.c (.i .i64 1))),mv 45 54]))))
 (.norm false [43,44,45]))
def b559:AX:=
 (.seq
 (.reg [rg 1 (.xop (.box 5) [(.t 0)]),rg 2 (.mov (.c (.b false)))])
 (.seq
 (.reg [rg 6 (.fad 3 (.t 1)),rg 7 (.load none (.t 6)),rg 8 (.len (.t 7)),mv 3 8])
 (.seq
 (.seq
 (.reg [mv 9 3,rg 10 (.bin .lss (.t 9) (.c (.i .i64 1))),mv 11 10,gd 12 11 false (.mov (.t 3)),gd 13 11 false (.bin .gtr (.t 12) (.c (.i .i64 8))),rg 14 (.pick (.t 11) (.c (.b true)) (.t 13)),mv 15 14,gd 16 15 false (.fad 1 (.t 1)),gd 17 15 false (.load none (.t 16)),gd 18 15 false (.len (.t 17)),gd 19 15 false (.mov (.t 3)),gd 20 15 false (.bin .neq (.t 18) (.t 19)),rg 21 (.pick (.t 15) (.c (.b true)) (.t 20)),mv 22 21,gd 23 22 false (.fad 2 (.t 1)),gd 24 22 false (.load none (.t 23)),gd 25 22 false (.len (.t 24)),gd 26 22 false (.mov (.t 3)),gd 27 22 false (.bin .neq (.t 25) (.t 26)),rg 28 (.pick (.t 22) (.c (.b true)) (.t 27)),mv 29 28,gd 30 29 false (.fad 4 (.t 1)),gd 31 29 false (.load none (.t 30)),gd 32 29 false (.len (.t 31)),gd 33 29 false (.mov (.t 3)),gd 34 29 false (.bin .neq (.t 32) (.t 33)),gd 35 29 false (.mov (.t 34)),gd 36 35 true (.fad 4 (.t 1)),gd 37 35 true (.load none (.t 36)),gd 38 35 true (.len (.t 37)),gd 39 35 true (.bin .neq (.t 38) (.c (.i .i64 0))),gd 40 29 false (.pick (.t 35) (.t 39) (.c (.b false))),rg 41 (.pick (.t 29) (.c (.b true)) (.t 40))])
 (.cond (.t 41)
 (.seq
 (.reg [rg 2 (.mov (.c (.b false)))])
 (.pre (.norm false [2]) .ret))
 .skip))
 (.seq
 (.seq
 (.reg [rg 42 (.fad 2 (.t 1)),rg 43 (.load none (.t 42)),rg 44 (.len (.t 43)),rg 45 (.mov (.c (.i .i64 0)))])
 (.lp 0 (.norm false [43,44,45]) l559_0 (.norm false [])))
 (.seq
 (.reg [rg 2 (.mov (.c (.b true)))])
 (.pre (.norm false [2]) .ret))))))
def l560_0:AX:=
 (.note
 (.seq
 (.reg [rg 16 (.bin .lss (.t 15) (.t 14))])
 (.seq
 (.cond (.t 16)
 .skip
 (.exit 2))
 (.seq
 (.block 3
 (.seq
 (.reg [rg 17 (.iad 3 (.t 13) (.t 15)),rg 18 (.load (some 3) (.t 17)),rg 6 (.alloc [(.b false),(.sl [] .nl),(.sl [] .nl)]),so (.store 3 (.t 6) (.t 18))])
 (.seq
 (.reg [rg 19 (.load (some 3) (.t 6)),rg 20 (.call 208 [(.t 19)]),rg 21 (.un .not (.t 20)),mv 22 21,gd 23 22 false (.load (some 3) (.t 6)),gd 24 22 false (.call 223 [(.t 23)]),gd 25 22 false (.bin .gtr (.t 24) (.c (.i .i64 190))),rg 26 (.pick (.t 22) (.c (.b true)) (.t 25))])
 (.cond (.t 26)
 (.seq
 (.reg [rg 2 (.mov (.c (.b false)))])
 (.pre (.norm false [2]) .ret))
 .skip))))
 (.reg [rg 27 (.bin .add (.t 15) (.c (.i .i64 1))),mv 15 27]))))
 (.norm false [7,8,9,13,14,15]))
def l560_1:AX:=
 (.note
 (.seq
 (.reg [rg 10 (.bin .lss (.t 9) (.t 8))])
 (.seq
 (.cond (.t 10)
 .skip
 (.exit 0))
 (.seq
 (.block 1
 (.seq
 (.reg [rg 11 (.iad 1 (.t 7) (.t 9)),rg 12 (.load none (.t 11)),mv 4 12])
 (.seq
 (.reg [mv 13 4,rg 14 (.len (.t 13)),rg 15 (.mov (.c (.i .i64 0)))])
 (.lp 2 (.norm false [7,8,9,13,14,15]) l560_0 (.norm false [7,8,9])))))
 (.reg [rg 28 (.bin .add (.t 9) (.c (.i .i64 1))),mv 9 28]))))
 (.norm false [7,8,9]))
def b560:AX:=
 (.seq
 (.reg [rg 2 (.mov (.c (.b false)))])
 (.seq
 (.seq
 (.reg [mv 7 0,rg 8 (.len (.t 7)),rg 9 (.mov (.c (.i .i64 0)))])
 (.lp 0 (.norm false [7,8,9]) l560_1 (.norm false [])))
 (.seq
 (.reg [rg 2 (.mov (.c (.b true)))])
 (.pre (.norm false [2]) .ret))))
def l561_0:AX:=
 (.note
 (.seq
 (.reg [rg 9 (.bin .lss (.t 8) (.t 7))])
 (.seq
 (.cond (.t 9)
 .skip
 (.exit 0))
 (.seq
 (.block 1
 (.seq
 (.reg [mv 10 8,rg 11 (.iad 1 (.t 6) (.t 8)),rg 12 (.load none (.t 11)),mv 3 10,mv 4 12])
 (.seq
 (.drawT [mv 13 4,rg 14 (.call 562 [(.t 13)]),rg 15 (.fad 1 (.t 1)),rg 16 (.load none (.t 15)),mv 17 3,rg 18 (.iad 3 (.t 16) (.t 17)),rg 19 (.load (some 3) (.t 18))]
 [rg 20 (.call 212 [(.t 14),(.t 19)]),rg 21 (.un .not (.t 20))])
 (.cond (.t 21)
 (.seq
 (.reg [rg 2 (.mov (.c (.b false)))])
 (.pre (.norm false [2]) .ret))
 .skip))))
 (.reg [rg 22 (.bin .add (.t 8) (.c (.i .i64 1))),mv 8 22]))))
 (.norm false [1,6,7,8]))
def b561:AX:=
 (.seq
 (.reg [rg 1 (.xop (.box 5) [(.t 0)]),rg 2 (.mov (.c (.b false)))])
 (.seq
 (.seq
 (.reg [rg 5 (.fad 2 (.t 1)),rg 6 (.load none (.t 5)),rg 7 (.len (.t 6)),rg 8 (.mov (.c (.i .i64 0)))])
 (.lp 0 (.norm false [1,6,7,8]) l561_0 (.norm false [])))
 (.seq
 (.reg [rg 2 (.mov (.c (.b true)))])
 (.pre (.norm false [2]) .ret))))
def l562_0:AX:=
 (.note
 (.seq
 (.reg [rg 10 (.bin .lss (.t 9) (.t 8))])
 (.seq
 (.cond (.t 10)
 .skip
 (.exit 0))
 (.seq
 (.block 1
 (.seq
 (.reg [rg 11 (.iad 3 (.t 7) (.t 9)),rg 12 (.load (some 3) (.t 11)),rg 5 (.alloc [(.b false),(.sl [] .nl),(.sl [] .nl)]),so (.store 3 (.t 5) (.t 12))])
 (.reg [rg 13 (.load (some 3) (.t 3)),rg 14 (.load (some 3) (.t 5)),rg 15 (.call 215 [(.t 13),(.t 14)]),so (.store 3 (.t 3) (.t 15))])))
 (.reg [rg 16 (.bin .add (.t 9) (.c (.i .i64 1))),mv 9 16]))))
 (.norm false [2,3,7,8,9]))
def b562:AX:=
 (.seq
 (.reg [rg 2 (.alloc [(.b false),(.sl [] .nl),(.sl [] .nl)])])
 (.seq
 (.reg [rg 6 (.call 205 [(.c (.i .i64 0))]),rg 3 (.alloc [(.b false),(.sl [] .nl),(.sl [] .nl)]),so (.store 3 (.t 3) (.t 6))])
 (.seq
 (.seq
 (.reg [mv 7 0,rg 8 (.len (.t 7)),rg 9 (.mov (.c (.i .i64 0)))])
 (.lp 0 (.norm false [2,3,7,8,9]) l562_0 (.norm false [2,3])))
 (.seq
 (.reg [rg 17 (.load (some 3) (.t 3)),so (.store 3 (.t 2) (.t 17))])
 (.pre (.norm false [2]) .ret)))))
class CScheme (T:Tbl):Prop where
 h536:T 536=some ⟨1,6,[.t 2],b536,none,false⟩
 h551:T 551=some ⟨1,55,[.t 2],b551,none,false⟩
 h559:T 559=some ⟨1,55,[.t 2],b559,none,false⟩
 h560:T 560=some ⟨1,29,[.t 2],b560,none,false⟩
 h561:T 561=some ⟨1,23,[.t 2],b561,none,false⟩
 h562:T 562=some ⟨1,18,[.cell 2 (some 3)],b562,none,false⟩
section
variable{T:Tbl}[CScheme T]{d:Option Nat}{st:St}{xs:List AV}{ps:List Opd}{e:Env}{h:Heap}{ol:List Heap}
@[simp] theorem x536:callX (orc T) T 536 xs d st=cP T 536 false xs d st:=zaa CScheme.h536
theorem f536(xs:List AV)(hn:xs.length=1):callF T 536 xs=retF [.t 2] false (evX (orc T) T 0 b536 ⟨argEnv xs,[],1⟩):=zab CScheme.h536 hn
@[simp] theorem x551:callX (orc T) T 551 xs d st=cP T 551 false xs d st:=zaa CScheme.h551
theorem f551(xs:List AV)(hn:xs.length=1):callF T 551 xs=retF [.t 2] false (evX (orc T) T 0 b551 ⟨argEnv xs,[],1⟩):=zab CScheme.h551 hn
@[simp] theorem x559:callX (orc T) T 559 xs d st=cP T 559 false xs d st:=zaa CScheme.h559
theorem f559(xs:List AV)(hn:xs.length=1):callF T 559 xs=retF [.t 2] false (evX (orc T) T 0 b559 ⟨argEnv xs,[],1⟩):=zab CScheme.h559 hn
@[simp] theorem x560:callX (orc T) T 560 xs d st=cP T 560 false xs d st:=zaa CScheme.h560
theorem f560(xs:List AV)(hn:xs.length=1):callF T 560 xs=retF [.t 2] false (evX (orc T) T 0 b560 ⟨argEnv xs,[],1⟩):=zab CScheme.h560 hn
@[simp] theorem x561:callX (orc T) T 561 xs d st=cP T 561 false xs d st:=zaa CScheme.h561
theorem f561(xs:List AV)(hn:xs.length=1):callF T 561 xs=retF [.t 2] false (evX (orc T) T 0 b561 ⟨argEnv xs,[],1⟩):=zab CScheme.h561 hn
@[simp] theorem y562:opD (orc T) T (.call 562 ps) e h ol=dP T 562 false ps e:=zai CScheme.h562
theorem f562(xs:List AV)(hn:xs.length=1):callF T 562 xs=retF [.cell 2 (some 3)] false (evX (orc T) T 0 b562 ⟨argEnv xs,[],1⟩):=zab CScheme.h562 hn
end
def b524:AX:=
 (.seq
 (.reg [rg 1 (.xop (.box 11) [(.t 0)]),rg 2 (.mov (.c (.b false)))])
 (.seq
 (.reg [rg 3 (.fad 0 (.t 1)),rg 4 (.load (some 4) (.t 3)),rg 5 (.call 421 [(.t 4)]),mv 6 5,gd 7 6 true (.fad 4 (.t 1)),gd 8 6 true (.load (some 5) (.t 7)),gd 9 6 true (.call 536 [(.t 8)]),rg 10 (.pick (.t 6) (.t 9) (.c (.b false))),mv 11 10,gd 12 11 true (.fad 9 (.t 1)),gd 13 11 true (.load none (.t 12)),gd 14 11 true (.len (.t 13)),gd 15 11 true (.fad 0 (.t 1)),gd 16 11 true (.fad 3 (.t 15)),gd 17 11 true (.load none (.t 16)),gd 18 11 true (.bin .eql (.t 14) (.t 17)),rg 19 (.pick (.t 11) (.t 18) (.c (.b false))),mv 2 19])
 (.pre (.norm false [2]) .ret)))
def b563:AX:=
 (.seq
 (.reg [rg 3 (.xop (.box 11) [(.t 0)]),rg 4 (.xop (.box 3) [(.t 1)]),rg 6 (.alloc [(.b false),(.sl [] .nl),(.sl [] .nl),(.sl [] .nl),(.sl [] .nl)])])
 (.seq
 (.reg [rg 7 (.load (some 3) (.t 4)),mv 8 2,rg 9 (.fad 9 (.t 3)),rg 10 (.load none (.t 9)),rg 11 (.build [(.b false),(.sl [] .nl),(.sl [] .nl),(.sl [] .nl),(.sl [] .nl)] [(0,3,(.t 7)),(3,1,(.t 8)),(4,1,(.t 10))]),so (.store 5 (.t 6) (.t 11))])
 (.pre (.norm false [6]) .ret)))
def b577:AX:=
 (.seq
 (.reg [rg 3 (.xop (.box 11) [(.t 0)]),rg 4 (.xop (.box 3) [(.t 1)]),rg 6 (.mov (.c (.sl [] .nl))),rg 7 (.alloc [(.i .i64 0),(.i .i64 0),(.i .i64 0),(.i .i64 0)])])
 (.seq
 (.seq
 (.reg [rg 8 (.load (some 11) (.t 3)),rg 9 (.call 524 [(.t 8)]),rg 10 (.un .not (.t 9))])
 (.cond (.t 10)
 (.seq
 (.reg [rg 11 (.build [(.i .i64 0),(.i .i64 0),(.i .i64 0),(.i .i64 0)] [(0,1,(.c (.i .i64 2)))]),rg 6 (.mov (.c (.sl [] .nl))),so (.store 4 (.t 7) (.t 11))])
 (.pre (.norm false [6,7]) .ret))
 .skip))
 (.seq
 (.drawT [rg 12 (.fad 0 (.t 3)),rg 13 (.load (some 4) (.t 12)),rg 14 (.load (some 11) (.t 3)),rg 15 (.load (some 3) (.t 4)),mv 16 2,rg 17 (.call 563 [(.t 14),(.t 15),(.t 16)]),rg 18 (.fad 10 (.t 3)),rg 19 (.load none (.t 18)),rg 20 (.call 389 [(.t 13),(.t 17),(.t 19)]),rg 21 (.ext (.t 20) 0),rg 22 (.ext (.t 20) 1)]
 [mv 6 21,so (.store 4 (.t 7) (.t 22))])
 (.pre (.norm false [6,7]) .ret))))
class CStep (T:Tbl):Prop where
 h524:T 524=some ⟨1,20,[.t 2],b524,none,false⟩
 h563:T 563=some ⟨3,12,[.cell 6 (some 5)],b563,none,false⟩
 h577:T 577=some ⟨3,23,[.t 6,.cell 7 (some 4)],b577,none,false⟩
section
variable{T:Tbl}[CStep T]{d:Option Nat}{st:St}{xs:List AV}{ps:List Opd}{e:Env}{h:Heap}{ol:List Heap}
@[simp] theorem x524:callX (orc T) T 524 xs d st=cP T 524 false xs d st:=zaa CStep.h524
theorem f524(xs:List AV)(hn:xs.length=1):callF T 524 xs=retF [.t 2] false (evX (orc T) T 0 b524 ⟨argEnv xs,[],1⟩):=zab CStep.h524 hn
@[simp] theorem y563:opD (orc T) T (.call 563 ps) e h ol=dP T 563 false ps e:=zai CStep.h563
theorem f563(xs:List AV)(hn:xs.length=3):callF T 563 xs=retF [.cell 6 (some 5)] false (evX (orc T) T 0 b563 ⟨argEnv xs,[],1⟩):=zab CStep.h563 hn
@[simp] theorem y577:opD (orc T) T (.call 577 ps) e h ol=dP T 577 false ps e:=zai CStep.h577
theorem f577(xs:List AV)(hn:xs.length=3):callF T 577 xs=retF [.t 6,.cell 7 (some 4)] false (evX (orc T) T 0 b577 ⟨argEnv xs,[],1⟩):=zab CStep.h577 hn
end
def b496:AX:=
 (.seq
 (.reg [rg 4 (.xop (.box 11) [(.t 0)]),rg 8 (.mov (.c (.b false)))])
 (.seq
 (.reg [rg 9 (.fad 0 (.t 4)),rg 10 (.load (some 4) (.t 9)),mv 11 1,mv 12 3,rg 13 (.call 379 [(.t 10),(.t 11),(.t 12)]),mv 14 13,gd 15 14 false (.fad 4 (.t 4)),gd 16 14 false (.load (some 5) (.t 15)),gd 17 14 false (.mov (.t 2)),gd 18 14 false (.call 515 [(.t 16),(.t 17),(.c (.i .i64 4))]),rg 19 (.pick (.t 14) (.c (.b true)) (.t 18)),mv 20 19,gd 21 20 false (.fad 9 (.t 4)),gd 22 20 false (.load none (.t 21)),gd 23 20 false (.mov (.t 3)),gd 24 20 false (.call 286 [(.t 22),(.c (.i .i64 6)),(.t 23)]),rg 25 (.pick (.t 20) (.c (.b true)) (.t 24)),mv 8 25])
 (.pre (.norm false [8]) .ret)))
def l497_0:AX:=
 (.note
 (.seq
 (.seq
 (.reg [mv 25 7,rg 26 (.fad 0 (.t 3)),rg 27 (.load none (.t 26)),rg 28 (.len (.t 27)),rg 29 (.bin .lss (.t 25) (.t 28))])
 (.cond (.t 29)
 .skip
 (.exit 0)))
 (.seq
 (.block 1
 (.seq
 (.reg [rg 32 (.fad 0 (.t 3)),rg 33 (.load none (.t 32)),mv 34 7,rg 35 (.iad 14 (.t 33) (.t 34)),rg 36 (.load (some 14) (.t 35)),rg 37 (.call 516 [(.t 36)]),mv 38 2,rg 39 (.call 286 [(.t 37),(.c (.i .i64 4)),(.t 38)]),mv 40 39,gd 41 40 false (.fad 0 (.t 3)),gd 42 40 false (.load none (.t 41)),gd 43 40 false (.mov (.t 7)),gd 44 40 false (.iad 14 (.t 42) (.t 43)),gd 45 40 false (.fad 12 (.t 44)),gd 46 40 false (.load none (.t 45)),gd 47 40 false (.mov (.t 2)),gd 48 40 false (.call 286 [(.t 46),(.c (.i .i64 8)),(.t 47)]),rg 49 (.pick (.t 40) (.c (.b true)) (.t 48))])
 (.cond (.t 49)
 (.seq
 (.reg [rg 6 (.mov (.c (.b true)))])
 (.pre (.norm false [6]) .ret))
 .skip)))
 (.reg [mv 30 7,rg 31 (.bin .add (.t 30) (.c (.i .i64 1))),mv 7 31])))
 (.norm false [2,3,7]))
def b497:AX:=
 (.seq
 (.reg [rg 3 (.xop (.box 5) [(.t 0)]),rg 6 (.mov (.c (.b false)))])
 (.seq
 (.seq
 (.reg [rg 8 (.fad 0 (.t 3)),rg 9 (.load none (.t 8)),rg 10 (.len (.t 9)),mv 11 1,rg 12 (.bin .gtr (.t 10) (.t 11)),mv 13 12,gd 14 13 false (.fad 1 (.t 3)),gd 15 13 false (.load (some 3) (.t 14)),gd 16 13 false (.mov (.t 2)),gd 17 13 false (.call 247 [(.t 15),(.t 16)]),rg 18 (.pick (.t 13) (.c (.b true)) (.t 17)),mv 19 18,gd 20 19 false (.fad 4 (.t 3)),gd 21 19 false (.load none (.t 20)),gd 22 19 false (.mov (.t 2)),gd 23 19 false (.call 286 [(.t 21),(.c (.i .i64 8)),(.t 22)]),rg 24 (.pick (.t 19) (.c (.b true)) (.t 23))])
 (.cond (.t 24)
 (.seq
 (.reg [rg 6 (.mov (.c (.b true)))])
 (.pre (.norm false [6]) .ret))
 .skip))
 (.seq
 (.seq
 (.reg [rg 7 (.mov (.c (.i .i64 0)))])
 (.lp 0 (.norm false [2,3,7]) l497_0 (.norm false [])))
 (.seq
 (.reg [rg 6 (.mov (.c (.b false)))])
 (.pre (.norm false [6]) .ret)))))
def l515_0:AX:=
 (.note
 (.seq
 (.seq
 (.reg [mv 40 7,rg 41 (.fad 2 (.t 3)),rg 42 (.load none (.t 41)),rg 43 (.len (.t 42)),rg 44 (.bin .lss (.t 40) (.t 43))])
 (.cond (.t 44)
 .skip
 (.exit 0)))
 (.seq
 (.block 1
 (.seq
 (.reg [rg 47 (.fad 2 (.t 3)),rg 48 (.load none (.t 47)),mv 49 7,rg 50 (.iad 1 (.t 48) (.t 49)),rg 51 (.load none (.t 50)),mv 52 1,mv 53 2,rg 54 (.call 286 [(.t 51),(.t 52),(.t 53)])])
 (.cond (.t 54)
 (.seq
 (.reg [rg 6 (.mov (.c (.b true)))])
 (.pre (.norm false [6]) .ret))
 .skip)))
 (.reg [mv 45 7,rg 46 (.bin .add (.t 45) (.c (.i .i64 1))),mv 7 46])))
 (.norm false [1,2,3,7]))
def b515:AX:=
 (.seq
 (.reg [rg 3 (.xop (.box 5) [(.t 0)]),rg 6 (.mov (.c (.b false)))])
 (.seq
 (.seq
 (.reg [rg 8 (.fad 0 (.t 3)),rg 9 (.load none (.t 8)),rg 10 (.lens (.t 9)),rg 11 (.bin .gtr (.t 10) (.c (.i .i64 50))),mv 12 11,gd 13 12 false (.fad 2 (.t 3)),gd 14 12 false (.load none (.t 13)),gd 15 12 false (.len (.t 14)),gd 16 12 false (.mov (.t 1)),gd 17 12 false (.bin .gtr (.t 15) (.t 16)),rg 18 (.pick (.t 12) (.c (.b true)) (.t 17)),mv 19 18,gd 20 19 false (.fad 3 (.t 3)),gd 21 19 false (.load none (.t 20)),gd 22 19 false (.mov (.t 1)),gd 23 19 false (.mov (.t 2)),gd 24 19 false (.call 286 [(.t 21),(.t 22),(.t 23)]),rg 25 (.pick (.t 19) (.c (.b true)) (.t 24)),mv 26 25,gd 27 26 false (.fad 1 (.t 3)),gd 28 26 false (.load none (.t 27)),gd 29 26 false (.mov (.t 1)),gd 30 26 false (.mov (.t 2)),gd 31 26 false (.call 286 [(.t 28),(.t 29),(.t 30)]),rg 32 (.pick (.t 26) (.c (.b true)) (.t 31)),mv 33 32,gd 34 33 false (.fad 4 (.t 3)),gd 35 33 false (.load none (.t 34)),gd 36 33 false (.mov (.t 1)),gd 37 33 false (.mov (.t 2)),gd 38 33 false (.call 286 [(.t 35),(.t 36),(.t 37)]),rg 39 (.pick (.t 33) (.c (.b true)) (.t 38))])
 (.cond (.t 39)
 (.seq
 (.reg [rg 6 (.mov (.c (.b true)))])
 (.pre (.norm false [6]) .ret))
 .skip))
 (.seq
 (.seq
 (.reg [rg 7 (.mov (.c (.i .i64 0)))])
 (.lp 0 (.norm false [1,2,3,7]) l515_0 (.norm false [])))
 (.seq
 (.reg [rg 6 (.mov (.c (.b false)))])
 (.pre (.norm false [6]) .ret)))))
def b516:AX:=
 (.seq
 (.reg [rg 1 (.xop (.box 14) [(.t 0)]),rg 2 (.mov (.c (.sl [] .nl)))])
 (.seq
 (.reg [rg 3 (.fad 0 (.t 1)),rg 4 (.load (some 3) (.t 3)),rg 5 (.fad 3 (.t 1)),rg 6 (.load (some 3) (.t 5)),rg 7 (.fad 6 (.t 1)),rg 8 (.load (some 3) (.t 7)),rg 9 (.fad 9 (.t 1)),rg 10 (.load (some 3) (.t 9)),rg 11 (.bsl 3 [(.b false),(.sl [] .nl),(.sl [] .nl)] 4 [(0,(.t 4)),(1,(.t 6)),(2,(.t 8)),(3,(.t 10))]),mv 2 11])
 (.pre (.norm false [2]) .ret)))
class CLong33 (T:Tbl):Prop where
 h496:T 496=some ⟨4,26,[.t 8],b496,none,false⟩
 h497:T 497=some ⟨3,50,[.t 6],b497,none,false⟩
 h515:T 515=some ⟨3,55,[.t 6],b515,none,false⟩
 h516:T 516=some ⟨1,12,[.t 2],b516,none,false⟩
section
variable{T:Tbl}[CLong33 T]{d:Option Nat}{st:St}{xs:List AV}{ps:List Opd}{e:Env}{h:Heap}{ol:List Heap}
@[simp] theorem x496:callX (orc T) T 496 xs d st=cP T 496 false xs d st:=zaa CLong33.h496
theorem f496(xs:List AV)(hn:xs.length=4):callF T 496 xs=retF [.t 8] false (evX (orc T) T 0 b496 ⟨argEnv xs,[],1⟩):=zab CLong33.h496 hn
@[simp] theorem x497:callX (orc T) T 497 xs d st=cP T 497 false xs d st:=zaa CLong33.h497
theorem f497(xs:List AV)(hn:xs.length=3):callF T 497 xs=retF [.t 6] false (evX (orc T) T 0 b497 ⟨argEnv xs,[],1⟩):=zab CLong33.h497 hn
@[simp] theorem x515:callX (orc T) T 515 xs d st=cP T 515 false xs d st:=zaa CLong33.h515
theorem f515(xs:List AV)(hn:xs.length=3):callF T 515 xs=retF [.t 6] false (evX (orc T) T 0 b515 ⟨argEnv xs,[],1⟩):=zab CLong33.h515 hn
@[simp] theorem x516:callX (orc T) T 516 xs d st=cP T 516 false xs d st:=zaa CLong33.h516
theorem f516(xs:List AV)(hn:xs.length=1):callF T 516 xs=retF [.t 2] false (evX (orc T) T 0 b516 ⟨argEnv xs,[],1⟩):=zab CLong33.h516 hn
end
def l500_0:AX:=
 (.note
 (.seq
 (.seq
 (.reg [mv 13 4,rg 14 (.fad 0 (.t 1)),rg 15 (.load none (.t 14)),rg 16 (.len (.t 15)),rg 17 (.bin .lss (.t 13) (.t 16))])
 (.cond (.t 17)
 .skip
 (.exit 0)))
 (.seq
 (.block 1
 (.seq
 (.reg [rg 20 (.fad 0 (.t 1)),rg 21 (.load none (.t 20)),mv 22 4,rg 23 (.iad 14 (.t 21) (.t 22)),rg 24 (.load (some 14) (.t 23)),rg 5 (.alloc [(.b false),(.sl [] .nl),(.sl [] .nl),(.b false),(.sl [] .nl),(.sl [] .nl),(.b false),(.sl [] .nl),(.sl [] .nl),(.b false),(.sl [] .nl),(.sl [] .nl),(.sl [] .nl),(.b false)]),so (.store 14 (.t 5) (.t 24))])
 (.drawT [rg 25 (.fad 0 (.t 3)),rg 26 (.load none (.t 25)),rg 27 (.fad 0 (.t 5)),rg 28 (.load (some 3) (.t 27)),rg 29 (.call 248 [(.t 28)]),rg 30 (.fad 3 (.t 5)),rg 31 (.load (some 3) (.t 30)),rg 32 (.call 248 [(.t 31)]),rg 33 (.fad 6 (.t 5)),rg 34 (.load (some 3) (.t 33)),rg 35 (.call 248 [(.t 34)]),rg 36 (.fad 9 (.t 5)),rg 37 (.load (some 3) (.t 36)),rg 38 (.call 248 [(.t 37)]),rg 39 (.fad 12 (.t 5)),rg 40 (.load none (.t 39)),rg 41 (.call 287 [(.t 40)]),rg 42 (.fad 13 (.t 5)),rg 43 (.load none (.t 42)),rg 44 (.build [(.b false),(.sl [] .nl),(.sl [] .nl),(.b false),(.sl [] .nl),(.sl [] .nl),(.b false),(.sl [] .nl),(.sl [] .nl),(.b false),(.sl [] .nl),(.sl [] .nl),(.sl [] .nl),(.b false)] [(0,3,(.t 29)),(3,3,(.t 32)),(6,3,(.t 35)),(9,3,(.t 38)),(12,1,(.t 41)),(13,1,(.t 43))]),rg 45 (.bsl 14 [(.b false),(.sl [] .nl),(.sl [] .nl),(.b false),(.sl [] .nl),(.sl [] .nl),(.b false),(.sl [] .nl),(.sl [] .nl),(.b false),(.sl [] .nl),(.sl [] .nl),(.sl [] .nl),(.b false)] 1 [(0,(.t 44))])]
 [rg 46 (.app 14 (.t 26) (.t 45)),rg 47 (.fad 0 (.t 3)),so (.store 1 (.t 47) (.t 46))])))
 (.reg [mv 18 4,rg 19 (.bin .add (.t 18) (.c (.i .i64 1))),mv 4 19])))
 (.norm false [1,2,3,4]))
def b500:AX:=
 (.seq
 (.reg [rg 1 (.xop (.box 5) [(.t 0)]),rg 2 (.alloc [(.sl [] .nl),(.b false),(.sl [] .nl),(.sl [] .nl),(.sl [] .nl)])])
 (.seq
 (.draw [⟨rg 6 (.fad 1 (.t 1)),0,1⟩,⟨rg 7 (.load (some 3) (.t 6)),0,1⟩,⟨rg 8 (.call 248 [(.t 7)]),0,1⟩,⟨rg 9 (.fad 4 (.t 1)),0,1⟩,⟨rg 10 (.load none (.t 9)),0,1⟩,⟨rg 11 (.call 287 [(.t 10)]),0,1⟩,⟨rg 12 (.build [(.sl [] .nl),(.b false),(.sl [] .nl),(.sl [] .nl),(.sl [] .nl)] [(1,3,(.t 8)),(4,1,(.t 11))]),0,1⟩,⟨rg 3 (.alloc [(.sl [] .nl),(.b false),(.sl [] .nl),(.sl [] .nl),(.sl [] .nl)]),0,1⟩,⟨so (.store 5 (.t 3) (.t 12)),1,2⟩])
 (.seq
 (.seq
 (.reg [rg 4 (.mov (.c (.i .i64 0)))])
 (.pre (.fld 3 0 0 14) (.lp 0 (.norm false [1,2,3,4]) l500_0 (.norm false [2,3]))))
 (.seq
 (.reg [rg 48 (.load (some 5) (.t 3)),so (.store 5 (.t 2) (.t 48))])
 (.pre (.norm false [2]) .ret)))))
def b507:AX:=
 (.seq
 (.reg [rg 1 (.xop (.box 11) [(.t 0)]),rg 2 (.alloc [(.sl [] .nl),(.sl [] .nl),(.i .i64 0),(.i .i64 0),(.s []),(.sl [] .nl),(.sl [] .nl),(.sl [] .nl),(.sl [] .nl),(.sl [] .nl),(.i .i64 0)])])
 (.seq
 (.drawT [rg 3 (.fad 0 (.t 1)),rg 4 (.load (some 4) (.t 3)),rg 5 (.call 382 [(.t 4)]),rg 6 (.fad 4 (.t 1)),rg 7 (.load (some 5) (.t 6)),rg 8 (.call 527 [(.t 7)]),rg 9 (.fad 9 (.t 1)),rg 10 (.load none (.t 9)),rg 11 (.call 287 [(.t 10)]),rg 12 (.fad 10 (.t 1)),rg 13 (.load none (.t 12))]
 [rg 14 (.build [(.sl [] .nl),(.sl [] .nl),(.i .i64 0),(.i .i64 0),(.s []),(.sl [] .nl),(.sl [] .nl),(.sl [] .nl),(.sl [] .nl),(.sl [] .nl),(.i .i64 0)] [(0,4,(.t 5)),(4,5,(.t 8)),(9,1,(.t 11)),(10,1,(.t 13))]),so (.store 11 (.t 2) (.t 14))])
 (.pre (.norm false [2]) .ret)))
def b527:AX:=
 (.seq
 (.reg [rg 1 (.xop (.box 5) [(.t 0)]),rg 2 (.alloc [(.s []),(.sl [] .nl),(.sl [] .nl),(.sl [] .nl),(.sl [] .nl)])])
 (.seq
 (.drawT [rg 3 (.fad 0 (.t 1)),rg 4 (.load none (.t 3)),rg 5 (.fad 1 (.t 1)),rg 6 (.load none (.t 5)),rg 7 (.call 287 [(.t 6)]),rg 8 (.fad 2 (.t 1)),rg 9 (.load none (.t 8)),rg 10 (.call 308 [(.t 9)]),rg 11 (.fad 3 (.t 1)),rg 12 (.load none (.t 11)),rg 13 (.call 287 [(.t 12)]),rg 14 (.fad 4 (.t 1)),rg 15 (.load none (.t 14)),rg 16 (.call 287 [(.t 15)])]
 [rg 17 (.build [(.s []),(.sl [] .nl),(.sl [] .nl),(.sl [] .nl),(.sl [] .nl)] [(0,1,(.t 4)),(1,1,(.t 7)),(2,1,(.t 10)),(3,1,(.t 13)),(4,1,(.t 16))]),so (.store 5 (.t 2) (.t 17))])
 (.pre (.norm false [2]) .ret)))
class CTo33 (T:Tbl):Prop where
 h500:T 500=some ⟨1,49,[.cell 2 (some 5)],b500,none,false⟩
 h507:T 507=some ⟨1,15,[.cell 2 (some 11)],b507,none,false⟩
 h527:T 527=some ⟨1,18,[.cell 2 (some 5)],b527,none,false⟩
section
variable{T:Tbl}[CTo33 T]{d:Option Nat}{st:St}{xs:List AV}{ps:List Opd}{e:Env}{h:Heap}{ol:List Heap}
@[simp] theorem x500:callX (orc T) T 500 xs d st=cP T 500 false xs d st:=zaa CTo33.h500
theorem f500(xs:List AV)(hn:xs.length=1):callF T 500 xs=retF [.cell 2 (some 5)] false (evX (orc T) T 0 b500 ⟨argEnv xs,[],1⟩):=zab CTo33.h500 hn
@[simp] theorem x507:callX (orc T) T 507 xs d st=cP T 507 false xs d st:=zaa CTo33.h507
theorem f507(xs:List AV)(hn:xs.length=1):callF T 507 xs=retF [.cell 2 (some 11)] false (evX (orc T) T 0 b507 ⟨argEnv xs,[],1⟩):=zab CTo33.h507 hn
@[simp] theorem y527:opD (orc T) T (.call 527 ps) e h ol=dP T 527 false ps e:=zai CTo33.h527
theorem f527(xs:List AV)(hn:xs.length=1):callF T 527 xs=retF [.cell 2 (some 5)] false (evX (orc T) T 0 b527 ⟨argEnv xs,[],1⟩):=zab CTo33.h527 hn
end
def b323:AX:=
 (.seq
 (.reg [rg 0 (.mov (.c (.b false)))])
 (.seq
 (.reg [rg 7 (.call 205 [(.c (.i .i64 0))]),rg 8 (.bsl 3 [(.b false),(.sl [] .nl),(.sl [] .nl)] 1 [(0,(.t 7))]),mv 1 8])
 (.seq
 (.reg [rg 9 (.call 205 [(.c (.i .i64 0))]),rg 10 (.call 205 [(.c (.i .i64 2))]),mv 11 1,rg 12 (.call 205 [(.c (.i .i64 8))]),rg 13 (.bsl 3 [(.b false),(.sl [] .nl),(.sl [] .nl)] 1 [(0,(.t 12))]),mv 14 1,rg 15 (.call 205 [(.c (.i .i64 12))]),rg 16 (.bsl 3 [(.b false),(.sl [] .nl),(.sl [] .nl)] 1 [(0,(.t 15))]),rg 17 (.build [(.b false),(.sl [] .nl),(.sl [] .nl),(.b false),(.sl [] .nl),(.sl [] .nl),(.sl [] .nl),(.sl [] .nl),(.sl [] .nl),(.sl [] .nl)] [(0,3,(.t 9)),(3,3,(.t 10)),(6,1,(.t 11)),(7,1,(.t 13)),(8,1,(.t 14)),(9,1,(.t 16))]),rg 2 (.alloc [(.b false),(.sl [] .nl),(.sl [] .nl),(.b false),(.sl [] .nl),(.sl [] .nl),(.sl [] .nl),(.sl [] .nl),(.sl [] .nl),(.sl [] .nl)]),so (.store 10 (.t 2) (.t 17))])
 (.seq
 (.drawT [rg 19 (.load (some 10) (.t 2)),rg 20 (.call 205 [(.c (.i .i64 1))]),rg 21 (.call 324 [(.t 19),(.t 20)]),mv 18 21,rg 22 (.ext (.t 18) 0),rg 23 (.ext (.t 18) 1),mv 3 22]
 [mv 4 23])
 (.seq
 (.drawT [rg 25 (.load (some 10) (.t 2)),rg 26 (.call 205 [(.c (.i .i64 1))]),rg 27 (.call 326 [(.t 25),(.t 26)]),mv 24 27,rg 28 (.ext (.t 24) 0),rg 29 (.ext (.t 24) 1),mv 5 28]
 [mv 6 29])
 (.seq
 (.reg [mv 30 4,mv 31 30,gd 32 31 true (.mov (.t 6)),rg 33 (.pick (.t 31) (.t 32) (.c (.b false))),mv 34 33,gd 35 34 true (.mov (.t 3)),gd 36 34 true (.call 274 [(.t 35)]),gd 37 34 true (.bin .eql (.t 36) (.c (.s [49]))),rg 38 (.pick (.t 34) (.t 37) (.c (.b false))),mv 39 38,gd 40 39 true (.mov (.t 5)),gd 41 39 true (.call 274 [(.t 40)]),gd 42 39 true (.bin .eql (.t 41) (.c (.s [51]))),rg 43 (.pick (.t 39) (.t 42) (.c (.b false))),mv 0 43])
 (.pre (.norm false [0]) .ret)))))))
class CLaw41 (T:Tbl):Prop where
 h323:T 323=some ⟨0,44,[.t 0],b323,none,false⟩
section
variable{T:Tbl}[CLaw41 T]{d:Option Nat}{st:St}{xs:List AV}{ps:List Opd}{e:Env}{h:Heap}{ol:List Heap}
@[simp] theorem x323:callX (orc T) T 323 xs d st=cP T 323 false xs d st:=zaa CLaw41.h323
theorem f323(xs:List AV)(hn:xs.length=0):callF T 323 xs=retF [.t 0] false (evX (orc T) T 0 b323 ⟨argEnv xs,[],1⟩):=zab CLaw41.h323 hn
end
def l567_0:AX:=
 (.note
 (.seq
 (.seq
 (.reg [mv 44 9,mv 45 7,rg 46 (.len (.t 45)),rg 47 (.bin .lss (.t 44) (.t 46))])
 (.cond (.t 47)
 .skip
 (.exit 0)))
 (.seq
 (.block 1
 (.seq
 (.draw [⟨rg 51 (.load (some 11) (.t 5)),0,1⟩,⟨rg 52 (.load (some 5) (.t 6)),0,1⟩,⟨mv 53 7,0,1⟩,⟨mv 54 9,0,1⟩,⟨rg 55 (.iad 3 (.t 53) (.t 54)),0,1⟩,⟨rg 56 (.load (some 3) (.t 55)),0,1⟩,⟨rg 57 (.call 570 [(.t 51),(.t 52),(.t 56)]),0,1⟩,⟨mv 50 57,0,1⟩,⟨rg 58 (.ext (.t 50) 0),0,1⟩,⟨rg 59 (.ext (.t 50) 1),0,1⟩,⟨rg 11 (.alloc [(.i .i64 0),(.i .i64 0),(.i .i64 0),(.i .i64 0)]),0,1⟩,⟨mv 10 58,1,1⟩,⟨so (.store 4 (.t 11) (.t 59)),1,2⟩])
 (.seq
 (.reg [rg 60 (.load (some 4) (.t 11)),rg 61 (.build [(.i .i64 0),(.i .i64 0),(.i .i64 0),(.i .i64 0)] []),rg 62 (.eqs false [(0,.int),(1,.int),(2,.int),(3,.int)] (.t 60) (.t 61)),mv 63 62,gd 64 63 true (.mov (.t 10)),gd 65 63 true (.mov (.t 8)),gd 66 63 true (.mov (.t 9)),gd 67 63 true (.iad 1 (.t 65) (.t 66)),gd 68 63 true (.load none (.t 67)),gd 69 63 true (.call 265 [(.t 64),(.t 68)]),gd 70 63 true (.un .not (.t 69)),rg 71 (.pick (.t 63) (.t 70) (.c (.b false))),mv 72 71,gd 73 72 false (.fad 0 (.t 11)),gd 74 72 false (.load none (.t 73)),gd 75 72 false (.bin .eql (.t 74) (.c (.i .i64 7))),rg 76 (.pick (.t 72) (.c (.b true)) (.t 75))])
 (.cond (.t 76)
 (.seq
 (.reg [rg 4 (.mov (.c (.b false)))])
 (.pre (.norm false [4]) .ret))
 .skip))))
 (.reg [mv 48 9,rg 49 (.bin .add (.t 48) (.c (.i .i64 1))),mv 9 49])))
 (.norm false [5,6,7,8,9]))
def b567:AX:=
 (.seq
 (.reg [rg 2 (.xop (.box 11) [(.t 0)]),rg 3 (.xop (.box 5) [(.t 1)]),rg 4 (.mov (.c (.b false)))])
 (.seq
 (.seq
 (.reg [rg 12 (.load (some 11) (.t 2)),rg 13 (.call 496 [(.t 12),(.c (.i .i64 10)),(.c (.i .i64 4)),(.c (.i .i64 2))]),mv 14 13,gd 15 14 false (.fad 10 (.t 2)),gd 16 14 false (.load none (.t 15)),gd 17 14 false (.bin .gtr (.t 16) (.c (.i .i64 300))),rg 18 (.pick (.t 14) (.c (.b true)) (.t 17)),mv 19 18,gd 20 19 false (.load (some 5) (.t 3)),gd 21 19 false (.call 497 [(.t 20),(.c (.i .i64 5)),(.c (.i .i64 2))]),rg 22 (.pick (.t 19) (.c (.b true)) (.t 21)),mv 23 22,gd 24 23 false (.fad 4 (.t 3)),gd 25 23 false (.load none (.t 24)),gd 26 23 false (.len (.t 25)),gd 27 23 false (.bin .gtr (.t 26) (.c (.i .i64 4))),rg 28 (.pick (.t 23) (.c (.b true)) (.t 27))])
 (.cond (.t 28)
 (.seq
 (.reg [rg 29 (.call 323 []),mv 4 29])
 (.pre (.norm false [4]) .ret))
 .skip))
 (.seq
 (.reg [rg 30 (.load (some 11) (.t 2)),rg 31 (.call 507 [(.t 30)]),rg 5 (.alloc [(.sl [] .nl),(.sl [] .nl),(.i .i64 0),(.i .i64 0),(.s []),(.sl [] .nl),(.sl [] .nl),(.sl [] .nl),(.sl [] .nl),(.sl [] .nl),(.i .i64 0)]),so (.store 11 (.t 5) (.t 31))])
 (.seq
 (.reg [rg 32 (.load (some 5) (.t 3)),rg 33 (.call 500 [(.t 32)]),rg 6 (.alloc [(.sl [] .nl),(.b false),(.sl [] .nl),(.sl [] .nl),(.sl [] .nl)]),so (.store 5 (.t 6) (.t 33))])
 (.seq
 (.reg [rg 35 (.load (some 5) (.t 6)),rg 36 (.call 513 [(.t 35)]),mv 34 36,rg 37 (.ext (.t 34) 0),rg 38 (.ext (.t 34) 1),mv 7 37,mv 8 38])
 (.seq
 (.seq
 (.reg [mv 39 7,rg 40 (.len (.t 39)),mv 41 8,rg 42 (.len (.t 41)),rg 43 (.bin .neq (.t 40) (.t 42))])
 (.cond (.t 43)
 (.seq
 (.reg [rg 4 (.mov (.c (.b false)))])
 (.pre (.norm false [4]) .ret))
 .skip))
 (.seq
 (.seq
 (.reg [rg 9 (.mov (.c (.i .i64 0)))])
 (.lp 0 (.norm false [5,6,7,8,9]) l567_0 (.norm false [])))
 (.seq
 (.reg [rg 77 (.call 323 []),mv 4 77])
 (.pre (.norm false [4]) .ret)))))))))
class CLaw41n (T:Tbl):Prop where
 h567:T 567=some ⟨2,78,[.t 4],b567,none,false⟩
section
variable{T:Tbl}[CLaw41n T]{d:Option Nat}{st:St}{xs:List AV}{ps:List Opd}{e:Env}{h:Heap}{ol:List Heap}
theorem f567(xs:List AV)(hn:xs.length=2):callF T 567 xs=retF [.t 4] false (evX (orc T) T 0 b567 ⟨argEnv xs,[],1⟩):=zab CLaw41n.h567 hn
end
section
open Go.RowKit
def opU:AOp→List Nat
 | .call u _=>[u]
 | .ifc k _=>[1000000+k]
 | .inv _ k u _ _=>[1000000+k,u]
 | .xop (.mkf k) _ | .xop (.mkv k) _=>[1000000+k]
 | _=>[]
def cXs:AX→List Nat
 | .reg l=>l.flatMap fun o=>opU o.op
 | .draw l=>l.flatMap fun o=>opU o.ao.op
 | .drawT hd tl=>(hd.flatMap fun o=>opU o.op)++tl.flatMap fun o=>opU o.op
 | .drawM hd tl=>(hd.flatMap fun o=>opU o.op)++tl.flatMap fun o=>opU o.op
 | .seq a b=>cXs a++cXs b
 | .cond _ x y=>cXs x++cXs y
 | .block _ c | .loop c | .note c _ | .pre _ c | .scope c | .lp _ _ c _=>cXs c
 | _=>[]
structure Agr (R:Nat→Bool) (T T':Tbl) (O O':Orc):Prop where
 tbl:∀u,R u=true→T u=T' u
 call:∀u xs hb,R u=true→O.call u xs hb=O'.call u xs hb
 loop:∀k c st,(∀u∈cXs c,R u=true)→O.loop k c st=O'.loop k c st
section
variable{R:Nat→Bool}{T T':Tbl}{O O':Orc}
theorem zk3(h:Agr R T T' O O'){u:Nat}(hu:R u=true){xs:List AV}{d:Option Nat}{st:St}:callX O T u xs d st=callX O' T' u xs d st:=by
 unfold callX
 rw[h.tbl u hu]
 simp only[h.call u _ _ hu]
theorem zyz(h:Agr R T T' O O'){op:AOp}(hu:∀u∈opU op,R u=true){d:Option Nat}{st:St}:opX O T op d st=opX O' T' op d st:=by
 cases op<;>simp only[opX]
 case call u args=>exact zk3 h (hu _ (by simp[opU]))
 case ifc k x=>unfold tyNum;rw[h.tbl _ (hu _ (by simp[opU]))]
 case inv nm k u r args=>
  have e1:tyNum T k=tyNum T' k:=by unfold tyNum;rw[h.tbl _ (hu _ (by simp[opU]))]
  have e2:methsT T k=methsT T' k:=by unfold methsT;rw[h.tbl _ (hu _ (by simp[opU]))]
  have e3:funT T k=funT T' k:=by unfold funT;rw[h.tbl _ (hu _ (by simp[opU]))]
  rw[e1,e2,e3]
  simp only[zk3 h (hu u (by simp[opU]))]
 case xop k xs=>
  cases k<;>simp only
  all_goals rename_i k
  all_goals
   have e1:tyNum T k=tyNum T' k:=by unfold tyNum;rw[h.tbl _ (hu _ (by simp[opU]))]
   rw[e1]
theorem zsm(h:Agr R T T' O O'){o:AO}(hu:∀u∈opU o.op,R u=true){st:St}:stepX O T o st=stepX O' T' o st:=by
 unfold stepX gX
 simp only[zyz h hu]
theorem zgl(h:Agr R T T' O O'):∀(l:List AO),(∀o∈l,∀u∈opU o.op,R u=true)→∀st,runX O T l st=runX O' T' l st
 | [],_,st=>rfl
 | o::l,hu,st=>by
  simp only[runX]
  rw[zsm h (hu o List.mem_cons_self)]
  congr 1
  funext s
  exact zgl h l (fun o ho=>hu o (List.mem_cons_of_mem _ ho)) s
theorem zy0(h:Agr R T T' O O'){op:AOp}(hu:∀u∈opU op,R u=true){e:Env}{hp:Heap}{older:List Heap}:opD O T op e hp older=opD O' T' op e hp older:=by
 by_cases hap:∃z x0 y,op=.app z x0 y
 ·obtain⟨z,x0,y,rfl⟩:=hap
  by_cases hc:x0=.c (.sl [] .nl)
  ·subst hc;rfl
  ·rw[zm4 hc,zm4 hc]
 cases op<;>(try exact absurd ⟨_,_,_,rfl⟩ hap)<;>simp only[opD]
 case call u args=>
  rw[h.tbl _ (hu _ (by simp[opU]))]
  simp only[h.call _ _ _ (hu _ (show u∈_ by simp[opU]))]
 case ifc k x=>unfold tyNum;rw[h.tbl _ (hu _ (by simp[opU]))]
 case inv nm k u r args=>
  have e1:tyNum T k=tyNum T' k:=by unfold tyNum;rw[h.tbl _ (hu _ (by simp[opU]))]
  have e2:methsT T k=methsT T' k:=by unfold methsT;rw[h.tbl _ (hu _ (by simp[opU]))]
  rw[e1,e2,h.tbl u (hu u (by simp[opU]))]
  simp only[h.call u _ _ (hu u (by simp[opU]))]
theorem zsn(h:Agr R T T' O O'){o:AO}(hu:∀u∈opU o.op,R u=true){e:Env}{hp:Heap}{older:List Heap}:qX O T o e hp older=qX O' T' o e hp older:=by
 unfold qX
 simp only[zy0 h hu]
theorem zk4(h:Agr R T T' O O'):∀(l:List DO),(∀o∈l,∀u∈opU o.ao.op,R u=true)→∀e hp clk older pend,drawX O T l e hp clk older pend=drawX O' T' l e hp clk older pend
 | [],_,e,hp,clk,older,pend=>rfl
 | o::l,hu,e,hp,clk,older,pend=>by
  have ih:=zk4 h l (fun o ho=>hu o (List.mem_cons_of_mem _ ho))
  simp only[drawX]
  rw[zsn h (hu o List.mem_cons_self)]
  simp only[ih]
theorem zk5(h:Agr R T T' O O')(tl:List AO)(ht:∀o∈tl,∀u∈opU o.op,R u=true):∀(l:List AO),(∀o∈l,∀u∈opU o.op,R u=true)→∀e hp clk,headX O T tl l e hp clk=headX O' T' tl l e hp clk
 | [],_,e,hp,clk=>zgl h tl ht _
 | o::l,hu,e,hp,clk=>by
  have ih:=zk5 h tl ht l (fun o ho=>hu o (List.mem_cons_of_mem _ ho))
  simp only[headX]
  rw[zsn h (hu o List.mem_cons_self)]
  simp only[ih]
theorem zso(h:Agr R T T' O O'){u:Nat}(hu:R u=true){xs:List AV}{d clk:Nat}:callM O T u xs d clk=callM O' T' u xs d clk:=by
 unfold callM
 rw[h.tbl u hu]
 simp only[h.call u _ _ hu]
theorem zk6(h:Agr R T T' O O')(tl:List AO)(ht:∀o∈tl,∀u∈opU o.op,R u=true)(h0:Heap)(c0:Nat)(X:Heap):∀(l:List AO),(∀o∈l,∀u∈opU o.op,R u=true)→∀e hp clk,headM O T tl h0 c0 X l e hp clk=headM O' T' tl h0 c0 X l e hp clk
 | [],_,e,hp,clk=>zgl h tl ht _
 | o::l,hu,e,hp,clk=>by
  have ih:=zk6 h tl ht h0 c0 X l (fun o ho=>hu o (List.mem_cons_of_mem _ ho))
  simp only[headM]
  rw[zsn h (hu o List.mem_cons_self)]
  simp only[ih]
  cases hm:o.op.maker with
  | true=>rfl
  | false=>
   cases hst:o.op.isStore with
   | true=>rfl
   | false=>
   cases hl:o.op.lentN with
   | none=>rfl
   | some ua=>
    have hua:R ua.1=true:=hu o List.mem_cons_self _ (by rw[ziq hl];simp[opU])
    simp only[zso h hua]
theorem zcp(h:Agr R T T' O O')(k:Nat):∀(c:AX),(∀u∈cXs c,R u=true)→∀st,evX O T k c st=evX O' T' k c st
 | .skip,_,st=>rfl
 | .reg l,hu,st=>by
  simp only[evX]
  rw[zgl h l fun o ho u hou=>hu u (List.mem_flatMap.2 ⟨o,ho,hou⟩)]
 | .draw l,hu,st=>by
  simp only[evX]
  rw[zk4 h l fun o ho u hou=>hu u (List.mem_flatMap.2 ⟨o,ho,hou⟩)]
 | .drawT hd tl,hu,st=>by
  simp only[evX]
  rw[zk5 h tl (fun o ho u hou=>hu u (List.mem_append_right _ (List.mem_flatMap.2 ⟨o,ho,hou⟩))) hd (fun o ho u hou=>hu u (List.mem_append_left _ (List.mem_flatMap.2 ⟨o,ho,hou⟩)))]
 | .drawM hd tl,hu,st=>by
  simp only[evX]
  rw[zk6 h tl (fun o ho u hou=>hu u (List.mem_append_right _ (List.mem_flatMap.2 ⟨o,ho,hou⟩))) _ _ _ hd (fun o ho u hou=>hu u (List.mem_append_left _ (List.mem_flatMap.2 ⟨o,ho,hou⟩)))]
 | .bad,_,st=>rfl
 | .prim f,_,st=>rfl
 | .seq a b,hu,st=>by
  simp only[evX]
  rw[zcp h k a fun u hm=>hu u (List.mem_append_left _ hm)]
  congr 1
  funext r
  rw[zcp h k b fun u hm=>hu u (List.mem_append_right _ hm)]
 | .cond c x y,hu,st=>by
  simp only[evX]
  rw[zcp h k x fun u hm=>hu u (List.mem_append_left _ hm),zcp h k y fun u hm=>hu u (List.mem_append_right _ hm)]
 | .block id c,hu,st=>by
  simp only[evX]
  rw[zcp h k c hu]
 | .loop c,hu,st=>h.loop k c st hu
 | .exit id,_,st=>rfl
 | .ret,_,st=>rfl
 | .note c g,hu,st=>by
  simp only[evX]
  rw[zcp h k c hu]
 | .pre g c,hu,st=>by
  simp only[evX]
  congr 1
  funext s
  exact zcp h k c hu s
 | .scope c,hu,st=>by
  simp only[evX]
  exact zcp h k c hu st
 | .lp id g c g2,hu,st=>by
  simp only[evX,h.loop k c _ hu]
theorem zsp(hc:∀u af,R u=true→T u=some af→∀v∈cXs af.body,R v=true)(h:Agr R T T' O O'):Agr R T T' (nextO T O) (nextO T' O') where
 tbl:=h.tbl
 call u xs hb hu:=by
  simp only[nextO]
  rw[←h.tbl u hu]
  cases ht:T u with
  | none=>rfl
  | some af=>
   simp only
   rw[zcp h hb.length af.body (hc u af hu ht)]
 loop k c st hu:=by
  simp only[nextO]
  rw[zcp h k c hu]
  congr 1
  funext r
  rw[h.loop k c _ hu]
theorem zjm(ht:∀u,R u=true→T u=T' u)(hc:∀u af,R u=true→T u=some af→∀v∈cXs af.body,R v=true):∀n,Agr R T T' (orcN T n) (orcN T' n)
 | 0=>⟨ht,fun _ _ _ _=>rfl,fun _ _ _ _=>rfl⟩
 | n+1=>zsp hc (zjm ht hc n)
theorem zy3(ht:∀u,R u=true→T u=T' u)(hc:∀u af,R u=true→T u=some af→∀v∈cXs af.body,R v=true):Agr R T T' (orc T) (orc T'):=by
 refine⟨ht,fun u xs hb hu=>?_,fun k c st hu=>?_⟩
 ·simp only[orc]
  congr 1
  funext n
  exact(zjm ht hc n).call u xs hb hu
 ·simp only[orc]
  congr 1
  funext n
  exact(zjm ht hc n).loop k c st hu
end
theorem zdk{l:List (Nat×AFx)}{u:Nat}{af:AFx}(h:l.lookup u=some af):(u,af)∈l:=by
 induction l with
 | nil=>cases h
 | cons q l ih=>
  obtain⟨q1,q2⟩:=q
  simp only[List.lookup_cons]at h
  split at h
  ·rename_i he
   have:=eq_of_beq he
   subst this
   cases h
   exact List.mem_cons_self
  ·exact List.mem_cons_of_mem _ (ih h)
structure Part (l l':List (Nat×AFx)):Prop where
 sub:∀p∈l',l.lookup p.1=some p.2
 clo:(l'.all fun p=>(cXs p.2.body).all fun v=>(l'.lookup v).isSome || (l.lookup v).isNone)=true
theorem Part.agr{l l':List (Nat×AFx)}(h:Part l l'):Agr (fun u=>(l'.lookup u).isSome || (l.lookup u).isNone) (fun u=>l.lookup u) (fun u=>l'.lookup u) (orc fun u=>l.lookup u) (orc fun u=>l'.lookup u):=by
 refine zy3 (fun v hv=>?_) (fun v a hv hva w hw=>?_)
 ·cases hv2:l'.lookup v with
  | none=>
   simp only[hv2]at hv
   cases hv3:l.lookup v with
   | none=>rfl
   | some a=>rw[hv3]at hv;cases hv
  | some a=>exact h.sub _ (zdk hv2)
 ·cases hv2:l'.lookup v with
  | none=>simp only[hv2,hva]at hv;cases hv
  | some b=>
   have hb:=zdk hv2
   have h1:=h.sub _ hb
   simp only at hva h1
   rw[hva]at h1
   cases h1
   exact List.all_eq_true.1 (List.all_eq_true.1 h.clo _ hb) w hw
theorem Part.ev{l l':List (Nat×AFx)}(h:Part l l'){c:AX}(hc:((cXs c).all fun v=>(l'.lookup v).isSome)=true){st:St}{r:Option (Ex×St)}
  (he:evX (orc fun u=>l.lookup u) (fun u=>l.lookup u) 0 c st=r):evX (orc fun u=>l'.lookup u) (fun u=>l'.lookup u) 0 c st=r:=by
 rw[←zcp h.agr 0 c (fun v hv=>by rw[List.all_eq_true.1 hc v hv];rfl) st]
 exact he
theorem Part.call{l l':List (Nat×AFx)}(h:Part l l'){u:Nat}(hu:(l'.lookup u).isSome=true){xs:List AV}{r:Option AV}(he:callF (fun u=>l.lookup u) u xs=r):callF (fun u=>l'.lookup u) u xs=r:=by
 rw[←he]
 unfold callF
 rw[h.agr.call u xs [] (by rw[hu];rfl)]
end
end Go.Ab