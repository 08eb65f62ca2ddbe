/-
  A calculus of values, boxes and code, and what functions of the program compute, proved in it.
  Conditions: none beyond those that the theorems state. (Part 5.)
-/
import Derived.Test.YtfgfjicelfagcaaGreatDoorPart4

set_option linter.unusedSectionVars false
set_option linter.unusedVariables false
set_option linter.unusedSimpArgs false
set_option linter.unnecessarySimpa false

namespace Go.Ab
def l644_0:AX:=
 (.note
 (.seq
 (.reg [rg 30 (.bin .lss (.t 29) (.t 28))])
 (.seq
 (.cond (.t 30)
 .skip
 (.exit 0))
 (.seq
 (.block 1
 (.seq
 (.reg [rg 31 (.iad 2 (.t 27) (.t 29)),rg 32 (.load (some 2) (.t 31)),rg 10 (.alloc [(.s []),(.sl [] .nl)]),so (.store 2 (.t 10) (.t 32))])
 (.drawN [⟨mv 33 8,0,1⟩,⟨mv 34 8,0,0⟩,⟨rg 35 (.nilc (.t 34)),0,0⟩,⟨rg 36 (.fad 2 (.t 35)),0,0⟩,⟨rg 37 (.load none (.t 36)),0,0⟩,⟨mv 38 8,0,0⟩,⟨rg 39 (.fad 1 (.t 10)),0,0⟩,⟨rg 40 (.load none (.t 39)),0,0⟩]
 (rg 41 (.call 648 [(.t 38),(.t 40)]))
 [⟨rg 42 (.bsl 1 [(.i .i64 0)] 1 [(0,(.t 41))]),0,0⟩,⟨rg 43 (.app 1 (.t 37) (.t 42)),0,1⟩,⟨rg 44 (.nilc (.t 33)),1,1⟩,⟨rg 45 (.fad 2 (.t 44)),1,1⟩,⟨so (.store 1 (.t 45) (.t 43)),1,2⟩])))
 (.reg [rg 46 (.bin .add (.t 29) (.c (.i .i64 1))),mv 29 46]))))
 (.norm false [1,2,4,6,8,27,28,29]))
def l644_1:AX:=
 (.note
 (.seq
 (.reg [rg 56 (.bin .lss (.t 55) (.t 54))])
 (.seq
 (.cond (.t 56)
 .skip
 (.exit 2))
 (.seq
 (.block 3
 (.seq
 (.reg [rg 57 (.iad 1 (.t 53) (.t 55)),rg 58 (.load none (.t 57)),mv 13 58])
 (.drawC [rg 59 (.fad 1 (.t 11)),rg 60 (.load none (.t 59)),mv 61 8,mv 62 13]
 (rg 63 (.call 648 [(.t 61),(.t 62)]))
 [rg 64 (.bsl 1 [(.i .i64 0)] 1 [(0,(.t 63))])]
 [rg 65 (.app 1 (.t 60) (.t 64)),rg 66 (.fad 1 (.t 11)),so (.store 1 (.t 66) (.t 65))])))
 (.reg [rg 67 (.bin .add (.t 55) (.c (.i .i64 1))),mv 55 67]))))
 (.norm false [4,6,8,11,53,54,55]))
def b644:AX:=
 (.seq
 (.reg [rg 2 (.xop (.box 2) [(.t 0)]),rg 4 (.alloc [(.sl [] .nl),(.sl [] .nl),(.i .i64 0),(.i .i64 0)]),rg 5 (.mov (.c (.sl [] .nl))),rg 6 (.alloc [(.i .i64 0),(.i .i64 0),(.i .i64 0),(.i .i64 0)])])
 (.seq
 (.seq
 (.reg [rg 14 (.load (some 2) (.t 2)),rg 15 (.fad 1 (.t 2)),rg 16 (.load none (.t 15)),rg 17 (.len (.t 16)),mv 18 1,rg 19 (.call 477 [(.t 14),(.t 17),(.t 18)]),rg 7 (.alloc [(.i .i64 0),(.i .i64 0),(.i .i64 0),(.i .i64 0)]),so (.store 4 (.t 7) (.t 19))])
 (.seq
 (.reg [rg 20 (.load (some 4) (.t 7)),rg 21 (.build [(.i .i64 0),(.i .i64 0),(.i .i64 0),(.i .i64 0)] []),rg 22 (.eqs true [(0,.int),(1,.int),(2,.int),(3,.int)] (.t 20) (.t 21))])
 (.cond (.t 22)
 (.seq
 (.draw [⟨rg 23 (.build [(.sl [] .nl),(.sl [] .nl),(.i .i64 0),(.i .i64 0)] []),0,0⟩,⟨rg 24 (.load (some 4) (.t 7)),0,1⟩,⟨so (.store 4 (.t 4) (.t 23)),0,1⟩,⟨rg 5 (.mov (.c (.sl [] .nl))),1,1⟩,⟨so (.store 4 (.t 6) (.t 24)),1,2⟩])
 (.pre (.norm false [4,5,6]) .ret))
 .skip)))
 (.seq
 (.note (.note (.note (.reg [rg 25 (.call 647 []),mv 8 25]) (.fld 8 0 0 6)) (.fld 8 0 2 1)) (.fld 8 0 3 1))
 (.seq
 (.seq
 (.reg [rg 26 (.fad 0 (.t 2)),rg 27 (.load none (.t 26)),rg 28 (.len (.t 27)),rg 29 (.mov (.c (.i .i64 0)))])
 (.lp 0 (.norm false [1,2,4,6,8,27,28,29]) l644_0 (.norm false [1,2,4,6,8])))
 (.seq
 (.note (.reg [rg 47 (.fad 1 (.t 2)),rg 48 (.load none (.t 47)),rg 49 (.len (.t 48)),mv 50 1,rg 51 (.build [(.sl [] .nl),(.sl [] .nl),(.i .i64 0),(.i .i64 0)] [(2,1,(.t 49)),(3,1,(.t 50))]),rg 11 (.alloc [(.sl [] .nl),(.sl [] .nl),(.i .i64 0),(.i .i64 0)]),so (.store 4 (.t 11) (.t 51))]) (.fld 11 0 1 1))
 (.seq
 (.seq
 (.reg [rg 52 (.fad 1 (.t 2)),rg 53 (.load none (.t 52)),rg 54 (.len (.t 53)),rg 55 (.mov (.c (.i .i64 0)))])
 (.lp 2 (.norm false [4,6,8,11,53,54,55]) l644_1 (.norm false [4,6,8,11])))
 (.seq
 (.reg [mv 68 8,rg 69 (.nilc (.t 68)),rg 70 (.fad 0 (.t 69)),rg 71 (.load none (.t 70)),rg 72 (.fad 0 (.t 11)),so (.store 1 (.t 72) (.t 71))])
 (.seq
 (.draw [⟨rg 73 (.load (some 4) (.t 11)),0,0⟩,⟨mv 74 8,0,1⟩,⟨rg 75 (.nilc (.t 74)),0,1⟩,⟨rg 76 (.fad 3 (.t 75)),0,1⟩,⟨rg 77 (.load none (.t 76)),0,1⟩,⟨rg 78 (.build [(.i .i64 0),(.i .i64 0),(.i .i64 0),(.i .i64 0)] []),0,1⟩,⟨so (.store 4 (.t 4) (.t 73)),0,1⟩,⟨mv 5 77,1,1⟩,⟨so (.store 4 (.t 6) (.t 78)),1,2⟩])
 (.pre (.norm false [4,5,6]) .ret)))))))))
def l645_0:AX:=
 (.note
 (.seq
 (.reg [rg 33 (.bin .lss (.t 32) (.t 31))])
 (.seq
 (.cond (.t 33)
 .skip
 (.exit 2))
 (.seq
 (.block 3
 (.seq
 (.reg [rg 34 (.iad 3 (.t 30) (.t 32)),rg 35 (.load (some 3) (.t 34)),rg 12 (.alloc [(.i .i64 0),(.i .i64 0),(.sl [] .nl)]),so (.store 3 (.t 12) (.t 35))])
 (.seq
 (.reg [rg 36 (.fad 0 (.t 12)),rg 37 (.load none (.t 36)),rg 38 (.bin .neq (.t 37) (.c (.i .i64 5)))])
 (.cond (.t 38)
 (.reg [mv 39 8,rg 40 (.bin .add (.t 39) (.c (.i .i64 1))),mv 8 40])
 .skip))))
 (.reg [rg 41 (.bin .add (.t 32) (.c (.i .i64 1))),mv 32 41]))))
 (.norm false [5,8,24,25,26,30,31,32]))
def l645_1:AX:=
 (.note
 (.seq
 (.reg [rg 27 (.bin .lss (.t 26) (.t 25))])
 (.seq
 (.cond (.t 27)
 .skip
 (.exit 0))
 (.seq
 (.block 1
 (.seq
 (.reg [rg 28 (.iad 1 (.t 24) (.t 26)),rg 29 (.load none (.t 28)),mv 10 29])
 (.seq
 (.reg [mv 30 10,rg 31 (.len (.t 30)),rg 32 (.mov (.c (.i .i64 0)))])
 (.lp 2 (.norm false [5,8,24,25,26,30,31,32]) l645_0 (.norm false [5,8,24,25,26])))))
 (.reg [rg 42 (.bin .add (.t 26) (.c (.i .i64 1))),mv 26 42]))))
 (.norm false [5,8,24,25,26]))
def b645:AX:=
 (.seq
 (.reg [rg 2 (.xop (.box 2) [(.t 0)]),rg 4 (.mov (.c (.i .i64 0)))])
 (.seq
 (.reg [rg 14 (.load (some 2) (.t 2)),mv 15 1,rg 16 (.call 644 [(.t 14),(.t 15)]),mv 13 16,rg 17 (.ext (.t 13) 0),rg 18 (.ext (.t 13) 1),rg 19 (.ext (.t 13) 2),rg 5 (.alloc [(.sl [] .nl),(.sl [] .nl),(.i .i64 0),(.i .i64 0)]),rg 7 (.alloc [(.i .i64 0),(.i .i64 0),(.i .i64 0),(.i .i64 0)]),so (.store 4 (.t 5) (.t 17)),mv 6 18,so (.store 4 (.t 7) (.t 19))])
 (.seq
 (.seq
 (.reg [rg 20 (.load (some 4) (.t 7)),rg 21 (.build [(.i .i64 0),(.i .i64 0),(.i .i64 0),(.i .i64 0)] []),rg 22 (.eqs true [(0,.int),(1,.int),(2,.int),(3,.int)] (.t 20) (.t 21))])
 (.cond (.t 22)
 (.seq
 (.reg [rg 4 (.mov (.c (.i .i64 0)))])
 (.pre (.norm false [4]) .ret))
 .skip))
 (.seq
 (.reg [rg 8 (.mov (.c (.i .i64 0)))])
 (.seq
 (.seq
 (.reg [rg 23 (.load (some 2) (.t 2)),rg 24 (.call 493 [(.t 23)]),rg 25 (.len (.t 24)),rg 26 (.mov (.c (.i .i64 0)))])
 (.lp 0 (.norm false [5,8,24,25,26]) l645_1 (.norm false [5,8])))
 (.seq
 (.reg [mv 43 8,rg 44 (.fad 0 (.t 5)),rg 45 (.load none (.t 44)),rg 46 (.len (.t 45)),rg 47 (.bin .sub (.t 43) (.t 46)),mv 4 47])
 (.pre (.norm false [4]) .ret)))))))
def l646_0:AX:=
 (.note
 (.seq
 (.reg [rg 55 (.bin .lss (.t 54) (.t 53))])
 (.seq
 (.cond (.t 55)
 .skip
 (.exit 0))
 (.seq
 (.block 1
 (.reg [rg 56 (.fad 1 (.t 11)),rg 57 (.load none (.t 56)),mv 58 10,rg 59 (.bsl 1 [(.i .i64 0)] 1 [(0,(.t 58))]),rg 60 (.app 1 (.t 57) (.t 59)),rg 61 (.fad 1 (.t 11)),so (.store 1 (.t 61) (.t 60))]))
 (.reg [rg 62 (.bin .add (.t 54) (.c (.i .i64 1))),mv 54 62]))))
 (.norm false [6,7,10,11,53,54]))
def b646:AX:=
 (.seq
 (.reg [rg 6 (.alloc [(.sl [] .nl),(.sl [] .nl),(.i .i64 0),(.i .i64 0)]),rg 7 (.alloc [(.i .i64 0),(.i .i64 0),(.i .i64 0),(.i .i64 0)])])
 (.seq
 (.seq
 (.reg [mv 12 1,rg 13 (.bin .lss (.t 12) (.c (.i .i64 1))),mv 14 13,gd 15 14 false (.mov (.t 1)),gd 16 14 false (.bin .gtr (.t 15) (.c (.i .i64 6))),rg 17 (.pick (.t 14) (.c (.b true)) (.t 16)),mv 18 17,gd 19 18 false (.mov (.t 2)),gd 20 18 false (.bin .lss (.t 19) (.c (.i .i64 0))),rg 21 (.pick (.t 18) (.c (.b true)) (.t 20)),mv 22 21,gd 23 22 false (.mov (.t 2)),gd 24 22 false (.bin .gtr (.t 23) (.c (.i .i64 6))),rg 25 (.pick (.t 22) (.c (.b true)) (.t 24)),mv 26 25,gd 27 26 false (.mov (.t 0)),gd 28 26 false (.len (.t 27)),gd 29 26 false (.bin .gtr (.t 28) (.c (.i .i64 300))),rg 30 (.pick (.t 26) (.c (.b true)) (.t 29))])
 (.cond (.t 30)
 (.seq
 (.reg [rg 31 (.build [(.sl [] .nl),(.sl [] .nl),(.i .i64 0),(.i .i64 0)] []),rg 32 (.build [(.i .i64 0),(.i .i64 0),(.i .i64 0),(.i .i64 0)] [(0,1,(.c (.i .i64 2)))]),so (.store 4 (.t 6) (.t 31)),so (.store 4 (.t 7) (.t 32))])
 (.pre (.norm false [6,7]) .ret))
 .skip))
 (.seq
 (.seq
 (.reg [mv 33 0,mv 34 1,mv 35 2,rg 36 (.call 46 [(.t 33),(.t 34),(.t 35),(.c (.i .i64 0))]),mv 8 36])
 (.seq
 (.reg [mv 37 8,rg 38 (.bin .geq (.t 37) (.c (.i .i64 0)))])
 (.cond (.t 38)
 (.seq
 (.reg [rg 39 (.build [(.sl [] .nl),(.sl [] .nl),(.i .i64 0),(.i .i64 0)] []),mv 40 8,rg 41 (.build [(.i .i64 0),(.i .i64 0),(.i .i64 0),(.i .i64 0)] [(0,1,(.c (.i .i64 2))),(3,1,(.t 40))]),so (.store 4 (.t 6) (.t 39)),so (.store 4 (.t 7) (.t 41))])
 (.pre (.norm false [6,7]) .ret))
 .skip)))
 (.seq
 (.note (.note (.note (.reg [rg 42 (.call 647 []),mv 9 42]) (.fld 9 0 0 6)) (.fld 9 0 2 1)) (.fld 9 0 3 1))
 (.seq
 (.reg [mv 43 9,mv 44 0,rg 45 (.call 648 [(.t 43),(.t 44)]),mv 10 45])
 (.seq
 (.note (.reg [mv 46 9,rg 47 (.nilc (.t 46)),rg 48 (.fad 0 (.t 47)),rg 49 (.load none (.t 48)),mv 50 1,mv 51 2,rg 52 (.build [(.sl [] .nl),(.sl [] .nl),(.i .i64 0),(.i .i64 0)] [(0,1,(.t 49)),(2,1,(.t 50)),(3,1,(.t 51))]),rg 11 (.alloc [(.sl [] .nl),(.sl [] .nl),(.i .i64 0),(.i .i64 0)]),so (.store 4 (.t 11) (.t 52))]) (.fld 11 0 1 1))
 (.seq
 (.seq
 (.reg [mv 53 1,rg 54 (.mov (.c (.i .i64 0)))])
 (.lp 0 (.norm false [6,7,10,11,53,54]) l646_0 (.norm false [6,7,11])))
 (.seq
 (.reg [rg 63 (.load (some 4) (.t 11)),rg 64 (.build [(.i .i64 0),(.i .i64 0),(.i .i64 0),(.i .i64 0)] []),so (.store 4 (.t 6) (.t 63)),so (.store 4 (.t 7) (.t 64))])
 (.pre (.norm false [6,7]) .ret)))))))))
def b647:AX:=
 (.seq
 (.reg [rg 0 (.mov (.c (.raw (.pointer none))))])
 (.seq
 (.reg [rg 1 (.xop .mmap []),rg 2 (.build [(.sl [] .nl),(.raw (.map none)),(.sl [] .nl),(.sl [] .nl)] [(1,1,(.t 1))]),rg 3 (.xop (.box 4) [(.t 2)]),mv 0 3])
 (.pre (.norm true [0]) .ret)))
def l648_0:AX:=
 (.note
 (.seq
 (.reg [rg 12 (.bin .lss (.t 11) (.t 10))])
 (.seq
 (.cond (.t 12)
 .skip
 (.exit 0))
 (.seq
 (.block 1
 (.seq
 (.reg [rg 13 (.iad 3 (.t 9) (.t 11)),rg 14 (.load (some 3) (.t 13)),rg 7 (.alloc [(.i .i64 0),(.i .i64 0),(.sl [] .nl)]),so (.store 3 (.t 7) (.t 14))])
 (.seq
 (.reg [mv 15 0,rg 16 (.load (some 3) (.t 7)),mv 17 5,rg 18 (.call 649 [(.t 15),(.t 16),(.t 17)]),mv 8 18])
 (.seq
 (.reg [mv 19 0,mv 20 0,rg 21 (.nilc (.t 20)),rg 22 (.fad 3 (.t 21)),rg 23 (.load none (.t 22)),mv 24 8,rg 25 (.bsl 1 [(.i .i64 0)] 1 [(0,(.t 24))]),rg 26 (.app 1 (.t 23) (.t 25)),rg 27 (.nilc (.t 19)),rg 28 (.fad 3 (.t 27)),so (.store 1 (.t 28) (.t 26))])
 (.reg [mv 29 5,mv 30 5,rg 31 (.len (.t 30)),rg 32 (.fad 0 (.t 7)),rg 33 (.load none (.t 32)),rg 34 (.call 76 [(.t 33)]),rg 35 (.bin .sub (.t 31) (.t 34)),rg 36 (.slc 1 (.t 29) none (some (.t 35)) none),mv 37 8,rg 38 (.bsl 1 [(.i .i64 0)] 1 [(0,(.t 37))]),rg 39 (.app 1 (.t 36) (.t 38)),mv 5 39])))))
 (.reg [rg 40 (.bin .add (.t 11) (.c (.i .i64 1))),mv 11 40]))))
 (.norm false [0,5,9,10,11]))
def b648:AX:=
 (.seq
 (.reg [rg 4 (.mov (.c (.i .i64 0)))])
 (.seq
 (.note (.reg [rg 5 (.mov (.c (.sl [] .nl)))]) (.nil 5 1))
 (.seq
 (.seq
 (.reg [mv 9 1,rg 10 (.len (.t 9)),rg 11 (.mov (.c (.i .i64 0)))])
 (.lp 0 (.norm false [0,5,9,10,11]) l648_0 (.norm false [5])))
 (.seq
 (.reg [mv 41 5,rg 42 (.iad 1 (.t 41) (.c (.i .i64 0))),rg 43 (.load none (.t 42)),mv 4 43])
 (.pre (.norm false [4]) .ret)))))
def b649:AX:=
 (.seq
 (.reg [rg 4 (.xop (.box 3) [(.t 1)]),rg 6 (.mov (.c (.i .i64 0)))])
 (.seq
 (.reg [mv 8 2,rg 9 (.len (.t 8)),mv 7 9])
 (.seq
 (.block 0
 (.seq
 (.reg [rg 11 (.fad 0 (.t 4)),rg 12 (.load none (.t 11)),rg 13 (.bin .eql (.t 12) (.c (.i .i64 5))),mv 10 13])
 (.cond (.t 10)
 (.seq
 (.drawT [mv 14 0,rg 15 (.nilc (.t 14)),rg 16 (.fad 2 (.t 15)),rg 17 (.load none (.t 16)),rg 18 (.fad 1 (.t 4)),rg 19 (.load none (.t 18))]
 [rg 20 (.iad 1 (.t 17) (.t 19)),rg 21 (.load none (.t 20)),mv 6 21])
 (.pre (.norm false [6]) .ret))
 (.seq
 (.reg [rg 23 (.fad 0 (.t 4)),rg 24 (.load none (.t 23)),rg 25 (.call 76 [(.t 24)]),rg 26 (.bin .eql (.t 25) (.c (.i .i64 0))),mv 22 26])
 (.cond (.t 22)
 (.seq
 (.reg [mv 27 0,rg 28 (.load (some 3) (.t 4)),rg 29 (.call 651 [(.t 28)]),rg 30 (.call 650 [(.t 27),(.t 29)]),mv 6 30])
 (.pre (.norm false [6]) .ret))
 (.seq
 (.reg [rg 32 (.fad 0 (.t 4)),rg 33 (.load none (.t 32)),rg 34 (.call 76 [(.t 33)]),rg 35 (.bin .eql (.t 34) (.c (.i .i64 1))),mv 31 35])
 (.cond (.t 31)
 (.seq
 (.drawT [mv 36 0,rg 37 (.fad 0 (.t 4)),rg 38 (.load none (.t 37)),mv 39 2,mv 40 7,rg 41 (.bin .sub (.t 40) (.c (.i .i64 1))),rg 42 (.iad 1 (.t 39) (.t 41)),rg 43 (.load none (.t 42)),rg 44 (.fad 1 (.t 4)),rg 45 (.load none (.t 44)),rg 46 (.build [(.i .i64 0),(.i .i64 0),(.i .i64 0),(.b false),(.sl [] .nl),(.sl [] .nl)] [(0,1,(.t 38)),(1,1,(.t 43)),(2,1,(.t 45))])]
 [rg 47 (.call 650 [(.t 36),(.t 46)]),mv 6 47])
 (.pre (.norm false [6]) .ret))
 .skip)))))))
 (.seq
 (.drawT [mv 48 0,rg 49 (.fad 0 (.t 4)),rg 50 (.load none (.t 49)),mv 51 2,mv 52 7,rg 53 (.bin .sub (.t 52) (.c (.i .i64 2))),rg 54 (.iad 1 (.t 51) (.t 53)),rg 55 (.load none (.t 54)),mv 56 2,mv 57 7,rg 58 (.bin .sub (.t 57) (.c (.i .i64 1))),rg 59 (.iad 1 (.t 56) (.t 58)),rg 60 (.load none (.t 59)),rg 61 (.build [(.i .i64 0),(.i .i64 0),(.i .i64 0),(.b false),(.sl [] .nl),(.sl [] .nl)] [(0,1,(.t 50)),(1,1,(.t 55)),(2,1,(.t 60))])]
 [rg 62 (.call 650 [(.t 48),(.t 61)]),mv 6 62])
 (.pre (.norm false [6]) .ret)))))
def b650:AX:=
 (.seq
 (.reg [rg 3 (.xop (.box 6) [(.t 1)]),rg 4 (.mov (.c (.i .i64 0)))])
 (.seq
 (.reg [rg 8 (.fad 0 (.t 3)),rg 9 (.load none (.t 8)),rg 10 (.fad 1 (.t 3)),rg 11 (.load none (.t 10)),rg 12 (.fad 2 (.t 3)),rg 13 (.load none (.t 12)),rg 14 (.build [(.i .i64 0),(.i .i64 0),(.i .i64 0),(.s [])] [(0,1,(.t 9)),(1,1,(.t 11)),(2,1,(.t 13)),(3,1,(.c (.s [])))]),rg 5 (.alloc [(.i .i64 0),(.i .i64 0),(.i .i64 0),(.s [])]),so (.store 4 (.t 5) (.t 14))])
 (.seq
 (.seq
 (.reg [rg 15 (.fad 0 (.t 3)),rg 16 (.load none (.t 15)),rg 17 (.bin .eql (.t 16) (.c (.i .i64 1)))])
 (.cond (.t 17)
 (.reg [rg 18 (.fad 3 (.t 3)),rg 19 (.fad 0 (.t 18)),rg 20 (.fad 1 (.t 19)),rg 21 (.load none (.t 20)),rg 22 (.call 68 [(.t 21)]),rg 23 (.fad 3 (.t 5)),so (.store 1 (.t 23) (.t 22))])
 .skip))
 (.seq
 (.seq
 (.drawT [mv 25 0,rg 26 (.nilc (.t 25)),rg 27 (.fad 1 (.t 26)),rg 28 (.load none (.t 27)),rg 29 (.load (some 4) (.t 5)),rg 30 (.look (.fs [(0,.int),(1,.int),(2,.int),(3,.str)]) (.i .i64 0) true (.t 28) (.t 29)),mv 24 30,rg 31 (.ext (.t 24) 0),rg 32 (.ext (.t 24) 1),mv 6 31]
 [mv 7 32])
 (.seq
 (.reg [mv 33 7])
 (.cond (.t 33)
 (.seq
 (.reg [mv 34 6,mv 4 34])
 (.pre (.norm false [4]) .ret))
 .skip)))
 (.seq
 (.drawT [mv 35 0,rg 36 (.nilc (.t 35)),rg 37 (.fad 1 (.t 36)),rg 38 (.load none (.t 37)),rg 39 (.load (some 4) (.t 5)),mv 40 0,rg 41 (.nilc (.t 40)),rg 42 (.fad 0 (.t 41)),rg 43 (.load none (.t 42)),rg 44 (.len (.t 43))]
 [so (.xop (.mupd (.fs [(0,.int),(1,.int),(2,.int),(3,.str)])) [(.t 38),(.t 39),(.t 44)])])
 (.seq
 (.draw [⟨mv 45 0,0,1⟩,⟨mv 46 0,0,0⟩,⟨rg 47 (.nilc (.t 46)),0,0⟩,⟨rg 48 (.fad 0 (.t 47)),0,0⟩,⟨rg 49 (.load none (.t 48)),0,0⟩,⟨rg 50 (.load (some 6) (.t 3)),0,0⟩,⟨rg 51 (.bsl 6 [(.i .i64 0),(.i .i64 0),(.i .i64 0),(.b false),(.sl [] .nl),(.sl [] .nl)] 1 [(0,(.t 50))]),0,0⟩,⟨rg 52 (.app 6 (.t 49) (.t 51)),0,1⟩,⟨rg 53 (.nilc (.t 45)),1,1⟩,⟨rg 54 (.fad 0 (.t 53)),1,1⟩,⟨so (.store 1 (.t 54) (.t 52)),1,2⟩])
 (.seq
 (.reg [mv 55 0,rg 56 (.nilc (.t 55)),rg 57 (.fad 0 (.t 56)),rg 58 (.load none (.t 57)),rg 59 (.len (.t 58)),rg 60 (.bin .sub (.t 59) (.c (.i .i64 1))),mv 4 60])
 (.pre (.norm false [4]) .ret))))))))
def b651:AX:=
 (.seq
 (.reg [rg 1 (.xop (.box 3) [(.t 0)]),rg 2 (.alloc [(.i .i64 0),(.i .i64 0),(.i .i64 0),(.b false),(.sl [] .nl),(.sl [] .nl)])])
 (.seq
 (.seq
 (.reg [rg 5 (.fad 0 (.t 1)),rg 6 (.load none (.t 5))])
 (.block 0
 (.seq
 (.reg [rg 8 (.bin .eql (.t 6) (.c (.i .i64 1))),mv 7 8])
 (.cond (.t 7)
 (.seq
 (.reg [rg 10 (.fad 2 (.t 1)),rg 11 (.load none (.t 10)),rg 12 (.build [(.b false),(.sl [] .nl)] [(1,1,(.t 11))]),rg 13 (.bsl 1 [(u32 0)] 1 [(0,(.c (u32 1)))]),rg 14 (.call 204 [(.t 12),(.t 13)]),mv 9 14,rg 15 (.ext (.t 9) 0),rg 16 (.ext (.t 9) 1),rg 3 (.alloc [(.b false),(.sl [] .nl),(.sl [] .nl)]),so (.store 3 (.t 3) (.t 15)),mv 4 16])
 (.seq
 (.reg [rg 17 (.load (some 3) (.t 3)),rg 18 (.build [(.i .i64 0),(.i .i64 0),(.i .i64 0),(.b false),(.sl [] .nl),(.sl [] .nl)] [(0,1,(.c (.i .i64 1))),(3,3,(.t 17))]),so (.store 6 (.t 2) (.t 18))])
 (.pre (.norm false [2]) .ret)))
 (.seq
 (.reg [rg 20 (.bin .eql (.t 6) (.c (.i .i64 2))),mv 19 20])
 (.cond (.t 19)
 (.seq
 (.reg [rg 21 (.build [(.i .i64 0),(.i .i64 0),(.i .i64 0),(.b false),(.sl [] .nl),(.sl [] .nl)] [(0,1,(.c (.i .i64 2)))]),so (.store 6 (.t 2) (.t 21))])
 (.pre (.norm false [2]) .ret))
 .skip))))))
 (.seq
 (.reg [rg 22 (.fad 0 (.t 1)),rg 23 (.load none (.t 22)),rg 24 (.fad 1 (.t 1)),rg 25 (.load none (.t 24)),rg 26 (.build [(.i .i64 0),(.i .i64 0),(.i .i64 0),(.b false),(.sl [] .nl),(.sl [] .nl)] [(0,1,(.t 23)),(1,1,(.t 25))]),so (.store 6 (.t 2) (.t 26))])
 (.pre (.norm false [2]) .ret))))
class CComp (T:Tbl):Prop where
 h644:T 644=some ⟨2,79,[.cell 4 (some 4),.t 5,.cell 6 (some 4)],b644,none,false⟩
 h645:T 645=some ⟨2,48,[.t 4],b645,none,false⟩
 h646:T 646=some ⟨3,65,[.cell 6 (some 4),.cell 7 (some 4)],b646,none,false⟩
 h647:T 647=some ⟨0,4,[.t 0],b647,(some []),true⟩
 h648:T 648=some ⟨2,44,[.t 4],b648,(some [true,false]),false⟩
 h649:T 649=some ⟨3,63,[.t 6],b649,(some [true,false,true]),false⟩
 h650:T 650=some ⟨2,61,[.t 4],b650,(some [true,false]),false⟩
 h651:T 651=some ⟨1,27,[.cell 2 (some 6)],b651,none,false⟩
section
variable{T:Tbl}[CComp T]{d:Option Nat}{st:St}{xs:List AV}{ps:List Opd}{e:Env}{h:Heap}{ol:List Heap}
@[simp] theorem x644:callX (orc T) T 644 xs d st=cP T 644 false xs d st:=zaa CComp.h644
theorem f644(xs:List AV)(hn:xs.length=2):callF T 644 xs=retF [.cell 4 (some 4),.t 5,.cell 6 (some 4)] false (evX (orc T) T 0 b644 ⟨argEnv xs,[],1⟩):=zac CComp.h644 hn
@[simp] theorem x645:callX (orc T) T 645 xs d st=cP T 645 false xs d st:=zaa CComp.h645
theorem f645(xs:List AV)(hn:xs.length=2):callF T 645 xs=retF [.t 4] false (evX (orc T) T 0 b645 ⟨argEnv xs,[],1⟩):=zac CComp.h645 hn
@[simp] theorem x646:callX (orc T) T 646 xs d st=cP T 646 false xs d st:=zaa CComp.h646
theorem f646(xs:List AV)(hn:xs.length=3):callF T 646 xs=retF [.cell 6 (some 4),.cell 7 (some 4)] false (evX (orc T) T 0 b646 ⟨argEnv xs,[],1⟩):=zac CComp.h646 hn
@[simp] theorem x647:callX (orc T) T 647 xs d st=cL T 647 true [] xs d st:=zap CComp.h647
theorem f647(xs:List AV)(hb:Heap)(hn:xs.length=0):callH T 647 xs hb=retH [.t 0] true hb.length (evX (orc T) T hb.length b647 ⟨argEnv xs,hb,hb.length+1⟩):=zax CComp.h647 hn
@[simp] theorem x648:callX (orc T) T 648 xs d st=cL T 648 false [true,false] xs d st:=zap CComp.h648
theorem f648(xs:List AV)(hb:Heap)(hn:xs.length=2):callH T 648 xs hb=retH [.t 4] false hb.length (evX (orc T) T hb.length b648 ⟨argEnv xs,hb,hb.length+1⟩):=zax CComp.h648 hn
@[simp] theorem x649:callX (orc T) T 649 xs d st=cL T 649 false [true,false,true] xs d st:=zap CComp.h649
theorem f649(xs:List AV)(hb:Heap)(hn:xs.length=3):callH T 649 xs hb=retH [.t 6] false hb.length (evX (orc T) T hb.length b649 ⟨argEnv xs,hb,hb.length+1⟩):=zax CComp.h649 hn
@[simp] theorem x650:callX (orc T) T 650 xs d st=cL T 650 false [true,false] xs d st:=zap CComp.h650
theorem f650(xs:List AV)(hb:Heap)(hn:xs.length=2):callH T 650 xs hb=retH [.t 4] false hb.length (evX (orc T) T hb.length b650 ⟨argEnv xs,hb,hb.length+1⟩):=zax CComp.h650 hn
@[simp] theorem x651:callX (orc T) T 651 xs d st=cP T 651 false xs d st:=zaa CComp.h651
theorem f651(xs:List AV)(hn:xs.length=1):callF T 651 xs=retF [.cell 2 (some 6)] false (evX (orc T) T 0 b651 ⟨argEnv xs,[],1⟩):=zac CComp.h651 hn
end
def l656_0:AX:=
 (.note
 (.seq
 (.seq
 (.reg [mv 65 12,mv 66 1,rg 67 (.bin .lss (.t 65) (.t 66))])
 (.cond (.t 67)
 .skip
 (.exit 0)))
 (.seq
 (.block 1
 (.reg [rg 70 (.fad 1 (.t 11)),rg 71 (.load none (.t 70)),mv 72 0,rg 73 (.bsl 1 [(.sl [] .nl)] 1 [(0,(.t 72))]),rg 74 (.app 1 (.t 71) (.t 73)),rg 75 (.fad 1 (.t 11)),so (.store 1 (.t 75) (.t 74))]))
 (.reg [mv 68 12,rg 69 (.bin .add (.t 68) (.c (.i .i64 1))),mv 12 69])))
 (.norm false [0,1,2,7,8,9,11,12]))
def b656:AX:=
 (.seq
 (.reg [rg 6 (.mov (.c (.b false)))])
 (.seq
 (.seq
 (.reg [mv 15 0,rg 16 (.call 10 [(.t 15),(.c (.i .i64 60)),(.c (.i .i64 9))])])
 (.cond (.t 16)
 (.seq
 (.reg [rg 17 (.call 658 []),mv 6 17])
 (.pre (.norm false [6]) .ret))
 .skip))
 (.seq
 (.reg [mv 19 0,rg 20 (.call 13 [(.t 19)]),mv 21 1,mv 22 2,rg 23 (.call 646 [(.t 20),(.t 21),(.t 22)]),mv 18 23,rg 24 (.ext (.t 18) 0),rg 25 (.ext (.t 18) 1),rg 7 (.alloc [(.sl [] .nl),(.sl [] .nl),(.i .i64 0),(.i .i64 0)]),rg 8 (.alloc [(.i .i64 0),(.i .i64 0),(.i .i64 0),(.i .i64 0)]),so (.store 4 (.t 7) (.t 24)),so (.store 4 (.t 8) (.t 25))])
 (.seq
 (.reg [rg 26 (.build [(.i .i64 0),(.i .i64 0),(.i .i64 0),(.i .i64 0)] []),rg 9 (.alloc [(.i .i64 0),(.i .i64 0),(.i .i64 0),(.i .i64 0)]),so (.store 4 (.t 9) (.t 26))])
 (.seq
 (.reg [rg 10 (.mov (.c (.i .i64 (-1))))])
 (.seq
 (.seq
 (.reg [mv 27 1,rg 28 (.bin .lss (.t 27) (.c (.i .i64 1))),mv 29 28,gd 30 29 false (.mov (.t 1)),gd 31 29 false (.bin .gtr (.t 30) (.c (.i .i64 6))),rg 32 (.pick (.t 29) (.c (.b true)) (.t 31)),mv 33 32,gd 34 33 false (.mov (.t 2)),gd 35 33 false (.bin .lss (.t 34) (.c (.i .i64 0))),rg 36 (.pick (.t 33) (.c (.b true)) (.t 35)),mv 37 36,gd 38 37 false (.mov (.t 2)),gd 39 37 false (.bin .gtr (.t 38) (.c (.i .i64 6))),rg 40 (.pick (.t 37) (.c (.b true)) (.t 39))])
 (.cond (.t 40)
 (.reg [rg 41 (.build [(.i .i64 0),(.i .i64 0),(.i .i64 0),(.i .i64 0)] [(0,1,(.c (.i .i64 2)))]),so (.store 4 (.t 9) (.t 41))])
 (.reg [mv 42 0,mv 43 1,mv 44 2,rg 45 (.call 50 [(.t 42),(.t 43),(.t 44),(.c (.i .i64 0))]),mv 10 45])))
 (.seq
 (.seq
 (.reg [mv 46 10,rg 47 (.bin .geq (.t 46) (.c (.i .i64 0)))])
 (.cond (.t 47)
 (.reg [mv 48 10,rg 49 (.build [(.i .i64 0),(.i .i64 0),(.i .i64 0),(.i .i64 0)] [(0,1,(.c (.i .i64 2))),(3,1,(.t 48))]),so (.store 4 (.t 9) (.t 49))])
 .skip))
 (.seq
 (.seq
 (.reg [rg 50 (.load (some 4) (.t 9)),rg 51 (.build [(.i .i64 0),(.i .i64 0),(.i .i64 0),(.i .i64 0)] []),rg 52 (.eqs true [(0,.int),(1,.int),(2,.int),(3,.int)] (.t 50) (.t 51))])
 (.cond (.t 52)
 (.seq
 (.reg [rg 53 (.load (some 4) (.t 7)),rg 54 (.build [(.sl [] .nl),(.sl [] .nl),(.i .i64 0),(.i .i64 0)] []),rg 55 (.call 677 [(.t 53),(.t 54)]),mv 56 55,gd 57 56 true (.load (some 4) (.t 8)),gd 58 56 true (.load (some 4) (.t 9)),gd 59 56 true (.eqs false [(0,.int),(1,.int),(2,.int),(3,.int)] (.t 57) (.t 58)),rg 60 (.pick (.t 56) (.t 59) (.c (.b false))),mv 61 60,gd 62 61 true (.call 658 []),rg 63 (.pick (.t 61) (.t 62) (.c (.b false))),mv 6 63])
 (.pre (.norm false [6]) .ret))
 .skip))
 (.seq
 (.reg [rg 64 (.build [(.sl [] .nl),(.sl [] .nl)] []),rg 11 (.alloc [(.sl [] .nl),(.sl [] .nl)]),so (.store 2 (.t 11) (.t 64))])
 (.seq
 (.seq
 (.reg [rg 12 (.mov (.c (.i .i64 0)))])
 (.pre (.fld 11 0 1 1) (.lp 0 (.norm false [0,1,2,7,8,9,11,12]) l656_0 (.norm false [2,7,8,9,11]))))
 (.seq
 (.reg [rg 77 (.load (some 2) (.t 11)),mv 78 2,rg 79 (.call 652 [(.t 77),(.t 78)]),mv 76 79,rg 80 (.ext (.t 76) 0),rg 81 (.ext (.t 76) 1),rg 13 (.alloc [(.sl [] .nl),(.sl [] .nl),(.i .i64 0),(.i .i64 0)]),so (.store 4 (.t 13) (.t 80)),mv 14 81])
 (.seq
 (.drawT [rg 82 (.load (some 4) (.t 7)),rg 83 (.call 679 [(.t 82)]),rg 84 (.load (some 4) (.t 13)),rg 85 (.call 678 [(.t 83),(.t 84)]),mv 86 85,gd 87 86 true (.load (some 4) (.t 8)),gd 88 86 true (.load (some 4) (.t 9))]
 [gd 89 86 true (.eqs false [(0,.int),(1,.int),(2,.int),(3,.int)] (.t 87) (.t 88)),rg 90 (.pick (.t 86) (.t 89) (.c (.b false))),mv 91 90,gd 92 91 true (.call 658 []),rg 93 (.pick (.t 91) (.t 92) (.c (.b false))),mv 6 93])
 (.pre (.norm false [6]) .ret)))))))))))))
def b658:AX:=
 (.seq
 (.reg [rg 0 (.mov (.c (.b false)))])
 (.seq
 (.reg [rg 7 (.build [(.i .i64 0),(.i .i64 0),(.sl [] .nl)] [(0,1,(.c (.i .i64 2)))]),rg 8 (.bsl 1 [(u32 0)] 1 [(0,(.c (u32 1)))]),rg 9 (.build [(.i .i64 0),(.i .i64 0),(.sl [] .nl)] [(0,1,(.c (.i .i64 1))),(2,1,(.t 8))]),rg 10 (.build [(.i .i64 0),(.i .i64 0),(.sl [] .nl)] [(0,1,(.c (.i .i64 7)))]),rg 11 (.bsl 3 [(.i .i64 0),(.i .i64 0),(.sl [] .nl)] 3 [(0,(.t 7)),(1,(.t 9)),(2,(.t 10))]),mv 1 11])
 (.seq
 (.reg [rg 12 (.bsl 3 [(.i .i64 0),(.i .i64 0),(.sl [] .nl)] 0 []),mv 13 1,rg 14 (.app 3 (.t 12) (.t 13)),mv 15 1,rg 16 (.app 3 (.t 14) (.t 15)),rg 17 (.build [(.i .i64 0),(.i .i64 0),(.sl [] .nl)] [(0,1,(.c (.i .i64 9)))]),rg 18 (.bsl 3 [(.i .i64 0),(.i .i64 0),(.sl [] .nl)] 1 [(0,(.t 17))]),rg 19 (.app 3 (.t 16) (.t 18)),mv 2 19])
 (.seq
 (.reg [mv 20 2,rg 21 (.bsl 1 [(.sl [] .nl)] 1 [(0,(.t 20))]),rg 22 (.build [(.sl [] .nl),(.sl [] .nl)] [(1,1,(.t 21))]),rg 3 (.alloc [(.sl [] .nl),(.sl [] .nl)]),so (.store 2 (.t 3) (.t 22))])
 (.seq
 (.reg [rg 24 (.load (some 2) (.t 3)),rg 25 (.call 644 [(.t 24),(.c (.i .i64 0))]),mv 23 25,rg 26 (.ext (.t 23) 0),rg 27 (.ext (.t 23) 1),rg 28 (.ext (.t 23) 2),rg 4 (.alloc [(.sl [] .nl),(.sl [] .nl),(.i .i64 0),(.i .i64 0)]),rg 6 (.alloc [(.i .i64 0),(.i .i64 0),(.i .i64 0),(.i .i64 0)]),so (.store 4 (.t 4) (.t 26)),mv 5 27,so (.store 4 (.t 6) (.t 28))])
 (.seq
 (.reg [rg 29 (.load (some 4) (.t 6)),rg 30 (.build [(.i .i64 0),(.i .i64 0),(.i .i64 0),(.i .i64 0)] []),rg 31 (.eqs false [(0,.int),(1,.int),(2,.int),(3,.int)] (.t 29) (.t 30)),mv 32 31,gd 33 32 true (.fad 0 (.t 4)),gd 34 32 true (.load none (.t 33)),gd 35 32 true (.len (.t 34)),gd 36 32 true (.bin .eql (.t 35) (.c (.i .i64 4))),rg 37 (.pick (.t 32) (.t 36) (.c (.b false))),mv 38 37,gd 39 38 true (.mov (.t 5)),gd 40 38 true (.len (.t 39)),gd 41 38 true (.bin .eql (.t 40) (.c (.i .i64 7))),rg 42 (.pick (.t 38) (.t 41) (.c (.b false))),mv 43 42,gd 44 43 true (.mov (.t 5)),gd 45 43 true (.iad 1 (.t 44) (.c (.i .i64 5))),gd 46 43 true (.load none (.t 45)),gd 47 43 true (.bin .eql (.t 46) (.c (.i .i64 2))),rg 48 (.pick (.t 43) (.t 47) (.c (.b false))),mv 49 48,gd 50 49 true (.load (some 2) (.t 3)),gd 51 49 true (.call 645 [(.t 50),(.c (.i .i64 0))]),gd 52 49 true (.bin .eql (.t 51) (.c (.i .i64 3))),rg 53 (.pick (.t 49) (.t 52) (.c (.b false))),mv 0 53])
 (.pre (.norm false [0]) .ret)))))))
class CLaw25 (T:Tbl):Prop where
 h656:T 656=some ⟨3,94,[.t 6],b656,none,false⟩
 h658:T 658=some ⟨0,54,[.t 0],b658,none,false⟩
section
variable{T:Tbl}[CLaw25 T]{d:Option Nat}{st:St}{xs:List AV}{ps:List Opd}{e:Env}{h:Heap}{ol:List Heap}
theorem f656(xs:List AV)(hn:xs.length=3):callF T 656 xs=retF [.t 6] false (evX (orc T) T 0 b656 ⟨argEnv xs,[],1⟩):=zac CLaw25.h656 hn
@[simp] theorem x658:callX (orc T) T 658 xs d st=cP T 658 false xs d st:=zaa CLaw25.h658
theorem f658(xs:List AV)(hn:xs.length=0):callF T 658 xs=retF [.t 0] false (evX (orc T) T 0 b658 ⟨argEnv xs,[],1⟩):=zac CLaw25.h658 hn
end
def l652_0:AX:=
 (.note
 (.seq
 (.seq
 (.reg [mv 12 8,rg 13 (.fad 0 (.t 2)),rg 14 (.load none (.t 13)),rg 15 (.len (.t 14)),rg 16 (.bin .lss (.t 12) (.t 15))])
 (.cond (.t 16)
 .skip
 (.exit 0)))
 (.seq
 (.block 1
 (.reg [mv 19 7,rg 20 (.fad 0 (.t 2)),rg 21 (.load none (.t 20)),mv 22 8,rg 23 (.iad 2 (.t 21) (.t 22)),rg 24 (.fad 1 (.t 23)),rg 25 (.load none (.t 24)),mv 26 7,rg 27 (.call 653 [(.t 6),(.t 25),(.t 26)]),rg 28 (.bsl 1 [(.i .i64 0)] 1 [(0,(.t 27))]),rg 29 (.app 1 (.t 19) (.t 28)),mv 7 29]))
 (.reg [mv 17 8,rg 18 (.bin .add (.t 17) (.c (.i .i64 1))),mv 8 18])))
 (.norm false [1,2,4,6,7,8]))
def l652_1:AX:=
 (.note
 (.seq
 (.seq
 (.reg [mv 35 10,rg 36 (.fad 1 (.t 2)),rg 37 (.load none (.t 36)),rg 38 (.len (.t 37)),rg 39 (.bin .lss (.t 35) (.t 38))])
 (.cond (.t 39)
 .skip
 (.exit 2)))
 (.seq
 (.block 3
 (.drawC [rg 42 (.fad 1 (.t 9)),rg 43 (.load none (.t 42)),rg 44 (.fad 1 (.t 2)),rg 45 (.load none (.t 44)),mv 46 10,rg 47 (.iad 1 (.t 45) (.t 46)),rg 48 (.load none (.t 47)),mv 49 7]
 (rg 50 (.call 653 [(.t 6),(.t 48),(.t 49)]))
 [rg 51 (.bsl 1 [(.i .i64 0)] 1 [(0,(.t 50))])]
 [rg 52 (.app 1 (.t 43) (.t 51)),rg 53 (.fad 1 (.t 9)),so (.store 1 (.t 53) (.t 52))]))
 (.reg [mv 40 10,rg 41 (.bin .add (.t 40) (.c (.i .i64 1))),mv 10 41])))
 (.norm false [2,4,6,7,9,10]))
def b652:AX:=
 (.seq
 (.reg [rg 2 (.xop (.box 2) [(.t 0)]),rg 4 (.alloc [(.sl [] .nl),(.sl [] .nl),(.i .i64 0),(.i .i64 0)]),rg 5 (.mov (.c (.sl [] .nl)))])
 (.seq
 (.note (.note (.reg [rg 11 (.build [(.sl [] .nl),(.sl [] .nl)] []),rg 6 (.alloc [(.sl [] .nl),(.sl [] .nl)]),so (.store 2 (.t 6) (.t 11))]) (.fld 6 0 0 6)) (.fld 6 0 1 1))
 (.seq
 (.note (.reg [rg 7 (.mov (.c (.sl [] .nl)))]) (.nil 7 1))
 (.seq
 (.seq
 (.reg [rg 8 (.mov (.c (.i .i64 0)))])
 (.lp 0 (.norm false [1,2,4,6,7,8]) l652_0 (.norm false [1,2,4,6,7])))
 (.seq
 (.note (.reg [rg 30 (.fad 1 (.t 2)),rg 31 (.load none (.t 30)),rg 32 (.len (.t 31)),mv 33 1,rg 34 (.build [(.sl [] .nl),(.sl [] .nl),(.i .i64 0),(.i .i64 0)] [(2,1,(.t 32)),(3,1,(.t 33))]),rg 9 (.alloc [(.sl [] .nl),(.sl [] .nl),(.i .i64 0),(.i .i64 0)]),so (.store 4 (.t 9) (.t 34))]) (.fld 9 0 1 1))
 (.seq
 (.seq
 (.reg [rg 10 (.mov (.c (.i .i64 0)))])
 (.lp 2 (.norm false [2,4,6,7,9,10]) l652_1 (.norm false [4,6,9])))
 (.seq
 (.reg [rg 54 (.fad 0 (.t 6)),rg 55 (.load none (.t 54)),rg 56 (.fad 0 (.t 9)),so (.store 1 (.t 56) (.t 55))])
 (.seq
 (.draw [⟨rg 57 (.load (some 4) (.t 9)),0,0⟩,⟨rg 58 (.fad 1 (.t 6)),0,1⟩,⟨rg 59 (.load none (.t 58)),0,1⟩,⟨so (.store 4 (.t 4) (.t 57)),0,1⟩,⟨mv 5 59,1,1⟩])
 (.pre (.norm false [4,5]) .ret)))))))))
def l653_0:AX:=
 (.note
 (.seq
 (.seq
 (.reg [mv 12 8,mv 13 1,rg 14 (.len (.t 13)),rg 15 (.bin .lss (.t 12) (.t 14))])
 (.cond (.t 15)
 .skip
 (.exit 0)))
 (.seq
 (.block 1
 (.seq
 (.reg [mv 18 1,mv 19 8,rg 20 (.iad 3 (.t 18) (.t 19)),rg 21 (.load (some 3) (.t 20)),rg 9 (.alloc [(.i .i64 0),(.i .i64 0),(.sl [] .nl)]),so (.store 3 (.t 9) (.t 21))])
 (.seq
 (.reg [mv 22 7,rg 23 (.len (.t 22)),rg 24 (.fad 0 (.t 9)),rg 25 (.load none (.t 24)),rg 26 (.call 113 [(.t 25)]),rg 27 (.bin .sub (.t 23) (.t 26)),mv 10 27])
 (.seq
 (.reg [rg 11 (.mov (.c (.i .i64 0)))])
 (.seq
 (.seq
 (.reg [rg 28 (.fad 0 (.t 9)),rg 29 (.load none (.t 28)),rg 30 (.bin .eql (.t 29) (.c (.i .i64 5)))])
 (.cond (.t 30)
 (.reg [mv 31 2,rg 32 (.fad 1 (.t 9)),rg 33 (.load none (.t 32)),rg 34 (.iad 1 (.t 31) (.t 33)),rg 35 (.load none (.t 34)),mv 11 35])
 .skip))
 (.seq
 (.seq
 (.reg [rg 36 (.fad 0 (.t 9)),rg 37 (.load none (.t 36)),rg 38 (.bin .eql (.t 37) (.c (.i .i64 1)))])
 (.cond (.t 38)
 (.reg [mv 39 0,rg 40 (.fad 2 (.t 9)),rg 41 (.load none (.t 40)),rg 42 (.bsl 1 [(u32 0)] 1 [(0,(.c (u32 1)))]),rg 43 (.build [(.b false),(.sl [] .nl),(.sl [] .nl)] [(1,1,(.t 41)),(2,1,(.t 42))]),rg 44 (.call 231 [(.t 43)]),rg 45 (.build [(.i .i64 0),(.i .i64 0),(.i .i64 0),(.b false),(.sl [] .nl),(.sl [] .nl)] [(0,1,(.c (.i .i64 1))),(3,3,(.t 44))]),rg 46 (.call 654 [(.t 39),(.t 45)]),mv 11 46])
 .skip))
 (.seq
 (.seq
 (.reg [rg 47 (.fad 0 (.t 9)),rg 48 (.load none (.t 47)),rg 49 (.bin .eql (.t 48) (.c (.i .i64 2))),mv 50 49,gd 51 50 false (.fad 0 (.t 9)),gd 52 50 false (.load none (.t 51)),gd 53 50 false (.bin .eql (.t 52) (.c (.i .i64 3))),rg 54 (.pick (.t 50) (.c (.b true)) (.t 53)),mv 55 54,gd 56 55 false (.fad 0 (.t 9)),gd 57 55 false (.load none (.t 56)),gd 58 55 false (.bin .eql (.t 57) (.c (.i .i64 4))),rg 59 (.pick (.t 55) (.c (.b true)) (.t 58))])
 (.cond (.t 59)
 (.reg [mv 60 0,rg 61 (.fad 0 (.t 9)),rg 62 (.load none (.t 61)),rg 63 (.fad 1 (.t 9)),rg 64 (.load none (.t 63)),rg 65 (.build [(.i .i64 0),(.i .i64 0),(.i .i64 0),(.b false),(.sl [] .nl),(.sl [] .nl)] [(0,1,(.t 62)),(1,1,(.t 64))]),rg 66 (.call 654 [(.t 60),(.t 65)]),mv 11 66])
 .skip))
 (.seq
 (.seq
 (.reg [rg 67 (.fad 0 (.t 9)),rg 68 (.load none (.t 67)),rg 69 (.bin .eql (.t 68) (.c (.i .i64 6))),mv 70 69,gd 71 70 false (.fad 0 (.t 9)),gd 72 70 false (.load none (.t 71)),gd 73 70 false (.bin .eql (.t 72) (.c (.i .i64 11))),rg 74 (.pick (.t 70) (.c (.b true)) (.t 73))])
 (.cond (.t 74)
 (.drawT [mv 75 0,rg 76 (.fad 0 (.t 9)),rg 77 (.load none (.t 76)),mv 78 7,mv 79 10,rg 80 (.iad 1 (.t 78) (.t 79)),rg 81 (.load none (.t 80)),rg 82 (.fad 1 (.t 9)),rg 83 (.load none (.t 82)),rg 84 (.build [(.i .i64 0),(.i .i64 0),(.i .i64 0),(.b false),(.sl [] .nl),(.sl [] .nl)] [(0,1,(.t 77)),(1,1,(.t 81)),(2,1,(.t 83))])]
 [rg 85 (.call 654 [(.t 75),(.t 84)]),mv 11 85])
 .skip))
 (.seq
 (.seq
 (.reg [rg 86 (.fad 0 (.t 9)),rg 87 (.load none (.t 86)),rg 88 (.bin .geq (.t 87) (.c (.i .i64 7))),mv 89 88,gd 90 89 true (.fad 0 (.t 9)),gd 91 89 true (.load none (.t 90)),gd 92 89 true (.bin .leq (.t 91) (.c (.i .i64 10))),rg 93 (.pick (.t 89) (.t 92) (.c (.b false)))])
 (.cond (.t 93)
 (.drawT [mv 94 0,rg 95 (.fad 0 (.t 9)),rg 96 (.load none (.t 95)),mv 97 7,mv 98 10,rg 99 (.iad 1 (.t 97) (.t 98)),rg 100 (.load none (.t 99)),mv 101 7,mv 102 10,rg 103 (.bin .add (.t 102) (.c (.i .i64 1))),rg 104 (.iad 1 (.t 101) (.t 103)),rg 105 (.load none (.t 104)),rg 106 (.build [(.i .i64 0),(.i .i64 0),(.i .i64 0),(.b false),(.sl [] .nl),(.sl [] .nl)] [(0,1,(.t 96)),(1,1,(.t 100)),(2,1,(.t 105))])]
 [rg 107 (.call 654 [(.t 94),(.t 106)]),mv 11 107])
 .skip))
 (.seq
 (.reg [mv 108 0,mv 109 0,rg 110 (.nilc (.t 109)),rg 111 (.fad 1 (.t 110)),rg 112 (.load none (.t 111)),mv 113 11,rg 114 (.bsl 1 [(.i .i64 0)] 1 [(0,(.t 113))]),rg 115 (.app 1 (.t 112) (.t 114)),rg 116 (.nilc (.t 108)),rg 117 (.fad 1 (.t 116)),so (.store 1 (.t 117) (.t 115))])
 (.reg [mv 118 7,mv 119 10,rg 120 (.slc 1 (.t 118) none (some (.t 119)) none),mv 121 11,rg 122 (.bsl 1 [(.i .i64 0)] 1 [(0,(.t 121))]),rg 123 (.app 1 (.t 120) (.t 122)),mv 7 123])))))))))))
 (.reg [mv 16 8,rg 17 (.bin .add (.t 16) (.c (.i .i64 1))),mv 8 17])))
 (.norm false [0,1,2,7,8]))
def b653:AX:=
 (.seq
 (.reg [rg 6 (.mov (.c (.i .i64 0)))])
 (.seq
 (.note (.reg [rg 7 (.mov (.c (.sl [] .nl)))]) (.nil 7 1))
 (.seq
 (.seq
 (.reg [rg 8 (.mov (.c (.i .i64 0)))])
 (.lp 0 (.norm false [0,1,2,7,8]) l653_0 (.norm false [7])))
 (.seq
 (.reg [mv 124 7,rg 125 (.iad 1 (.t 124) (.c (.i .i64 0))),rg 126 (.load none (.t 125)),mv 6 126])
 (.pre (.norm false [6]) .ret)))))
def l654_0:AX:=
 (.note
 (.seq
 (.seq
 (.reg [mv 7 5,mv 8 0,rg 9 (.nilc (.t 8)),rg 10 (.fad 0 (.t 9)),rg 11 (.load none (.t 10)),rg 12 (.len (.t 11)),rg 13 (.bin .lss (.t 7) (.t 12))])
 (.cond (.t 13)
 .skip
 (.exit 0)))
 (.seq
 (.block 1
 (.seq
 (.reg [mv 16 0,rg 17 (.nilc (.t 16)),rg 18 (.fad 0 (.t 17)),rg 19 (.load none (.t 18)),mv 20 5,rg 21 (.iad 6 (.t 19) (.t 20)),rg 22 (.load (some 6) (.t 21)),rg 6 (.alloc [(.i .i64 0),(.i .i64 0),(.i .i64 0),(.b false),(.sl [] .nl),(.sl [] .nl)]),so (.store 6 (.t 6) (.t 22))])
 (.seq
 (.reg [rg 23 (.fad 0 (.t 3)),rg 24 (.load none (.t 23)),rg 25 (.fad 0 (.t 6)),rg 26 (.load none (.t 25)),rg 27 (.bin .eql (.t 24) (.t 26)),mv 28 27,gd 29 28 true (.fad 1 (.t 3)),gd 30 28 true (.load none (.t 29)),gd 31 28 true (.fad 1 (.t 6)),gd 32 28 true (.load none (.t 31)),gd 33 28 true (.bin .eql (.t 30) (.t 32)),rg 34 (.pick (.t 28) (.t 33) (.c (.b false))),mv 35 34,gd 36 35 true (.fad 2 (.t 3)),gd 37 35 true (.load none (.t 36)),gd 38 35 true (.fad 2 (.t 6)),gd 39 35 true (.load none (.t 38)),gd 40 35 true (.bin .eql (.t 37) (.t 39)),rg 41 (.pick (.t 35) (.t 40) (.c (.b false))),mv 42 41,gd 43 42 true (.fad 0 (.t 3)),gd 44 42 true (.load none (.t 43)),gd 45 42 true (.bin .neq (.t 44) (.c (.i .i64 1))),gd 46 42 true (.mov (.t 45)),gd 47 46 false (.fad 3 (.t 3)),gd 48 46 false (.load (some 3) (.t 47)),gd 49 46 false (.fad 3 (.t 6)),gd 50 46 false (.load (some 3) (.t 49)),gd 51 46 false (.call 233 [(.t 48),(.t 50)]),gd 52 42 true (.pick (.t 46) (.c (.b true)) (.t 51)),rg 53 (.pick (.t 42) (.t 52) (.c (.b false)))])
 (.cond (.t 53)
 (.seq
 (.reg [mv 54 5,mv 4 54])
 (.pre (.norm false [4]) .ret))
 .skip))))
 (.reg [mv 14 5,rg 15 (.bin .add (.t 14) (.c (.i .i64 1))),mv 5 15])))
 (.norm false [0,3,5]))
def b654:AX:=
 (.seq
 (.reg [rg 3 (.xop (.box 6) [(.t 1)]),rg 4 (.mov (.c (.i .i64 0)))])
 (.seq
 (.seq
 (.reg [rg 5 (.mov (.c (.i .i64 0)))])
 (.lp 0 (.norm false [0,3,5]) l654_0 (.norm false [0,3])))
 (.seq
 (.draw [⟨mv 55 0,0,1⟩,⟨mv 56 0,0,0⟩,⟨rg 57 (.nilc (.t 56)),0,0⟩,⟨rg 58 (.fad 0 (.t 57)),0,0⟩,⟨rg 59 (.load none (.t 58)),0,0⟩,⟨rg 60 (.load (some 6) (.t 3)),0,0⟩,⟨rg 61 (.bsl 6 [(.i .i64 0),(.i .i64 0),(.i .i64 0),(.b false),(.sl [] .nl),(.sl [] .nl)] 1 [(0,(.t 60))]),0,0⟩,⟨rg 62 (.app 6 (.t 59) (.t 61)),0,1⟩,⟨rg 63 (.nilc (.t 55)),1,1⟩,⟨rg 64 (.fad 0 (.t 63)),1,1⟩,⟨so (.store 1 (.t 64) (.t 62)),1,2⟩])
 (.seq
 (.reg [mv 65 0,rg 66 (.nilc (.t 65)),rg 67 (.fad 0 (.t 66)),rg 68 (.load none (.t 67)),rg 69 (.len (.t 68)),rg 70 (.bin .sub (.t 69) (.c (.i .i64 1))),mv 4 70])
 (.pre (.norm false [4]) .ret)))))
class CRef25 (T:Tbl):Prop where
 h652:T 652=some ⟨2,60,[.cell 4 (some 4),.t 5],b652,none,false⟩
 h653:T 653=some ⟨3,127,[.t 6],b653,(some [true,false,true]),false⟩
 h654:T 654=some ⟨2,71,[.t 4],b654,(some [true,false]),false⟩
section
variable{T:Tbl}[CRef25 T]{d:Option Nat}{st:St}{xs:List AV}{ps:List Opd}{e:Env}{h:Heap}{ol:List Heap}
@[simp] theorem x652:callX (orc T) T 652 xs d st=cP T 652 false xs d st:=zaa CRef25.h652
theorem f652(xs:List AV)(hn:xs.length=2):callF T 652 xs=retF [.cell 4 (some 4),.t 5] false (evX (orc T) T 0 b652 ⟨argEnv xs,[],1⟩):=zac CRef25.h652 hn
@[simp] theorem x653:callX (orc T) T 653 xs d st=cL T 653 false [true,false,true] xs d st:=zap CRef25.h653
theorem f653(xs:List AV)(hb:Heap)(hn:xs.length=3):callH T 653 xs hb=retH [.t 6] false hb.length (evX (orc T) T hb.length b653 ⟨argEnv xs,hb,hb.length+1⟩):=zax CRef25.h653 hn
@[simp] theorem x654:callX (orc T) T 654 xs d st=cL T 654 false [true,false] xs d st:=zap CRef25.h654
theorem f654(xs:List AV)(hb:Heap)(hn:xs.length=2):callH T 654 xs hb=retH [.t 4] false hb.length (evX (orc T) T hb.length b654 ⟨argEnv xs,hb,hb.length+1⟩):=zax CRef25.h654 hn
end
def l677_0:AX:=
 (.note
 (.seq
 (.reg [rg 43 (.bin .lss (.t 42) (.t 41))])
 (.seq
 (.cond (.t 43)
 .skip
 (.exit 0))
 (.seq
 (.block 1
 (.seq
 (.reg [mv 44 42,rg 45 (.iad 1 (.t 40) (.t 42)),rg 46 (.load none (.t 45)),mv 5 44,mv 6 46])
 (.seq
 (.reg [mv 47 6,rg 48 (.fad 1 (.t 3)),rg 49 (.load none (.t 48)),mv 50 5,rg 51 (.iad 1 (.t 49) (.t 50)),rg 52 (.load none (.t 51)),rg 53 (.bin .neq (.t 47) (.t 52))])
 (.cond (.t 53)
 (.seq
 (.reg [rg 4 (.mov (.c (.b false)))])
 (.pre (.norm false [4]) .ret))
 .skip))))
 (.reg [rg 54 (.bin .add (.t 42) (.c (.i .i64 1))),mv 42 54]))))
 (.norm false [2,3,40,41,42]))
def l677_1:AX:=
 (.note
 (.seq
 (.reg [rg 59 (.bin .lss (.t 58) (.t 57))])
 (.seq
 (.cond (.t 59)
 .skip
 (.exit 2))
 (.seq
 (.block 3
 (.seq
 (.reg [mv 60 58,rg 61 (.iad 6 (.t 56) (.t 58)),rg 62 (.load (some 6) (.t 61)),rg 8 (.alloc [(.i .i64 0),(.i .i64 0),(.i .i64 0),(.b false),(.sl [] .nl),(.sl [] .nl)]),mv 7 60,so (.store 6 (.t 8) (.t 62))])
 (.seq
 (.drawT [rg 63 (.load (some 6) (.t 8)),rg 64 (.call 437 [(.t 63)]),rg 65 (.fad 0 (.t 3)),rg 66 (.load none (.t 65)),mv 67 7,rg 68 (.iad 6 (.t 66) (.t 67)),rg 69 (.load (some 6) (.t 68)),rg 70 (.call 437 [(.t 69)]),rg 71 (.eqs true [(0,.int),(1,.int),(2,.int)] (.t 64) (.t 70)),mv 72 71,gd 73 72 false (.fad 3 (.t 8)),gd 74 72 false (.load (some 3) (.t 73)),gd 75 72 false (.fad 0 (.t 3)),gd 76 72 false (.load none (.t 75)),gd 77 72 false (.mov (.t 7)),gd 78 72 false (.iad 6 (.t 76) (.t 77)),gd 79 72 false (.fad 3 (.t 78)),gd 80 72 false (.load (some 3) (.t 79))]
 [gd 81 72 false (.call 212 [(.t 74),(.t 80)]),gd 82 72 false (.un .not (.t 81)),rg 83 (.pick (.t 72) (.c (.b true)) (.t 82))])
 (.cond (.t 83)
 (.seq
 (.reg [rg 4 (.mov (.c (.b false)))])
 (.pre (.norm false [4]) .ret))
 .skip))))
 (.reg [rg 84 (.bin .add (.t 58) (.c (.i .i64 1))),mv 58 84]))))
 (.norm false [3,56,57,58]))
def b677:AX:=
 (.seq
 (.reg [rg 2 (.xop (.box 4) [(.t 0)]),rg 3 (.xop (.box 4) [(.t 1)]),rg 4 (.mov (.c (.b false)))])
 (.seq
 (.seq
 (.reg [rg 9 (.fad 2 (.t 2)),rg 10 (.load none (.t 9)),rg 11 (.fad 2 (.t 3)),rg 12 (.load none (.t 11)),rg 13 (.bin .neq (.t 10) (.t 12)),mv 14 13,gd 15 14 false (.fad 3 (.t 2)),gd 16 14 false (.load none (.t 15)),gd 17 14 false (.fad 3 (.t 3)),gd 18 14 false (.load none (.t 17)),gd 19 14 false (.bin .neq (.t 16) (.t 18)),rg 20 (.pick (.t 14) (.c (.b true)) (.t 19)),mv 21 20,gd 22 21 false (.fad 1 (.t 2)),gd 23 21 false (.load none (.t 22)),gd 24 21 false (.len (.t 23)),gd 25 21 false (.fad 1 (.t 3)),gd 26 21 false (.load none (.t 25)),gd 27 21 false (.len (.t 26)),gd 28 21 false (.bin .neq (.t 24) (.t 27)),rg 29 (.pick (.t 21) (.c (.b true)) (.t 28)),mv 30 29,gd 31 30 false (.fad 0 (.t 2)),gd 32 30 false (.load none (.t 31)),gd 33 30 false (.len (.t 32)),gd 34 30 false (.fad 0 (.t 3)),gd 35 30 false (.load none (.t 34)),gd 36 30 false (.len (.t 35)),gd 37 30 false (.bin .neq (.t 33) (.t 36)),rg 38 (.pick (.t 30) (.c (.b true)) (.t 37))])
 (.cond (.t 38)
 (.seq
 (.reg [rg 4 (.mov (.c (.b false)))])
 (.pre (.norm false [4]) .ret))
 .skip))
 (.seq
 (.seq
 (.reg [rg 39 (.fad 1 (.t 2)),rg 40 (.load none (.t 39)),rg 41 (.len (.t 40)),rg 42 (.mov (.c (.i .i64 0)))])
 (.lp 0 (.norm false [2,3,40,41,42]) l677_0 (.norm false [2,3])))
 (.seq
 (.seq
 (.reg [rg 55 (.fad 0 (.t 2)),rg 56 (.load none (.t 55)),rg 57 (.len (.t 56)),rg 58 (.mov (.c (.i .i64 0)))])
 (.lp 2 (.norm false [3,56,57,58]) l677_1 (.norm false [])))
 (.seq
 (.reg [rg 4 (.mov (.c (.b true)))])
 (.pre (.norm false [4]) .ret))))))
def l678_0:AX:=
 (.note
 (.seq
 (.seq
 (.reg [mv 39 5,rg 40 (.fad 1 (.t 2)),rg 41 (.load none (.t 40)),rg 42 (.len (.t 41)),rg 43 (.bin .lss (.t 39) (.t 42))])
 (.cond (.t 43)
 .skip
 (.exit 0)))
 (.seq
 (.block 1
 (.seq
 (.drawT [rg 46 (.fad 1 (.t 2)),rg 47 (.load none (.t 46)),mv 48 5,rg 49 (.iad 1 (.t 47) (.t 48)),rg 50 (.load none (.t 49)),rg 51 (.fad 1 (.t 3)),rg 52 (.load none (.t 51)),mv 53 5,rg 54 (.iad 1 (.t 52) (.t 53)),rg 55 (.load none (.t 54))]
 [rg 56 (.bin .neq (.t 50) (.t 55))])
 (.cond (.t 56)
 (.seq
 (.reg [rg 4 (.mov (.c (.b false)))])
 (.pre (.norm false [4]) .ret))
 .skip)))
 (.reg [mv 44 5,rg 45 (.bin .add (.t 44) (.c (.i .i64 1))),mv 5 45])))
 (.norm false [2,3,5]))
def l678_1:AX:=
 (.note
 (.seq
 (.seq
 (.reg [mv 57 6,rg 58 (.fad 0 (.t 2)),rg 59 (.load none (.t 58)),rg 60 (.len (.t 59)),rg 61 (.bin .lss (.t 57) (.t 60))])
 (.cond (.t 61)
 .skip
 (.exit 2)))
 (.seq
 (.block 3
 (.seq
 (.reg [rg 64 (.fad 0 (.t 2)),rg 65 (.load none (.t 64)),mv 66 6,rg 67 (.iad 6 (.t 65) (.t 66)),rg 68 (.load (some 6) (.t 67)),rg 7 (.alloc [(.i .i64 0),(.i .i64 0),(.i .i64 0),(.b false),(.sl [] .nl),(.sl [] .nl)]),so (.store 6 (.t 7) (.t 68))])
 (.seq
 (.reg [rg 69 (.fad 0 (.t 3)),rg 70 (.load none (.t 69)),mv 71 6,rg 72 (.iad 6 (.t 70) (.t 71)),rg 73 (.load (some 6) (.t 72)),rg 8 (.alloc [(.i .i64 0),(.i .i64 0),(.i .i64 0),(.b false),(.sl [] .nl),(.sl [] .nl)]),so (.store 6 (.t 8) (.t 73))])
 (.seq
 (.drawT [rg 74 (.fad 0 (.t 7)),rg 75 (.load none (.t 74)),rg 76 (.fad 0 (.t 8)),rg 77 (.load none (.t 76)),rg 78 (.bin .neq (.t 75) (.t 77)),mv 79 78,gd 80 79 false (.fad 1 (.t 7)),gd 81 79 false (.load none (.t 80)),gd 82 79 false (.fad 1 (.t 8)),gd 83 79 false (.load none (.t 82)),gd 84 79 false (.bin .neq (.t 81) (.t 83)),rg 85 (.pick (.t 79) (.c (.b true)) (.t 84)),mv 86 85,gd 87 86 false (.fad 2 (.t 7)),gd 88 86 false (.load none (.t 87)),gd 89 86 false (.fad 2 (.t 8)),gd 90 86 false (.load none (.t 89)),gd 91 86 false (.bin .neq (.t 88) (.t 90)),rg 92 (.pick (.t 86) (.c (.b true)) (.t 91)),mv 93 92,gd 94 93 false (.fad 3 (.t 7)),gd 95 93 false (.load (some 3) (.t 94)),gd 96 93 false (.call 231 [(.t 95)]),gd 97 93 false (.fad 3 (.t 8)),gd 98 93 false (.load (some 3) (.t 97))]
 [gd 99 93 false (.call 231 [(.t 98)]),gd 100 93 false (.call 233 [(.t 96),(.t 99)]),gd 101 93 false (.un .not (.t 100)),rg 102 (.pick (.t 93) (.c (.b true)) (.t 101))])
 (.cond (.t 102)
 (.seq
 (.reg [rg 4 (.mov (.c (.b false)))])
 (.pre (.norm false [4]) .ret))
 .skip)))))
 (.reg [mv 62 6,rg 63 (.bin .add (.t 62) (.c (.i .i64 1))),mv 6 63])))
 (.norm false [2,3,6]))
def b678:AX:=
 (.seq
 (.reg [rg 2 (.xop (.box 4) [(.t 0)]),rg 3 (.xop (.box 4) [(.t 1)]),rg 4 (.mov (.c (.b false)))])
 (.seq
 (.seq
 (.reg [rg 9 (.fad 2 (.t 2)),rg 10 (.load none (.t 9)),rg 11 (.fad 2 (.t 3)),rg 12 (.load none (.t 11)),rg 13 (.bin .neq (.t 10) (.t 12)),mv 14 13,gd 15 14 false (.fad 3 (.t 2)),gd 16 14 false (.load none (.t 15)),gd 17 14 false (.fad 3 (.t 3)),gd 18 14 false (.load none (.t 17)),gd 19 14 false (.bin .neq (.t 16) (.t 18)),rg 20 (.pick (.t 14) (.c (.b true)) (.t 19)),mv 21 20,gd 22 21 false (.fad 1 (.t 2)),gd 23 21 false (.load none (.t 22)),gd 24 21 false (.len (.t 23)),gd 25 21 false (.fad 1 (.t 3)),gd 26 21 false (.load none (.t 25)),gd 27 21 false (.len (.t 26)),gd 28 21 false (.bin .neq (.t 24) (.t 27)),rg 29 (.pick (.t 21) (.c (.b true)) (.t 28)),mv 30 29,gd 31 30 false (.fad 0 (.t 2)),gd 32 30 false (.load none (.t 31)),gd 33 30 false (.len (.t 32)),gd 34 30 false (.fad 0 (.t 3)),gd 35 30 false (.load none (.t 34)),gd 36 30 false (.len (.t 35)),gd 37 30 false (.bin .neq (.t 33) (.t 36)),rg 38 (.pick (.t 30) (.c (.b true)) (.t 37))])
 (.cond (.t 38)
 (.seq
 (.reg [rg 4 (.mov (.c (.b false)))])
 (.pre (.norm false [4]) .ret))
 .skip))
 (.seq
 (.seq
 (.reg [rg 5 (.mov (.c (.i .i64 0)))])
 (.lp 0 (.norm false [2,3,5]) l678_0 (.norm false [2,3])))
 (.seq
 (.seq
 (.reg [rg 6 (.mov (.c (.i .i64 0)))])
 (.lp 2 (.norm false [2,3,6]) l678_1 (.norm false [])))
 (.seq
 (.reg [rg 4 (.mov (.c (.b true)))])
 (.pre (.norm false [4]) .ret))))))
def l679_0:AX:=
 (.note
 (.seq
 (.seq
 (.reg [mv 15 4,rg 16 (.fad 0 (.t 1)),rg 17 (.load none (.t 16)),rg 18 (.len (.t 17)),rg 19 (.bin .lss (.t 15) (.t 18))])
 (.cond (.t 19)
 .skip
 (.exit 0)))
 (.seq
 (.block 1
 (.seq
 (.reg [rg 22 (.fad 0 (.t 1)),rg 23 (.load none (.t 22)),mv 24 4,rg 25 (.iad 6 (.t 23) (.t 24)),rg 26 (.load (some 6) (.t 25)),rg 5 (.alloc [(.i .i64 0),(.i .i64 0),(.i .i64 0),(.b false),(.sl [] .nl),(.sl [] .nl)]),so (.store 6 (.t 5) (.t 26))])
 (.drawT [rg 27 (.fad 0 (.t 3)),rg 28 (.load none (.t 27)),rg 29 (.fad 0 (.t 5)),rg 30 (.load none (.t 29)),rg 31 (.fad 1 (.t 5)),rg 32 (.load none (.t 31)),rg 33 (.fad 2 (.t 5)),rg 34 (.load none (.t 33)),rg 35 (.fad 3 (.t 5)),rg 36 (.load (some 3) (.t 35)),rg 37 (.call 249 [(.t 36)]),rg 38 (.build [(.i .i64 0),(.i .i64 0),(.i .i64 0),(.b false),(.sl [] .nl),(.sl [] .nl)] [(0,1,(.t 30)),(1,1,(.t 32)),(2,1,(.t 34)),(3,3,(.t 37))]),rg 39 (.bsl 6 [(.i .i64 0),(.i .i64 0),(.i .i64 0),(.b false),(.sl [] .nl),(.sl [] .nl)] 1 [(0,(.t 38))])]
 [rg 40 (.app 6 (.t 28) (.t 39)),rg 41 (.fad 0 (.t 3)),so (.store 1 (.t 41) (.t 40))])))
 (.reg [mv 20 4,rg 21 (.bin .add (.t 20) (.c (.i .i64 1))),mv 4 21])))
 (.norm false [1,2,3,4]))
def b679:AX:=
 (.seq
 (.reg [rg 1 (.xop (.box 4) [(.t 0)]),rg 2 (.alloc [(.sl [] .nl),(.sl [] .nl),(.i .i64 0),(.i .i64 0)])])
 (.seq
 (.drawM [rg 6 (.fad 2 (.t 1)),rg 7 (.load none (.t 6)),rg 8 (.fad 3 (.t 1)),rg 9 (.load none (.t 8)),rg 10 (.bsl 1 [(.i .i64 0)] 0 []),rg 11 (.fad 1 (.t 1)),rg 12 (.load none (.t 11)),rg 13 (.app 1 (.t 10) (.t 12)),rg 14 (.build [(.sl [] .nl),(.sl [] .nl),(.i .i64 0),(.i .i64 0)] [(2,1,(.t 7)),(3,1,(.t 9)),(1,1,(.t 13))]),rg 3 (.alloc [(.sl [] .nl),(.sl [] .nl),(.i .i64 0),(.i .i64 0)])]
 [so (.store 4 (.t 3) (.t 14))])
 (.seq
 (.seq
 (.reg [rg 4 (.mov (.c (.i .i64 0)))])
 (.pre (.fld 3 0 0 6) (.lp 0 (.norm false [1,2,3,4]) l679_0 (.norm false [2,3]))))
 (.seq
 (.reg [rg 42 (.load (some 4) (.t 3)),so (.store 4 (.t 2) (.t 42))])
 (.pre (.norm false [2]) .ret)))))
class CTapeS (T:Tbl):Prop where
 h677:T 677=some ⟨2,85,[.t 4],b677,none,false⟩
 h678:T 678=some ⟨2,103,[.t 4],b678,none,false⟩
 h679:T 679=some ⟨1,43,[.cell 2 (some 4)],b679,none,false⟩
section
variable{T:Tbl}[CTapeS T]{d:Option Nat}{st:St}{xs:List AV}{ps:List Opd}{e:Env}{h:Heap}{ol:List Heap}
@[simp] theorem x677:callX (orc T) T 677 xs d st=cP T 677 false xs d st:=zaa CTapeS.h677
theorem f677(xs:List AV)(hn:xs.length=2):callF T 677 xs=retF [.t 4] false (evX (orc T) T 0 b677 ⟨argEnv xs,[],1⟩):=zac CTapeS.h677 hn
@[simp] theorem y678:opD (orc T) T (.call 678 ps) e h ol=dP T 678 false ps e:=zce CTapeS.h678
theorem f678(xs:List AV)(hn:xs.length=2):callF T 678 xs=retF [.t 4] false (evX (orc T) T 0 b678 ⟨argEnv xs,[],1⟩):=zac CTapeS.h678 hn
@[simp] theorem y679:opD (orc T) T (.call 679 ps) e h ol=dP T 679 false ps e:=zce CTapeS.h679
theorem f679(xs:List AV)(hn:xs.length=1):callF T 679 xs=retF [.cell 2 (some 4)] false (evX (orc T) T 0 b679 ⟨argEnv xs,[],1⟩):=zac CTapeS.h679 hn
end
section
open Go.RowKit
def opU:AOp→List Nat
 | .call u _=>[u]
 | .ifc k _=>[1000000+k]
 | .inv _ k u _ _=>[1000000+k,u]
 | .xop (.mkf k) _ | .xop (.mkv k) _=>[1000000+k]
 | _=>[]
def cXs:AX→List Nat
 | .reg l=>l.flatMap fun o=>opU o.op
 | .draw l=>l.flatMap fun o=>opU o.ao.op
 | .drawT hd tl=>(hd.flatMap fun o=>opU o.op)++tl.flatMap fun o=>opU o.op
 | .drawM hd tl=>(hd.flatMap fun o=>opU o.op)++tl.flatMap fun o=>opU o.op
 | .drawC l1 o l2 tl=>(l1.flatMap fun o=>opU o.op)++(opU o.op++((l2.flatMap fun o=>opU o.op)++tl.flatMap fun o=>opU o.op))
 | .drawN l1 o l2=>(l1.flatMap fun o=>opU o.ao.op)++(opU o.op++l2.flatMap fun o=>opU o.ao.op)
 | .seq a b=>cXs a++cXs b
 | .cond _ x y=>cXs x++cXs y
 | .block _ c | .loop c | .note c _ | .pre _ c | .scope c | .lp _ _ c _=>cXs c
 | .gsc _ c r=>cXs c++cXs r
 | _=>[]
structure Agr (R:Nat→Bool) (T T':Tbl) (O O':Orc):Prop where
 tbl:∀u,R u=true→T u=T' u
 call:∀u xs hb,R u=true→O.call u xs hb=O'.call u xs hb
 loop:∀k c st,(∀u∈cXs c,R u=true)→O.loop k c st=O'.loop k c st
section
variable{R:Nat→Bool}{T T':Tbl}{O O':Orc}
theorem zgl(h:Agr R T T' O O'){u:Nat}(hu:R u=true){xs:List AV}{d:Option Nat}{st:St}:callX O T u xs d st=callX O' T' u xs d st:=by
 unfold callX
 rw[h.tbl u hu]
 simp only[h.call u _ _ hu]
theorem zx0(h:Agr R T T' O O'){op:AOp}(hu:∀u∈opU op,R u=true){d:Option Nat}{st:St}:opX O T op d st=opX O' T' op d st:=by
 cases op<;>simp only[opX]
 case call u args=>exact zgl h (hu _ (by simp[opU]))
 case ifc k x=>unfold tyNum;rw[h.tbl _ (hu _ (by simp[opU]))]
 case inv nm k u r args=>
  have e1:tyNum T k=tyNum T' k:=by unfold tyNum;rw[h.tbl _ (hu _ (by simp[opU]))]
  have e2:methsT T k=methsT T' k:=by unfold methsT;rw[h.tbl _ (hu _ (by simp[opU]))]
  have e3:funT T k=funT T' k:=by unfold funT;rw[h.tbl _ (hu _ (by simp[opU]))]
  grind[zgl,opU]
 case xop k xs=>
  cases k<;>simp only
  all_goals rename_i k
  all_goals
   have e1:tyNum T k=tyNum T' k:=by unfold tyNum;rw[h.tbl _ (hu _ (by simp[opU]))]
   rw[e1]
theorem zsk(h:Agr R T T' O O'){o:AO}(hu:∀u∈opU o.op,R u=true){st:St}:stepX O T o st=stepX O' T' o st:=by
 unfold stepX gX
 simp only[zx0 h hu]
theorem zet(h:Agr R T T' O O'):∀(l:List AO),(∀o∈l,∀u∈opU o.op,R u=true)→∀st,runX O T l st=runX O' T' l st
 | [],_,st=>rfl
 | o::l,hu,st=>by
  simp only[runX]
  rw[zsk h (hu o List.mem_cons_self)]
  congr 1
  funext s
  exact zet h l (fun o ho=>hu o (List.mem_cons_of_mem _ ho)) s
theorem zx1(h:Agr R T T' O O'){op:AOp}(hu:∀u∈opU op,R u=true){e:Env}{hp:Heap}{older:List Heap}:opD O T op e hp older=opD O' T' op e hp older:=by
 by_cases hap:∃z x0 y,op=.app z x0 y
 ·obtain⟨z,x0,y,rfl⟩:=hap
  by_cases hc:x0=.c (.sl [] .nl)
  ·subst hc;rfl
  ·rw[zmy hc,zmy hc]
 cases op<;>(try exact absurd ⟨_,_,_,rfl⟩ hap)<;>simp only[opD]
 case call u args=>
  rw[h.tbl _ (hu _ (by simp[opU]))]
  simp only[h.call _ _ _ (hu _ (show u∈_ by simp[opU]))]
 case ifc k x=>unfold tyNum;rw[h.tbl _ (hu _ (by simp[opU]))]
 case inv nm k u r args=>
  have e1:tyNum T k=tyNum T' k:=by unfold tyNum;rw[h.tbl _ (hu _ (by simp[opU]))]
  have e2:methsT T k=methsT T' k:=by unfold methsT;rw[h.tbl _ (hu _ (by simp[opU]))]
  rw[e1,e2,h.tbl u (hu u (by simp[opU]))]
  simp only[h.call u _ _ (hu u (by simp[opU]))]
theorem zky(h:Agr R T T' O O'){o:AO}(hu:∀u∈opU o.op,R u=true){e:Env}{hp:Heap}{older:List Heap}:qX O T o e hp older=qX O' T' o e hp older:=by
 unfold qX
 simp only[zx1 h hu]
theorem zsl(h:Agr R T T' O O'){u:Nat}(hu:R u=true){ys:List AV}:callR O T u ys=callR O' T' u ys:=by
 unfold callR
 rw[h.tbl u hu]
 simp only[h.call u _ _ hu]
theorem zgm(h:Agr R T T' O O'):∀(l:List DO),(∀o∈l,∀u∈opU o.ao.op,R u=true)→∀e hp clk older pend,drawX O T l e hp clk older pend=drawX O' T' l e hp clk older pend
 | [],_,e,hp,clk,older,pend=>rfl
 | o::l,hu,e,hp,clk,older,pend=>by
  have ih:=zgm h l (fun o ho=>hu o (List.mem_cons_of_mem _ ho))
  simp only[drawX]
  rw[zky h (hu o List.mem_cons_self)]
  simp only[ih]
  cases o.ao.op.writes with
  | true=>rfl
  | false=>
   cases hrow:rowQ o.ao.guard o.ao.op.callN e hp (older.take (older.length-o.lo)) with
   | none=>rfl
   | some p=>
    obtain⟨_,args,hop,_⟩:=zkx hrow
    have hp:R p.1=true:=hu o List.mem_cons_self _ (by rw[hop];simp[opU])
    simp only[zsl h hp]
theorem zkz(h:Agr R T T' O O')(tl:List AO)(ht:∀o∈tl,∀u∈opU o.op,R u=true):∀(l:List AO),(∀o∈l,∀u∈opU o.op,R u=true)→∀e hp clk,headX O T tl l e hp clk=headX O' T' tl l e hp clk
 | [],_,e,hp,clk=>zet h tl ht _
 | o::l,hu,e,hp,clk=>by
  have ih:=zkz h tl ht l (fun o ho=>hu o (List.mem_cons_of_mem _ ho))
  simp only[headX]
  rw[zky h (hu o List.mem_cons_self)]
  simp only[ih]
theorem zsm(h:Agr R T T' O O'){u:Nat}(hu:R u=true){xs:List AV}{d clk:Nat}:callM O T u xs d clk=callM O' T' u xs d clk:=by
 unfold callM
 rw[h.tbl u hu]
 simp only[h.call u _ _ hu]
theorem zk0(h:Agr R T T' O O')(tl:List AO)(ht:∀o∈tl,∀u∈opU o.op,R u=true)(h0:Heap)(c0:Nat)(X:Heap):∀(l:List AO),(∀o∈l,∀u∈opU o.op,R u=true)→∀e hp clk,headM O T tl h0 c0 X l e hp clk=headM O' T' tl h0 c0 X l e hp clk
 | [],_,e,hp,clk=>zet h tl ht _
 | o::l,hu,e,hp,clk=>by
  have ih:=zk0 h tl ht h0 c0 X l (fun o ho=>hu o (List.mem_cons_of_mem _ ho))
  simp only[headM]
  rw[zky h (hu o List.mem_cons_self)]
  simp only[ih]
  cases hm:o.op.maker with
  | true=>rfl
  | false=>
   cases hst:o.op.isStore with
   | true=>rfl
   | false=>
   cases hl:o.op.lentN with
   | none=>rfl
   | some ua=>
    have hua:R ua.1=true:=hu o List.mem_cons_self _ (by rw[zig hl];simp[opU])
    simp only[zsm h hua]
theorem zjc(h:Agr R T T' O O'){K K':Env→PendX→Option St}(hK:∀e pend,K e pend=K' e pend)(hp:Heap):∀(l:List DO),(∀o∈l,∀u∈opU o.ao.op,R u=true)→∀e pend,preC O T K hp l e pend=preC O' T' K' hp l e pend
 | [],_,e,pend=>hK e pend
 | o::l,hu,e,pend=>by
  have ih:=zjc h hK hp l (fun o ho=>hu o (List.mem_cons_of_mem _ ho))
  simp only[preC]
  rw[zky h (hu o List.mem_cons_self)]
  simp only[ih]
theorem zk1(h:Agr R T T' O O'){K K':Env→Option St}(hK:∀e,K e=K' e)(h0 h1:Heap):∀(l:List AO),(∀o∈l,∀u∈opU o.op,R u=true)→∀e,postC O T K h0 h1 l e=postC O' T' K' h0 h1 l e
 | [],_,e=>hK e
 | o::l,hu,e=>by
  have ih:=zk1 h hK h0 h1 l (fun o ho=>hu o (List.mem_cons_of_mem _ ho))
  simp only[postC]
  rw[zky h (hu o List.mem_cons_self)]
  simp only[ih]
theorem zk2(h:Agr R T T' O O'){o:AO}(hu:∀u∈opU o.op,R u=true){st:St}:callC O T o st=callC O' T' o st:=by
 obtain⟨d,g,op⟩:=o
 cases op
 case call u args=>
  cases g<;>cases d<;>simp only[callC]
  exact zgl h (hu u (by simp[opU]))
 all_goals cases g<;>cases d<;>rfl
theorem zsn(h:Agr R T T' O O')(l1:List AO)(o:AO)(l2 tl:List AO)(hu:∀u∈cXs (.drawC l1 o l2 tl),R u=true)(st:St):headC O T l1 o l2 tl st=headC O' T' l1 o l2 tl st:=by
 have u1:∀o∈l1,∀u∈opU o.op,R u=true:=fun o ho u hou=>hu u (List.mem_append_left _ (List.mem_flatMap.2 ⟨o,ho,hou⟩))
 have u2:∀u∈opU o.op,R u=true:=fun u hou=>hu u (List.mem_append_right _ (List.mem_append_left _ hou))
 have u3:∀o∈l2,∀u∈opU o.op,R u=true:=fun o ho u hou=>hu u (List.mem_append_right _ (List.mem_append_right _ (List.mem_append_left _ (List.mem_flatMap.2 ⟨o,ho,hou⟩))))
 have u4:∀o∈tl,∀u∈opU o.op,R u=true:=fun o ho u hou=>hu u (List.mem_append_right _ (List.mem_append_right _ (List.mem_append_right _ (List.mem_flatMap.2 ⟨o,ho,hou⟩))))
 unfold headC
 refine zjc h (fun e pend=>?_) _ _ (fun o ho=>?_) _ _
 ·rw[zk2 h u2]
  congr 1
  funext s
  rw[zk1 h (fun e=>zet h tl u4 _) _ _ l2 u3]
 ·obtain⟨o',ho',rfl⟩:=List.mem_map.1 ho
  exact u1 o' ho'
theorem zso(h:Agr R T T' O O')(l1:List DO)(o:AO)(l2:List DO)(hu:∀u∈cXs (.drawN l1 o l2),R u=true)(st:St):headN O T l1 o l2 st=headN O' T' l1 o l2 st:=by
 have u1:∀o∈l1,∀u∈opU o.ao.op,R u=true:=fun o ho u hou=>hu u (List.mem_append_left _ (List.mem_flatMap.2 ⟨o,ho,hou⟩))
 have u2:∀u∈opU o.op,R u=true:=fun u hou=>hu u (List.mem_append_right _ (List.mem_append_left _ hou))
 have u3:∀o∈l2,∀u∈opU o.ao.op,R u=true:=fun o ho u hou=>hu u (List.mem_append_right _ (List.mem_append_right _ (List.mem_flatMap.2 ⟨o,ho,hou⟩)))
 unfold headN
 congr 1
 refine zjc h (fun e pend=>?_) _ _ (fun o ho=>?_) _ _
 ·rw[zk2 h u2]
  congr 1
  funext s
  rw[zgm h _ fun o ho=>?_]
  obtain⟨o',ho',rfl⟩:=List.mem_map.1 ho
  exact u3 o' ho'
 ·obtain⟨o',ho',rfl⟩:=List.mem_map.1 ho
  exact u1 o' ho'
theorem zbu(h:Agr R T T' O O')(k:Nat):∀(c:AX),(∀u∈cXs c,R u=true)→∀st,evX O T k c st=evX O' T' k c st
 | .skip,_,st=>rfl
 | .reg l,hu,st=>by
  simp only[evX]
  rw[zet h l fun o ho u hou=>hu u (List.mem_flatMap.2 ⟨o,ho,hou⟩)]
 | .draw l,hu,st=>by
  simp only[evX]
  rw[zgm h l fun o ho u hou=>hu u (List.mem_flatMap.2 ⟨o,ho,hou⟩)]
 | .drawT hd tl,hu,st=>by
  simp only[evX]
  rw[zkz h tl (fun o ho u hou=>hu u (List.mem_append_right _ (List.mem_flatMap.2 ⟨o,ho,hou⟩))) hd (fun o ho u hou=>hu u (List.mem_append_left _ (List.mem_flatMap.2 ⟨o,ho,hou⟩)))]
 | .drawM hd tl,hu,st=>by
  simp only[evX]
  rw[zk0 h tl (fun o ho u hou=>hu u (List.mem_append_right _ (List.mem_flatMap.2 ⟨o,ho,hou⟩))) _ _ _ hd (fun o ho u hou=>hu u (List.mem_append_left _ (List.mem_flatMap.2 ⟨o,ho,hou⟩)))]
 | .drawC l1 o l2 tl,hu,st=>by
  simp only[evX]
  rw[zsn h l1 o l2 tl hu]
 | .drawN l1 o l2,hu,st=>by
  simp only[evX]
  rw[zso h l1 o l2 hu]
 | .bad,_,st=>rfl
 | .prim f,_,st=>rfl
 | .seq a b,hu,st=>by
  simp only[evX]
  rw[zbu h k a fun u hm=>hu u (List.mem_append_left _ hm)]
  congr 1
  funext r
  rw[zbu h k b fun u hm=>hu u (List.mem_append_right _ hm)]
 | .cond c x y,hu,st=>by
  simp only[evX]
  rw[zbu h k x fun u hm=>hu u (List.mem_append_left _ hm),zbu h k y fun u hm=>hu u (List.mem_append_right _ hm)]
 | .block id c,hu,st=>by
  simp only[evX]
  rw[zbu h k c hu]
 | .loop c,hu,st=>h.loop k c st hu
 | .exit id,_,st=>rfl
 | .ret,_,st=>rfl
 | .note c g,hu,st=>by
  simp only[evX]
  rw[zbu h k c hu]
 | .pre g c,hu,st=>by
  simp only[evX]
  congr 1
  funext s
  exact zbu h k c hu s
 | .scope c,hu,st=>by
  simp only[evX]
  rw[zbu h k c hu]
 | .label _,_,st=>rfl
 | .goto _,_,st=>rfl
 | .gsc l c r,hu,st=>by
  simp only[evX]
  rw[zbu h k c fun u hm=>hu u (List.mem_append_left _ hm)]
  congr 1
  funext s
  exact zbu h k r (fun u hm=>hu u (List.mem_append_right _ hm)) s
 | .lp id g c g2,hu,st=>by
  simp only[evX,h.loop k c _ hu]
theorem zsp(hc:∀u af,R u=true→T u=some af→∀v∈cXs af.body,R v=true)(h:Agr R T T' O O'):Agr R T T' (nextO T O) (nextO T' O') where
 tbl:=h.tbl
 call u xs hb hu:=by
  simp only[nextO]
  rw[←h.tbl u hu]
  cases ht:T u with
  | none=>rfl
  | some af=>
   grind[zbu]
 loop k c st hu:=by
  simp only[nextO]
  rw[zbu h k c hu]
  congr 1
  funext r
  rw[h.loop k c _ hu]
theorem zjd(ht:∀u,R u=true→T u=T' u)(hc:∀u af,R u=true→T u=some af→∀v∈cXs af.body,R v=true):∀n,Agr R T T' (orcN T n) (orcN T' n)
 | 0=>⟨ht,fun _ _ _ _=>rfl,fun _ _ _ _=>rfl⟩
 | n+1=>zsp hc (zjd ht hc n)
theorem zx2(ht:∀u,R u=true→T u=T' u)(hc:∀u af,R u=true→T u=some af→∀v∈cXs af.body,R v=true):Agr R T T' (orc T) (orc T'):=by
 refine⟨ht,fun u xs hb hu=>?_,fun k c st hu=>?_⟩
 ·simp only[orc]
  congr 1
  funext n
  exact(zjd ht hc n).call u xs hb hu
 ·simp only[orc]
  congr 1
  funext n
  exact(zjd ht hc n).loop k c st hu
end
theorem zc8{l:List (Nat×AFx)}{u:Nat}{af:AFx}(h:l.lookup u=some af):(u,af)∈l:=by
 induction l with
 | nil=>cases h
 | cons q l ih=>
  grind
structure Part (l l':List (Nat×AFx)):Prop where
 sub:∀p∈l',l.lookup p.1=some p.2
 clo:(l'.all fun p=>(cXs p.2.body).all fun v=>(l'.lookup v).isSome || (l.lookup v).isNone)=true
theorem Part.agr{l l':List (Nat×AFx)}(h:Part l l'):Agr (fun u=>(l'.lookup u).isSome || (l.lookup u).isNone) (fun u=>l.lookup u) (fun u=>l'.lookup u) (orc fun u=>l.lookup u) (orc fun u=>l'.lookup u):=by
 refine zx2 (fun v hv=>?_) (fun v a hv hva w hw=>?_)
 ·cases hv2:l'.lookup v with
  | none=>
   cases hv3:l.lookup v with
   | none=>rfl
   | some a=>grind
  | some a=>exact h.sub _ (zc8 hv2)
 ·cases hv2:l'.lookup v with
  | none=>grind
  | some b=>
   have hb:=zc8 hv2
   have h1:=h.sub _ hb
   rw[hva]at h1
   cases h1
   exact List.all_eq_true.1 (List.all_eq_true.1 h.clo _ hb) w hw
theorem Part.ev{l l':List (Nat×AFx)}(h:Part l l'){c:AX}(hc:((cXs c).all fun v=>(l'.lookup v).isSome)=true){st:St}{r:Option (Ex×St)}
  (he:evX (orc fun u=>l.lookup u) (fun u=>l.lookup u) 0 c st=r):evX (orc fun u=>l'.lookup u) (fun u=>l'.lookup u) 0 c st=r:=by
 rw[←zbu h.agr 0 c (fun v hv=>by grind) st]
 omega
theorem Part.call{l l':List (Nat×AFx)}(h:Part l l'){u:Nat}(hu:(l'.lookup u).isSome=true){xs:List AV}{r:Option AV}(he:callF (fun u=>l.lookup u) u xs=r):callF (fun u=>l'.lookup u) u xs=r:=by
 rw[←he]
 unfold callF
 rw[h.agr.call u xs [] (by grind)]
end
end Go.Ab