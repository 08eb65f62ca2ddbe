/-
  A calculus of values, boxes and code, and what functions of the program compute, proved in it.
  Conditions: none beyond those that the theorems state. (Part 5.)
-/
import Derived.Test.YtjhilbodpmnbmaaGreatDoorPart4

set_option linter.unusedSectionVars false
set_option linter.unusedVariables false
set_option linter.unusedSimpArgs false
set_option linter.unnecessarySimpa false

namespace Go.Ab
def l397_0:AX:=
 (.note
 (.seq
 (.reg [rg 57 (.bin .lss (.t 56) (.t 55))])
 (.seq
 (.cond (.t 57)
 .skip
 (.exit 0))
 (.seq
 (.block 1
 (.seq
 (.reg [mv 58 56,rg 59 (.iad 1 (.t 54) (.t 56)),rg 60 (.load none (.t 59)),mv 14 58,mv 15 60])
 (.reg [mv 61 13,mv 62 15,mv 63 2,mv 64 14,rg 65 (.iad 3 (.t 63) (.t 64)),rg 66 (.load (some 3) (.t 65)),rg 67 (.call 410 [(.t 61),(.t 62),(.t 66)])])))
 (.reg [rg 68 (.bin .add (.t 56) (.c (.i .i64 1))),mv 56 68]))))
 (.norm false [2,3,8,9,10,11,13,54,55,56]))
def l397_1:AX:=
 (.note
 (.seq
 (.seq
 (.reg [mv 74 17,rg 75 (.bin .geq (.t 74) (.c (.i .i64 0)))])
 (.cond (.t 75)
 .skip
 (.exit 2)))
 (.seq
 (.block 3
 (.seq
 (.seq
 (.reg [mv 78 16,mv 79 13,rg 80 (.nilc (.t 79)),rg 81 (.fad 5 (.t 80)),rg 82 (.load none (.t 81)),mv 83 17,rg 84 (.iad 3 (.t 82) (.t 83)),rg 85 (.load (some 3) (.t 84)),rg 86 (.call 207 [(.t 85)]),rg 87 (.call 411 [(.t 78),(.t 86)]),rg 88 (.un .not (.t 87))])
 (.cond (.t 88)
 (.seq
 (.reg [rg 89 (.load (some 5) (.t 10)),mv 90 17,rg 91 (.build [(.i .i64 0),(.i .i64 0),(.i .i64 0),(.i .i64 0)] [(0,1,(.c (.i .i64 6))),(2,1,(.c (.i .i64 2))),(3,1,(.t 90))]),so (.store 5 (.t 8) (.t 89)),so (.store 4 (.t 9) (.t 91))])
 (.pre (.norm false [8,9]) .ret))
 .skip))
 (.reg [mv 92 13,mv 93 17,rg 94 (.call 412 [(.t 92),(.t 93)])])))
 (.reg [mv 76 17,rg 77 (.bin .sub (.t 76) (.c (.i .i64 1))),mv 17 77])))
 (.norm false [8,9,10,13,16,17]))
def b397:AX:=
 (.seq
 (.reg [rg 4 (.xop (.box 4) [(.t 0)]),rg 5 (.xop (.box 5) [(.t 1)]),rg 8 (.alloc [(.b false),(.sl [] .nl),(.sl [] .nl),(.sl [] .nl),(.sl [] .nl)]),rg 9 (.alloc [(.i .i64 0),(.i .i64 0),(.i .i64 0),(.i .i64 0)])])
 (.seq
 (.reg [rg 20 (.call 2395 [(.c (.i .i64 0)),(.c (.i .i64 0))]),rg 10 (.alloc [(.b false),(.sl [] .nl),(.sl [] .nl),(.sl [] .nl),(.sl [] .nl)]),so (.store 5 (.t 10) (.t 20))])
 (.seq
 (.seq
 (.reg [mv 21 2,rg 22 (.len (.t 21)),rg 23 (.fad 1 (.t 4)),rg 24 (.load none (.t 23)),rg 25 (.len (.t 24)),rg 26 (.bin .neq (.t 22) (.t 25))])
 (.cond (.t 26)
 (.seq
 (.reg [rg 27 (.load (some 5) (.t 10)),rg 28 (.build [(.i .i64 0),(.i .i64 0),(.i .i64 0),(.i .i64 0)] [(0,1,(.c (.i .i64 2)))]),so (.store 5 (.t 8) (.t 27)),so (.store 4 (.t 9) (.t 28))])
 (.pre (.norm false [8,9]) .ret))
 .skip))
 (.seq
 (.reg [rg 30 (.load (some 4) (.t 4)),rg 31 (.load (some 5) (.t 5)),mv 32 3,rg 33 (.call 384 [(.t 30),(.t 31),(.t 32)]),mv 29 33,rg 34 (.ext (.t 29) 0),rg 35 (.ext (.t 29) 1),rg 12 (.alloc [(.i .i64 0),(.i .i64 0),(.i .i64 0),(.i .i64 0)]),mv 11 34,so (.store 4 (.t 12) (.t 35))])
 (.seq
 (.seq
 (.reg [rg 36 (.load (some 4) (.t 12)),rg 37 (.build [(.i .i64 0),(.i .i64 0),(.i .i64 0),(.i .i64 0)] []),rg 38 (.eqs true [(0,.int),(1,.int),(2,.int),(3,.int)] (.t 36) (.t 37))])
 (.cond (.t 38)
 (.seq
 (.draw [⟨rg 39 (.load (some 5) (.t 10)),0,0⟩,⟨rg 40 (.load (some 4) (.t 12)),0,1⟩,⟨so (.store 5 (.t 8) (.t 39)),0,1⟩,⟨so (.store 4 (.t 9) (.t 40)),1,2⟩])
 (.pre (.norm false [8,9]) .ret))
 .skip))
 (.seq
 (.drawM [rg 41 (.load (some 4) (.t 4)),mv 42 11,mv 43 11,rg 44 (.len (.t 43)),rg 45 (.mks 3 [(.b false),(.sl [] .nl),(.sl [] .nl)] (.t 44) (.t 44)),rg 46 (.fad 2 (.t 4)),rg 47 (.load none (.t 46)),rg 48 (.fad 3 (.t 4)),rg 49 (.load none (.t 48)),rg 50 (.call 2395 [(.t 47),(.t 49)])]
 [rg 51 (.build [(.sl [] .nl),(.sl [] .nl),(.i .i64 0),(.i .i64 0),(.sl [] .nl),(.sl [] .nl),(.b false),(.sl [] .nl),(.sl [] .nl),(.sl [] .nl),(.sl [] .nl)] [(0,4,(.t 41)),(4,1,(.t 42)),(5,1,(.t 45)),(6,5,(.t 50))]),rg 52 (.xop (.box 11) [(.t 51)]),mv 13 52])
 (.seq
 (.seq
 (.reg [rg 53 (.fad 1 (.t 4)),rg 54 (.load none (.t 53)),rg 55 (.len (.t 54)),rg 56 (.mov (.c (.i .i64 0)))])
 (.lp 0 (.norm false [2,3,8,9,10,11,13,54,55,56]) l397_0 (.norm false [3,8,9,10,11,13])))
 (.seq
 (.reg [mv 69 3,rg 70 (.call 406 [(.t 69)]),mv 16 70])
 (.seq
 (.seq
 (.reg [mv 71 11,rg 72 (.len (.t 71)),rg 73 (.bin .sub (.t 72) (.c (.i .i64 1))),mv 17 73])
 (.lp 2 (.norm false [8,9,10,13,16,17]) l397_1 (.norm false [8,9,10,13,16])))
 (.seq
 (.seq
 (.reg [mv 96 16,mv 97 13,rg 98 (.nilc (.t 97)),rg 99 (.fad 6 (.t 98)),rg 100 (.load (some 5) (.t 99)),rg 101 (.call 414 [(.t 100)]),rg 102 (.call 413 [(.t 96),(.t 101)]),mv 95 102,rg 103 (.ext (.t 95) 0),rg 104 (.ext (.t 95) 1),mv 18 103,mv 19 104])
 (.seq
 (.reg [mv 105 19,rg 106 (.un .not (.t 105))])
 (.cond (.t 106)
 (.seq
 (.reg [rg 107 (.load (some 5) (.t 10)),mv 108 18,rg 109 (.build [(.i .i64 0),(.i .i64 0),(.i .i64 0),(.i .i64 0)] [(0,1,(.c (.i .i64 6))),(2,1,(.c (.i .i64 3))),(3,1,(.t 108))]),so (.store 5 (.t 8) (.t 107)),so (.store 4 (.t 9) (.t 109))])
 (.pre (.norm false [8,9]) .ret))
 .skip)))
 (.seq
 (.reg [mv 110 13,rg 111 (.nilc (.t 110)),rg 112 (.fad 6 (.t 111)),rg 113 (.load (some 5) (.t 112)),rg 114 (.build [(.i .i64 0),(.i .i64 0),(.i .i64 0),(.i .i64 0)] []),so (.store 5 (.t 8) (.t 113)),so (.store 4 (.t 9) (.t 114))])
 (.pre (.norm false [8,9]) .ret))))))))))))
def b410:AX:=
 (.seq
 (.reg [rg 5 (.xop (.box 3) [(.t 2)])])
 (.drawT [mv 6 0,rg 7 (.nilc (.t 6)),rg 8 (.fad 5 (.t 7)),rg 9 (.load none (.t 8)),mv 10 1,mv 11 0,rg 12 (.nilc (.t 11)),rg 13 (.fad 5 (.t 12)),rg 14 (.load none (.t 13)),mv 15 1,rg 16 (.iad 3 (.t 14) (.t 15)),rg 17 (.load (some 3) (.t 16)),rg 18 (.load (some 3) (.t 5)),rg 19 (.call 215 [(.t 17),(.t 18)])]
 [rg 20 (.iad 3 (.t 9) (.t 10)),so (.store 3 (.t 20) (.t 19))]))
def b412:AX:=
 (.seq
 (.drawM [mv 6 0,rg 7 (.nilc (.t 6)),rg 8 (.fad 0 (.t 7)),rg 9 (.fad 0 (.t 8)),rg 10 (.load none (.t 9)),mv 11 1,rg 12 (.iad 6 (.t 10) (.t 11)),rg 13 (.load (some 6) (.t 12)),mv 14 0,rg 15 (.nilc (.t 14)),rg 16 (.fad 5 (.t 15)),rg 17 (.load none (.t 16)),mv 18 1,rg 19 (.iad 3 (.t 17) (.t 18)),rg 20 (.load (some 3) (.t 19)),rg 4 (.alloc [(.i .i64 0),(.i .i64 0),(.i .i64 0),(.b false),(.sl [] .nl),(.sl [] .nl)]),rg 5 (.alloc [(.b false),(.sl [] .nl),(.sl [] .nl)]),so (.store 6 (.t 4) (.t 13))]
 [so (.store 3 (.t 5) (.t 20))])
 (.seq
 (.seq
 (.reg [rg 21 (.load (some 3) (.t 5)),rg 22 (.call 209 [(.t 21)]),rg 23 (.bin .eql (.t 22) (.c (.i .i64 0)))])
 (.cond (.t 23)
 (.pre (.norm false []) .ret)
 .skip))
 (.seq
 (.reg [rg 24 (.fad 0 (.t 4)),rg 25 (.load none (.t 24))])
 (.block 0
 (.seq
 (.reg [rg 27 (.bin .eql (.t 25) (.c (.i .i64 2))),mv 26 27])
 (.cond (.t 26)
 (.drawT [mv 28 0,mv 29 0,rg 30 (.nilc (.t 29)),rg 31 (.fad 6 (.t 30)),rg 32 (.fad 0 (.t 31)),rg 33 (.load (some 3) (.t 32)),rg 34 (.load (some 3) (.t 5)),rg 35 (.call 215 [(.t 33),(.t 34)])]
 [rg 36 (.nilc (.t 28)),rg 37 (.fad 6 (.t 36)),rg 38 (.fad 0 (.t 37)),so (.store 3 (.t 38) (.t 35))])
 (.seq
 (.reg [rg 40 (.bin .eql (.t 25) (.c (.i .i64 3))),mv 39 40])
 (.cond (.t 39)
 (.drawT [mv 41 0,rg 42 (.nilc (.t 41)),rg 43 (.fad 6 (.t 42)),rg 44 (.fad 3 (.t 43)),rg 45 (.load none (.t 44)),rg 46 (.fad 1 (.t 4)),rg 47 (.load none (.t 46)),mv 48 0,rg 49 (.nilc (.t 48)),rg 50 (.fad 6 (.t 49)),rg 51 (.fad 3 (.t 50)),rg 52 (.load none (.t 51)),rg 53 (.fad 1 (.t 4)),rg 54 (.load none (.t 53)),rg 55 (.iad 3 (.t 52) (.t 54)),rg 56 (.load (some 3) (.t 55)),rg 57 (.load (some 3) (.t 5)),rg 58 (.call 215 [(.t 56),(.t 57)])]
 [rg 59 (.iad 3 (.t 45) (.t 47)),so (.store 3 (.t 59) (.t 58))])
 (.seq
 (.reg [rg 61 (.bin .eql (.t 25) (.c (.i .i64 4))),mv 60 61])
 (.cond (.t 60)
 (.drawT [mv 62 0,rg 63 (.nilc (.t 62)),rg 64 (.fad 6 (.t 63)),rg 65 (.fad 4 (.t 64)),rg 66 (.load none (.t 65)),rg 67 (.fad 1 (.t 4)),rg 68 (.load none (.t 67)),mv 69 0,rg 70 (.nilc (.t 69)),rg 71 (.fad 6 (.t 70)),rg 72 (.fad 4 (.t 71)),rg 73 (.load none (.t 72)),rg 74 (.fad 1 (.t 4)),rg 75 (.load none (.t 74)),rg 76 (.iad 3 (.t 73) (.t 75)),rg 77 (.load (some 3) (.t 76)),rg 78 (.load (some 3) (.t 5)),rg 79 (.call 215 [(.t 77),(.t 78)])]
 [rg 80 (.iad 3 (.t 66) (.t 68)),so (.store 3 (.t 80) (.t 79))])
 (.seq
 (.reg [rg 82 (.bin .eql (.t 25) (.c (.i .i64 6))),mv 81 82])
 (.cond (.t 81)
 (.drawT [mv 83 0,rg 84 (.fad 1 (.t 4)),rg 85 (.load none (.t 84)),rg 86 (.load (some 3) (.t 5)),rg 87 (.call 213 [(.t 86)])]
 [rg 88 (.call 410 [(.t 83),(.t 85),(.t 87)])])
 (.seq
 (.reg [rg 90 (.bin .eql (.t 25) (.c (.i .i64 7))),mv 89 90])
 (.cond (.t 89)
 (.seq
 (.reg [mv 91 0,rg 92 (.fad 1 (.t 4)),rg 93 (.load none (.t 92)),rg 94 (.load (some 3) (.t 5)),rg 95 (.call 410 [(.t 91),(.t 93),(.t 94)])])
 (.reg [mv 96 0,rg 97 (.fad 2 (.t 4)),rg 98 (.load none (.t 97)),rg 99 (.load (some 3) (.t 5)),rg 100 (.call 410 [(.t 96),(.t 98),(.t 99)])]))
 (.seq
 (.reg [rg 102 (.bin .eql (.t 25) (.c (.i .i64 8))),mv 101 102])
 (.cond (.t 101)
 (.seq
 (.reg [mv 103 0,rg 104 (.fad 1 (.t 4)),rg 105 (.load none (.t 104)),rg 106 (.load (some 3) (.t 5)),rg 107 (.call 410 [(.t 103),(.t 105),(.t 106)])])
 (.drawT [mv 108 0,rg 109 (.fad 2 (.t 4)),rg 110 (.load none (.t 109)),rg 111 (.load (some 3) (.t 5)),rg 112 (.call 213 [(.t 111)])]
 [rg 113 (.call 410 [(.t 108),(.t 110),(.t 112)])]))
 (.seq
 (.reg [rg 115 (.bin .eql (.t 25) (.c (.i .i64 9))),mv 114 115])
 (.cond (.t 114)
 (.seq
 (.drawT [mv 116 0,rg 117 (.fad 1 (.t 4)),rg 118 (.load none (.t 117)),rg 119 (.load (some 3) (.t 5)),mv 120 0,rg 121 (.nilc (.t 120)),rg 122 (.fad 4 (.t 121)),rg 123 (.load none (.t 122)),rg 124 (.fad 2 (.t 4)),rg 125 (.load none (.t 124)),rg 126 (.iad 3 (.t 123) (.t 125)),rg 127 (.load (some 3) (.t 126)),rg 128 (.call 217 [(.t 119),(.t 127)])]
 [rg 129 (.call 410 [(.t 116),(.t 118),(.t 128)])])
 (.drawT [mv 130 0,rg 131 (.fad 2 (.t 4)),rg 132 (.load none (.t 131)),rg 133 (.load (some 3) (.t 5)),mv 134 0,rg 135 (.nilc (.t 134)),rg 136 (.fad 4 (.t 135)),rg 137 (.load none (.t 136)),rg 138 (.fad 1 (.t 4)),rg 139 (.load none (.t 138)),rg 140 (.iad 3 (.t 137) (.t 139)),rg 141 (.load (some 3) (.t 140)),rg 142 (.call 217 [(.t 133),(.t 141)])]
 [rg 143 (.call 410 [(.t 130),(.t 132),(.t 142)])]))
 (.seq
 (.reg [rg 145 (.bin .eql (.t 25) (.c (.i .i64 10))),mv 144 145])
 (.cond (.t 144)
 (.drawT [mv 146 0,rg 147 (.load (some 6) (.t 4)),rg 148 (.load (some 3) (.t 5)),mv 149 0,rg 150 (.nilc (.t 149)),rg 151 (.fad 4 (.t 150)),rg 152 (.load none (.t 151)),mv 153 1,rg 154 (.iad 3 (.t 152) (.t 153)),rg 155 (.load (some 3) (.t 154))]
 [rg 156 (.call 427 [(.t 146),(.t 147),(.t 148),(.t 155)])])
 (.seq
 (.reg [rg 158 (.bin .eql (.t 25) (.c (.i .i64 11))),mv 157 158])
 (.cond (.t 157)
 (.drawT [mv 159 0,rg 160 (.load (some 6) (.t 4)),rg 161 (.load (some 3) (.t 5)),mv 162 0,rg 163 (.nilc (.t 162)),rg 164 (.fad 4 (.t 163)),rg 165 (.load none (.t 164)),mv 166 1,rg 167 (.iad 3 (.t 165) (.t 166)),rg 168 (.load (some 3) (.t 167))]
 [rg 169 (.call 428 [(.t 159),(.t 160),(.t 161),(.t 168)])])
 .skip))))))))))))))))))))))
def b414:AX:=
 (.seq
 (.reg [rg 1 (.xop (.box 5) [(.t 0)]),rg 2 (.mov (.c (.sl [] .nl)))])
 (.seq
 (.reg [rg 4 (.fad 0 (.t 1)),rg 5 (.load (some 3) (.t 4)),rg 6 (.bsl 3 [(.b false),(.sl [] .nl),(.sl [] .nl)] 1 [(0,(.t 5))]),rg 7 (.fad 3 (.t 1)),rg 8 (.load none (.t 7)),rg 9 (.app 3 (.t 6) (.t 8)),mv 3 9])
 (.seq
 (.reg [mv 10 3,rg 11 (.fad 4 (.t 1)),rg 12 (.load none (.t 11)),rg 13 (.app 3 (.t 10) (.t 12)),mv 2 13])
 (.pre (.norm false [2]) .ret))))
def b427:AX:=
 (.seq
 (.reg [rg 5 (.xop (.box 6) [(.t 1)]),rg 6 (.xop (.box 3) [(.t 2)]),rg 7 (.xop (.box 3) [(.t 3)])])
 (.seq
 (.draw [⟨rg 11 (.load (some 3) (.t 6)),0,1⟩,⟨mv 12 0,0,1⟩,⟨rg 13 (.nilc (.t 12)),0,1⟩,⟨rg 14 (.fad 4 (.t 13)),0,1⟩,⟨rg 15 (.load none (.t 14)),0,1⟩,⟨rg 16 (.fad 2 (.t 5)),0,1⟩,⟨rg 17 (.load none (.t 16)),0,1⟩,⟨rg 18 (.iad 3 (.t 15) (.t 17)),0,1⟩,⟨rg 19 (.load (some 3) (.t 18)),0,1⟩,⟨rg 20 (.call 218 [(.t 11),(.t 19)]),0,1⟩,⟨mv 10 20,0,1⟩,⟨rg 21 (.ext (.t 10) 0),0,1⟩,⟨rg 22 (.ext (.t 10) 1),0,2⟩,⟨rg 8 (.alloc [(.b false),(.sl [] .nl),(.sl [] .nl)]),0,1⟩,⟨so (.store 3 (.t 8) (.t 21)),1,2⟩,⟨mv 9 22,2,2⟩])
 (.seq
 (.reg [mv 23 0,rg 24 (.fad 1 (.t 5)),rg 25 (.load none (.t 24)),rg 26 (.load (some 3) (.t 8)),rg 27 (.call 410 [(.t 23),(.t 25),(.t 26)])])
 (.drawT [mv 28 0,rg 29 (.fad 2 (.t 5)),rg 30 (.load none (.t 29)),rg 31 (.load (some 3) (.t 8)),rg 32 (.load (some 3) (.t 7)),rg 33 (.call 217 [(.t 31),(.t 32)]),rg 34 (.call 213 [(.t 33)])]
 [rg 35 (.call 410 [(.t 28),(.t 30),(.t 34)])]))))
def b428:AX:=
 (.seq
 (.reg [rg 5 (.xop (.box 6) [(.t 1)]),rg 6 (.xop (.box 3) [(.t 2)]),rg 7 (.xop (.box 3) [(.t 3)])])
 (.seq
 (.reg [rg 9 (.call 205 [(.c (.i .i64 0))]),rg 8 (.alloc [(.b false),(.sl [] .nl),(.sl [] .nl)]),so (.store 3 (.t 8) (.t 9))])
 (.seq
 (.block 0
 (.seq
 (.reg [rg 11 (.fad 2 (.t 5)),rg 12 (.load none (.t 11)),rg 13 (.bin .gtr (.t 12) (.c (.i .i64 0))),mv 10 13])
 (.cond (.t 10)
 (.draw [⟨mv 15 0,0,0⟩,⟨rg 16 (.nilc (.t 15)),0,0⟩,⟨rg 17 (.fad 4 (.t 16)),0,0⟩,⟨rg 18 (.load none (.t 17)),0,0⟩,⟨rg 19 (.fad 1 (.t 5)),0,0⟩,⟨rg 20 (.load none (.t 19)),0,0⟩,⟨rg 21 (.iad 3 (.t 18) (.t 20)),0,0⟩,⟨rg 22 (.load (some 3) (.t 21)),0,0⟩,⟨rg 23 (.fad 2 (.t 5)),0,0⟩,⟨rg 24 (.load none (.t 23)),0,0⟩,⟨rg 25 (.bin .sub (.t 24) (.c (.i .i64 1))),0,0⟩,⟨rg 26 (.call 220 [(.t 22),(.t 25)]),0,0⟩,⟨mv 14 26,0,0⟩,⟨rg 27 (.ext (.t 14) 0),0,0⟩,⟨rg 28 (.ext (.t 14) 1),0,1⟩,⟨so (.store 3 (.t 8) (.t 27)),0,1⟩])
 (.seq
 (.reg [rg 30 (.fad 2 (.t 5)),rg 31 (.load none (.t 30)),rg 32 (.bin .lss (.t 31) (.c (.i .i64 0))),mv 29 32])
 (.cond (.t 29)
 (.draw [⟨rg 34 (.load (some 3) (.t 7)),0,0⟩,⟨mv 35 0,0,0⟩,⟨rg 36 (.nilc (.t 35)),0,0⟩,⟨rg 37 (.fad 4 (.t 36)),0,0⟩,⟨rg 38 (.load none (.t 37)),0,0⟩,⟨rg 39 (.fad 1 (.t 5)),0,0⟩,⟨rg 40 (.load none (.t 39)),0,0⟩,⟨rg 41 (.iad 3 (.t 38) (.t 40)),0,0⟩,⟨rg 42 (.load (some 3) (.t 41)),0,0⟩,⟨rg 43 (.call 218 [(.t 34),(.t 42)]),0,0⟩,⟨mv 33 43,0,0⟩,⟨rg 44 (.ext (.t 33) 0),0,0⟩,⟨rg 45 (.ext (.t 33) 1),0,1⟩,⟨so (.store 3 (.t 8) (.t 44)),0,1⟩])
 .skip)))))
 (.drawT [mv 46 0,rg 47 (.fad 1 (.t 5)),rg 48 (.load none (.t 47)),rg 49 (.load (some 3) (.t 6)),rg 50 (.fad 2 (.t 5)),rg 51 (.load none (.t 50)),rg 52 (.call 205 [(.t 51)]),rg 53 (.load (some 3) (.t 8)),rg 54 (.call 217 [(.t 52),(.t 53)]),rg 55 (.call 217 [(.t 49),(.t 54)])]
 [rg 56 (.call 410 [(.t 46),(.t 48),(.t 55)])]))))
def b2395:AX:=
 (.seq
 (.reg [rg 4 (.alloc [(.b false),(.sl [] .nl),(.sl [] .nl),(.sl [] .nl),(.sl [] .nl)])])
 (.seq
 (.reg [rg 5 (.call 205 [(.c (.i .i64 0))]),mv 6 0,rg 7 (.call 2263 [(.t 6)]),mv 8 1,rg 9 (.call 2263 [(.t 8)]),rg 10 (.build [(.b false),(.sl [] .nl),(.sl [] .nl),(.sl [] .nl),(.sl [] .nl)] [(0,3,(.t 5)),(3,1,(.t 7)),(4,1,(.t 9))]),so (.store 5 (.t 4) (.t 10))])
 (.pre (.norm false [4]) .ret)))
def row397:AFx:=⟨4,115,[.cell 8 (some 5),.cell 9 (some 4)],b397,none,false⟩
def row410:AFx:=⟨3,21,[],b410,(some [true,false,false]),false⟩
def row412:AFx:=⟨2,170,[],b412,(some [true,false]),false⟩
def row414:AFx:=⟨1,14,[.t 2],b414,none,false⟩
def row427:AFx:=⟨4,36,[],b427,(some [true,false,false,false]),false⟩
def row428:AFx:=⟨4,57,[],b428,(some [true,false,false,false]),false⟩
def row2395:AFx:=⟨2,11,[.cell 4 (some 5)],b2395,(some [false,false]),false⟩
class Z3 (T:Tbl):Prop where
 h397:T 397=some row397
 h410:T 410=some row410
 h412:T 412=some row412
 h414:T 414=some row414
 h427:T 427=some row427
 h428:T 428=some row428
 h2395:T 2395=some row2395
section
variable{T:Tbl}[Z3 T]{d:Option Nat}{st:St}{xs:List AV}{ps:List Opd}{e:Env}{h:Heap}{ol:List Heap}
@[simp] theorem y397:opD (orc T) T (.call 397 ps) e h ol=dP T 397 false ps e:=zak Z3.h397
@[simp] theorem x410:Zc (orc T) T 410 xs d st=cL T 410 false [true,false,false] xs d st:=zal Z3.h410
@[simp] theorem x412:Zc (orc T) T 412 xs d st=cL T 412 false [true,false] xs d st:=zal Z3.h412
@[simp] theorem x414:Zc (orc T) T 414 xs d st=cP T 414 false xs d st:=zab Z3.h414
@[simp] theorem x427:Zc (orc T) T 427 xs d st=cL T 427 false [true,false,false,false] xs d st:=zal Z3.h427
@[simp] theorem x428:Zc (orc T) T 428 xs d st=cL T 428 false [true,false,false,false] xs d st:=zal Z3.h428
@[simp] theorem x2395:Zc (orc T) T 2395 xs d st=cL T 2395 false [false,false] xs d st:=zal Z3.h2395
end
def l400_0:AX:=
 (.note
 (.seq
 (.reg [rg 33 (.bin .lss (.t 32) (.t 31))])
 (.seq
 (.cond (.t 33)
 .skip
 (.exit 0))
 (.seq
 (.block 1
 (.seq
 (.reg [mv 34 32,rg 35 (.iad 3 (.t 30) (.t 32)),rg 36 (.load (some 3) (.t 35)),rg 8 (.alloc [(.b false),(.sl [] .nl),(.sl [] .nl)]),mv 7 34,so (.store 3 (.t 8) (.t 36))])
 (.seq
 (.draw [⟨rg 38 (.fad 1 (.t 2)),0,1⟩,⟨rg 39 (.load none (.t 38)),0,1⟩,⟨mv 40 7,0,1⟩,⟨rg 41 (.iad 1 (.t 39) (.t 40)),0,1⟩,⟨rg 42 (.load none (.t 41)),0,1⟩,⟨rg 43 (.fad 3 (.t 3)),0,1⟩,⟨rg 44 (.load none (.t 43)),0,1⟩,⟨rg 45 (.call 270 [(.t 42),(.t 44)]),0,1⟩,⟨mv 37 45,0,1⟩,⟨rg 46 (.ext (.t 37) 0),0,1⟩,⟨rg 47 (.ext (.t 37) 1),0,2⟩,⟨rg 9 (.alloc [(.b false),(.sl [] .nl),(.sl [] .nl)]),0,1⟩,⟨so (.store 3 (.t 9) (.t 46)),1,2⟩,⟨mv 10 47,2,2⟩])
 (.seq
 (.draw [⟨rg 49 (.fad 2 (.t 2)),0,1⟩,⟨rg 50 (.load none (.t 49)),0,1⟩,⟨mv 51 7,0,1⟩,⟨rg 52 (.iad 1 (.t 50) (.t 51)),0,1⟩,⟨rg 53 (.load none (.t 52)),0,1⟩,⟨rg 54 (.fad 4 (.t 3)),0,1⟩,⟨rg 55 (.load none (.t 54)),0,1⟩,⟨rg 56 (.call 270 [(.t 53),(.t 55)]),0,1⟩,⟨mv 48 56,0,1⟩,⟨rg 57 (.ext (.t 48) 0),0,1⟩,⟨rg 58 (.ext (.t 48) 1),0,2⟩,⟨rg 11 (.alloc [(.b false),(.sl [] .nl),(.sl [] .nl)]),0,1⟩,⟨so (.store 3 (.t 11) (.t 57)),1,2⟩,⟨mv 12 58,2,2⟩])
 (.seq
 (.seq
 (.reg [mv 59 10,rg 60 (.un .not (.t 59)),mv 61 60,gd 62 61 false (.mov (.t 12)),gd 63 61 false (.un .not (.t 62)),rg 64 (.pick (.t 61) (.c (.b true)) (.t 63))])
 (.cond (.t 64)
 (.seq
 (.reg [rg 4 (.mov (.c (.sl [] .nl))),rg 5 (.mov (.c (.b false)))])
 (.pre (.norm false [4,5]) .ret))
 .skip))
 (.drawT [mv 65 6,rg 66 (.load (some 3) (.t 8)),rg 67 (.fad 0 (.t 3)),rg 68 (.load (some 3) (.t 67)),rg 69 (.call 217 [(.t 66),(.t 68)]),rg 70 (.load (some 3) (.t 9)),rg 71 (.load (some 3) (.t 11)),rg 72 (.call 215 [(.t 70),(.t 71)]),rg 73 (.call 215 [(.t 69),(.t 72)]),rg 74 (.bsl 3 [(.b false),(.sl [] .nl),(.sl [] .nl)] 1 [(0,(.t 73))])]
 [rg 75 (.app 3 (.t 65) (.t 74)),mv 6 75]))))))
 (.reg [rg 76 (.bin .add (.t 32) (.c (.i .i64 1))),mv 32 76]))))
 (.norm false [2,3,6,30,31,32]))
def b400:AX:=
 (.seq
 (.reg [rg 2 (.xop (.box 3) [(.t 0)]),rg 3 (.xop (.box 5) [(.t 1)]),rg 4 (.mov (.c (.sl [] .nl))),rg 5 (.mov (.c (.b false)))])
 (.seq
 (.seq
 (.reg [rg 13 (.fad 1 (.t 2)),rg 14 (.load none (.t 13)),rg 15 (.len (.t 14)),rg 16 (.fad 0 (.t 2)),rg 17 (.load none (.t 16)),rg 18 (.len (.t 17)),rg 19 (.bin .neq (.t 15) (.t 18)),mv 20 19,gd 21 20 false (.fad 2 (.t 2)),gd 22 20 false (.load none (.t 21)),gd 23 20 false (.len (.t 22)),gd 24 20 false (.fad 0 (.t 2)),gd 25 20 false (.load none (.t 24)),gd 26 20 false (.len (.t 25)),gd 27 20 false (.bin .neq (.t 23) (.t 26)),rg 28 (.pick (.t 20) (.c (.b true)) (.t 27))])
 (.cond (.t 28)
 (.seq
 (.reg [rg 4 (.mov (.c (.sl [] .nl))),rg 5 (.mov (.c (.b false)))])
 (.pre (.norm false [4,5]) .ret))
 .skip))
 (.seq
 (.note (.reg [rg 6 (.mov (.c (.sl [] .nl)))]) (.nil 6 3))
 (.seq
 (.seq
 (.reg [rg 29 (.fad 0 (.t 2)),rg 30 (.load none (.t 29)),rg 31 (.len (.t 30)),rg 32 (.mov (.c (.i .i64 0)))])
 (.lp 0 (.norm false [2,3,6,30,31,32]) l400_0 (.norm false [6])))
 (.seq
 (.reg [mv 77 6,mv 4 77,rg 5 (.mov (.c (.b true)))])
 (.pre (.norm false [4,5]) .ret))))))
def b401:AX:=
 (.seq
 (.reg [rg 2 (.xop (.box 3) [(.t 0)]),rg 3 (.xop (.box 3) [(.t 1)]),rg 4 (.mov (.c (.b false)))])
 (.seq
 (.reg [rg 5 (.fad 0 (.t 2)),rg 6 (.load none (.t 5)),rg 7 (.fad 0 (.t 3)),rg 8 (.load none (.t 7)),rg 9 (.call 265 [(.t 6),(.t 8)]),mv 10 9,gd 11 10 true (.fad 1 (.t 2)),gd 12 10 true (.load none (.t 11)),gd 13 10 true (.fad 1 (.t 3)),gd 14 10 true (.load none (.t 13)),gd 15 10 true (.call 293 [(.t 12),(.t 14)]),rg 16 (.pick (.t 10) (.t 15) (.c (.b false))),mv 17 16,gd 18 17 true (.fad 2 (.t 2)),gd 19 17 true (.load none (.t 18)),gd 20 17 true (.fad 2 (.t 3)),gd 21 17 true (.load none (.t 20)),gd 22 17 true (.call 293 [(.t 19),(.t 21)]),rg 23 (.pick (.t 17) (.t 22) (.c (.b false))),mv 4 23])
 (.pre (.norm false [4]) .ret)))
def l403_0:AX:=
 (.note
 (.seq
 (.reg [rg 34 (.bin .lss (.t 33) (.t 32))])
 (.seq
 (.cond (.t 34)
 .skip
 (.exit 0))
 (.seq
 (.block 1
 (.seq
 (.reg [rg 35 (.iad 5 (.t 31) (.t 33)),rg 36 (.load (some 5) (.t 35)),rg 12 (.alloc [(.b false),(.sl [] .nl),(.sl [] .nl),(.sl [] .nl),(.sl [] .nl)]),so (.store 5 (.t 12) (.t 36))])
 (.seq
 (.reg [rg 37 (.fad 0 (.t 10)),rg 38 (.load none (.t 37)),rg 39 (.fad 0 (.t 12)),rg 40 (.load (some 3) (.t 39)),rg 41 (.bsl 3 [(.b false),(.sl [] .nl),(.sl [] .nl)] 1 [(0,(.t 40))]),rg 42 (.app 3 (.t 38) (.t 41)),rg 43 (.fad 0 (.t 10)),so (.store 1 (.t 43) (.t 42))])
 (.seq
 (.reg [rg 44 (.fad 1 (.t 10)),rg 45 (.load none (.t 44)),rg 46 (.fad 3 (.t 12)),rg 47 (.load none (.t 46)),rg 48 (.bsl 1 [(.sl [] .nl)] 1 [(0,(.t 47))]),rg 49 (.app 1 (.t 45) (.t 48)),rg 50 (.fad 1 (.t 10)),so (.store 1 (.t 50) (.t 49))])
 (.reg [rg 51 (.fad 2 (.t 10)),rg 52 (.load none (.t 51)),rg 53 (.fad 4 (.t 12)),rg 54 (.load none (.t 53)),rg 55 (.bsl 1 [(.sl [] .nl)] 1 [(0,(.t 54))]),rg 56 (.app 1 (.t 52) (.t 55)),rg 57 (.fad 2 (.t 10)),so (.store 1 (.t 57) (.t 56))])))))
 (.reg [rg 58 (.bin .add (.t 33) (.c (.i .i64 1))),mv 33 58]))))
 (.norm false [6,7,9,10,31,32,33]))
def b403:AX:=
 (.seq
 (.reg [rg 3 (.xop (.box 4) [(.t 0)]),rg 4 (.xop (.box 5) [(.t 1)]),rg 6 (.alloc [(.sl [] .nl),(.sl [] .nl),(.sl [] .nl)]),rg 7 (.alloc [(.i .i64 0),(.i .i64 0),(.i .i64 0),(.i .i64 0)])])
 (.seq
 (.reg [rg 14 (.fad 1 (.t 3)),rg 15 (.load none (.t 14)),rg 16 (.len (.t 15)),rg 17 (.mm true [(.t 16),(.c (.i .i64 1))]),rg 18 (.load (some 4) (.t 3)),rg 19 (.load (some 5) (.t 4)),mv 20 2,rg 21 (.build [(.sl [] .nl),(.sl [] .nl),(.i .i64 0),(.i .i64 0),(.b false),(.sl [] .nl),(.sl [] .nl),(.sl [] .nl),(.sl [] .nl),(.i .i64 0)] [(0,4,(.t 18)),(4,5,(.t 19)),(9,1,(.t 20))]),rg 22 (.xop (.mkv 500416) [(.t 21)]),rg 23 (.call 415 [(.t 17),(.t 22)]),mv 13 23,rg 24 (.ext (.t 13) 0),rg 25 (.ext (.t 13) 1),rg 9 (.alloc [(.i .i64 0),(.i .i64 0),(.i .i64 0),(.i .i64 0)]),mv 8 24,so (.store 4 (.t 9) (.t 25))])
 (.seq
 (.seq
 (.reg [rg 26 (.load (some 4) (.t 9)),rg 27 (.build [(.i .i64 0),(.i .i64 0),(.i .i64 0),(.i .i64 0)] []),rg 28 (.eqs true [(0,.int),(1,.int),(2,.int),(3,.int)] (.t 26) (.t 27))])
 (.cond (.t 28)
 (.seq
 (.draw [⟨rg 29 (.build [(.sl [] .nl),(.sl [] .nl),(.sl [] .nl)] []),0,0⟩,⟨rg 30 (.load (some 4) (.t 9)),0,1⟩,⟨so (.store 3 (.t 6) (.t 29)),0,1⟩,⟨so (.store 4 (.t 7) (.t 30)),1,2⟩])
 (.pre (.norm false [6,7]) .ret))
 .skip))
 (.seq
 (.reg [rg 10 (.alloc [(.sl [] .nl),(.sl [] .nl),(.sl [] .nl)])])
 (.seq
 (.seq
 (.reg [mv 31 8,rg 32 (.len (.t 31)),rg 33 (.mov (.c (.i .i64 0)))])
 (.pre (.fld 10 0 0 3) (.pre (.fld 10 0 1 1) (.pre (.fld 10 0 2 1) (.lp 0 (.norm false [6,7,9,10,31,32,33]) l403_0 (.norm false [6,7,9,10]))))))
 (.seq
 (.draw [⟨rg 59 (.load (some 3) (.t 10)),0,0⟩,⟨rg 60 (.load (some 4) (.t 9)),0,1⟩,⟨so (.store 3 (.t 6) (.t 59)),0,1⟩,⟨so (.store 4 (.t 7) (.t 60)),1,2⟩])
 (.pre (.norm false [6,7]) .ret)))))))
def b404:AX:=
 (.seq
 (.reg [rg 3 (.xop (.box 4) [(.t 0)]),rg 4 (.xop (.box 5) [(.t 1)]),rg 6 (.alloc [(.sl [] .nl),(.sl [] .nl),(.sl [] .nl)]),rg 7 (.alloc [(.i .i64 0),(.i .i64 0),(.i .i64 0),(.i .i64 0)])])
 (.seq
 (.reg [rg 12 (.fad 3 (.t 4)),rg 13 (.load none (.t 12)),rg 14 (.len (.t 13)),mv 8 14])
 (.seq
 (.reg [mv 16 8,rg 17 (.bin .add (.c (.i .i64 1)) (.t 16)),rg 18 (.fad 4 (.t 4)),rg 19 (.load none (.t 18)),rg 20 (.len (.t 19)),rg 21 (.bin .add (.t 17) (.t 20)),rg 22 (.load (some 4) (.t 3)),rg 23 (.load (some 5) (.t 4)),mv 24 2,rg 25 (.build [(.sl [] .nl),(.sl [] .nl),(.i .i64 0),(.i .i64 0),(.b false),(.sl [] .nl),(.sl [] .nl),(.sl [] .nl),(.sl [] .nl),(.i .i64 0)] [(0,4,(.t 22)),(4,5,(.t 23)),(9,1,(.t 24))]),rg 26 (.xop (.mkv 500418) [(.t 25)]),rg 27 (.call 417 [(.t 21),(.t 26)]),mv 15 27,rg 28 (.ext (.t 15) 0),rg 29 (.ext (.t 15) 1),rg 10 (.alloc [(.i .i64 0),(.i .i64 0),(.i .i64 0),(.i .i64 0)]),mv 9 28,so (.store 4 (.t 10) (.t 29))])
 (.seq
 (.seq
 (.reg [rg 30 (.load (some 4) (.t 10)),rg 31 (.build [(.i .i64 0),(.i .i64 0),(.i .i64 0),(.i .i64 0)] []),rg 32 (.eqs true [(0,.int),(1,.int),(2,.int),(3,.int)] (.t 30) (.t 31))])
 (.cond (.t 32)
 (.seq
 (.draw [⟨rg 33 (.build [(.sl [] .nl),(.sl [] .nl),(.sl [] .nl)] []),0,0⟩,⟨rg 34 (.load (some 4) (.t 10)),0,1⟩,⟨so (.store 3 (.t 6) (.t 33)),0,1⟩,⟨so (.store 4 (.t 7) (.t 34)),1,2⟩])
 (.pre (.norm false [6,7]) .ret))
 .skip))
 (.seq
 (.reg [rg 35 (.fad 1 (.t 3)),rg 36 (.load none (.t 35)),rg 37 (.len (.t 36)),mv 11 37])
 (.seq
 (.draw [⟨mv 38 9,0,0⟩,⟨rg 39 (.iad 1 (.t 38) (.c (.i .i64 0))),0,0⟩,⟨rg 40 (.load none (.t 39)),0,0⟩,⟨mv 41 9,0,0⟩,⟨mv 42 8,0,0⟩,⟨rg 43 (.bin .add (.c (.i .i64 1)) (.t 42)),0,0⟩,⟨rg 44 (.slc 1 (.t 41) (some (.c (.i .i64 1))) (some (.t 43)) none),0,0⟩,⟨mv 45 11,0,0⟩,⟨rg 46 (.call 419 [(.t 44),(.t 45)]),0,0⟩,⟨mv 47 9,0,0⟩,⟨mv 48 8,0,0⟩,⟨rg 49 (.bin .add (.c (.i .i64 1)) (.t 48)),0,0⟩,⟨rg 50 (.slc 1 (.t 47) (some (.t 49)) none none),0,0⟩,⟨mv 51 11,0,0⟩,⟨rg 52 (.call 419 [(.t 50),(.t 51)]),0,0⟩,⟨rg 53 (.build [(.sl [] .nl),(.sl [] .nl),(.sl [] .nl)] [(0,1,(.t 40)),(1,1,(.t 46)),(2,1,(.t 52))]),0,0⟩,⟨rg 54 (.load (some 4) (.t 10)),0,1⟩,⟨so (.store 3 (.t 6) (.t 53)),0,1⟩,⟨so (.store 4 (.t 7) (.t 54)),1,2⟩])
 (.pre (.norm false [6,7]) .ret)))))))
def l415_0:AX:=
 (.note
 (.seq
 (.reg [rg 12 (.bin .lss (.t 11) (.t 10))])
 (.seq
 (.cond (.t 12)
 .skip
 (.exit 0))
 (.seq
 (.block 1
 (.seq
 (.reg [mv 13 11,mv 7 13])
 (.seq
 (.reg [mv 15 1,mv 16 7,rg 17 (.inv "()" 500416 416 (.t 15) [(.t 16)]),mv 14 17,rg 18 (.ext (.t 14) 0),rg 19 (.ext (.t 14) 1),rg 8 (.alloc [(.b false),(.sl [] .nl),(.sl [] .nl),(.sl [] .nl),(.sl [] .nl)]),rg 9 (.alloc [(.i .i64 0),(.i .i64 0),(.i .i64 0),(.i .i64 0)]),so (.store 5 (.t 8) (.t 18)),so (.store 4 (.t 9) (.t 19))])
 (.seq
 (.seq
 (.reg [rg 20 (.load (some 4) (.t 9)),rg 21 (.build [(.i .i64 0),(.i .i64 0),(.i .i64 0),(.i .i64 0)] []),rg 22 (.eqs true [(0,.int),(1,.int),(2,.int),(3,.int)] (.t 20) (.t 21))])
 (.cond (.t 22)
 (.seq
 (.drawT [rg 23 (.load (some 4) (.t 9)),rg 4 (.mov (.c (.sl [] .nl)))]
 [so (.store 4 (.t 5) (.t 23))])
 (.pre (.norm false [4,5]) .ret))
 .skip))
 (.reg [mv 24 6,rg 25 (.load (some 5) (.t 8)),rg 26 (.bsl 5 [(.b false),(.sl [] .nl),(.sl [] .nl),(.sl [] .nl),(.sl [] .nl)] 1 [(0,(.t 25))]),rg 27 (.app 5 (.t 24) (.t 26)),mv 6 27])))))
 (.reg [rg 28 (.bin .add (.t 11) (.c (.i .i64 1))),mv 11 28]))))
 (.norm false [1,5,6,10,11]))
def b415:AX:=
 (.seq
 (.reg [rg 4 (.mov (.c (.sl [] .nl))),rg 5 (.alloc [(.i .i64 0),(.i .i64 0),(.i .i64 0),(.i .i64 0)])])
 (.seq
 (.note (.reg [rg 6 (.mov (.c (.sl [] .nl)))]) (.nil 6 5))
 (.seq
 (.seq
 (.reg [mv 10 0,rg 11 (.mov (.c (.i .i64 0)))])
 (.lp 0 (.norm false [1,5,6,10,11]) l415_0 (.norm false [5,6])))
 (.seq
 (.reg [mv 29 6,rg 30 (.build [(.i .i64 0),(.i .i64 0),(.i .i64 0),(.i .i64 0)] []),mv 4 29,so (.store 4 (.t 5) (.t 30))])
 (.pre (.norm false [4,5]) .ret)))))
def b416:AX:=
 (.seq
 (.reg [rg 2 (.xop (.box 10) [(.t 0)]),rg 4 (.alloc [(.b false),(.sl [] .nl),(.sl [] .nl),(.sl [] .nl),(.sl [] .nl)]),rg 5 (.alloc [(.i .i64 0),(.i .i64 0),(.i .i64 0),(.i .i64 0)])])
 (.seq
 (.drawT [rg 6 (.fad 0 (.t 2)),rg 7 (.load (some 4) (.t 6)),rg 8 (.fad 4 (.t 2)),rg 9 (.load (some 5) (.t 8)),rg 10 (.fad 0 (.t 2)),rg 11 (.fad 1 (.t 10)),rg 12 (.load none (.t 11)),rg 13 (.len (.t 12)),mv 14 1,rg 15 (.call 264 [(.t 13),(.t 14)]),rg 16 (.fad 9 (.t 2)),rg 17 (.load none (.t 16)),rg 18 (.call 397 [(.t 7),(.t 9),(.t 15),(.t 17)]),rg 19 (.ext (.t 18) 0),rg 20 (.ext (.t 18) 1)]
 [so (.store 5 (.t 4) (.t 19)),so (.store 4 (.t 5) (.t 20))])
 (.pre (.norm false [4,5]) .ret)))
def l417_0:AX:=
 (.note
 (.seq
 (.reg [rg 12 (.bin .lss (.t 11) (.t 10))])
 (.seq
 (.cond (.t 12)
 .skip
 (.exit 0))
 (.seq
 (.block 1
 (.seq
 (.reg [mv 13 11,mv 7 13])
 (.seq
 (.reg [mv 15 1,mv 16 7,rg 17 (.inv "()" 500418 418 (.t 15) [(.t 16)]),mv 14 17,rg 18 (.ext (.t 14) 0),rg 19 (.ext (.t 14) 1),rg 9 (.alloc [(.i .i64 0),(.i .i64 0),(.i .i64 0),(.i .i64 0)]),mv 8 18,so (.store 4 (.t 9) (.t 19))])
 (.seq
 (.seq
 (.reg [rg 20 (.load (some 4) (.t 9)),rg 21 (.build [(.i .i64 0),(.i .i64 0),(.i .i64 0),(.i .i64 0)] []),rg 22 (.eqs true [(0,.int),(1,.int),(2,.int),(3,.int)] (.t 20) (.t 21))])
 (.cond (.t 22)
 (.seq
 (.drawT [rg 23 (.load (some 4) (.t 9)),rg 4 (.mov (.c (.sl [] .nl)))]
 [so (.store 4 (.t 5) (.t 23))])
 (.pre (.norm false [4,5]) .ret))
 .skip))
 (.reg [mv 24 6,mv 25 8,rg 26 (.bsl 1 [(.sl [] .nl)] 1 [(0,(.t 25))]),rg 27 (.app 1 (.t 24) (.t 26)),mv 6 27])))))
 (.reg [rg 28 (.bin .add (.t 11) (.c (.i .i64 1))),mv 11 28]))))
 (.norm false [1,5,6,10,11]))
def b417:AX:=
 (.seq
 (.reg [rg 4 (.mov (.c (.sl [] .nl))),rg 5 (.alloc [(.i .i64 0),(.i .i64 0),(.i .i64 0),(.i .i64 0)])])
 (.seq
 (.note (.reg [rg 6 (.mov (.c (.sl [] .nl)))]) (.nil 6 1))
 (.seq
 (.seq
 (.reg [mv 10 0,rg 11 (.mov (.c (.i .i64 0)))])
 (.lp 0 (.norm false [1,5,6,10,11]) l417_0 (.norm false [5,6])))
 (.seq
 (.reg [mv 29 6,rg 30 (.build [(.i .i64 0),(.i .i64 0),(.i .i64 0),(.i .i64 0)] []),mv 4 29,so (.store 4 (.t 5) (.t 30))])
 (.pre (.norm false [4,5]) .ret)))))
def b418:AX:=
 (.seq
 (.reg [rg 2 (.xop (.box 10) [(.t 0)]),rg 4 (.mov (.c (.sl [] .nl))),rg 5 (.alloc [(.i .i64 0),(.i .i64 0),(.i .i64 0),(.i .i64 0)])])
 (.seq
 (.reg [rg 11 (.load (some 10) (.t 2)),rg 12 (.call 429 [(.t 11)]),rg 6 (.alloc [(.b false),(.sl [] .nl),(.sl [] .nl),(.sl [] .nl),(.sl [] .nl)]),so (.store 5 (.t 6) (.t 12))])
 (.seq
 (.reg [rg 13 (.fad 4 (.t 2)),rg 14 (.fad 3 (.t 13)),rg 15 (.load none (.t 14)),rg 16 (.len (.t 15)),mv 7 16])
 (.seq
 (.block 0
 (.seq
 (.reg [mv 28 1,rg 29 (.bin .eql (.t 28) (.c (.i .i64 0))),mv 27 29])
 (.cond (.t 27)
 (.reg [rg 30 (.call 205 [(.c (.i .i64 1))]),rg 31 (.fad 0 (.t 6)),so (.store 3 (.t 31) (.t 30))])
 (.seq
 (.reg [mv 33 1,mv 34 7,rg 35 (.bin .leq (.t 33) (.t 34)),mv 32 35])
 (.cond (.t 32)
 (.reg [mv 36 7,mv 37 1,rg 38 (.bin .sub (.t 37) (.c (.i .i64 1))),rg 39 (.call 264 [(.t 36),(.t 38)]),rg 40 (.fad 3 (.t 6)),so (.store 1 (.t 40) (.t 39))])
 (.reg [rg 17 (.fad 4 (.t 2)),rg 18 (.fad 4 (.t 17)),rg 19 (.load none (.t 18)),rg 20 (.len (.t 19)),mv 21 1,rg 22 (.bin .sub (.t 21) (.c (.i .i64 1))),mv 23 7,rg 24 (.bin .sub (.t 22) (.t 23)),rg 25 (.call 264 [(.t 20),(.t 24)]),rg 26 (.fad 4 (.t 6)),so (.store 1 (.t 26) (.t 25))]))))))
 (.seq
 (.reg [rg 42 (.fad 0 (.t 2)),rg 43 (.load (some 4) (.t 42)),rg 44 (.fad 4 (.t 2)),rg 45 (.load (some 5) (.t 44)),rg 46 (.load (some 5) (.t 6)),rg 47 (.fad 9 (.t 2)),rg 48 (.load none (.t 47)),rg 49 (.call 388 [(.t 43),(.t 45),(.t 46),(.t 48)]),mv 41 49,rg 50 (.ext (.t 41) 0),rg 51 (.ext (.t 41) 1),rg 52 (.ext (.t 41) 2),rg 10 (.alloc [(.i .i64 0),(.i .i64 0),(.i .i64 0),(.i .i64 0)]),mv 8 50,mv 9 51,so (.store 4 (.t 10) (.t 52))])
 (.seq
 (.drawT [mv 53 9,rg 54 (.load (some 4) (.t 10)),mv 4 53]
 [so (.store 4 (.t 5) (.t 54))])
 (.pre (.norm false [4,5]) .ret)))))))
def b419:AX:=
 (.seq
 (.reg [rg 4 (.mov (.c (.sl [] .nl)))])
 (.seq
 (.seq
 (.reg [mv 5 0,rg 6 (.len (.t 5)),rg 7 (.bin .eql (.t 6) (.c (.i .i64 0)))])
 (.cond (.t 7)
 (.seq
 (.reg [mv 8 1,rg 9 (.mks 1 [(.sl [] .nl)] (.t 8) (.t 8)),mv 4 9])
 (.pre (.norm false [4]) .ret))
 .skip))
 (.seq
 (.reg [mv 10 0,rg 11 (.call 294 [(.t 10)]),mv 4 11])
 (.pre (.norm false [4]) .ret))))
def b429:AX:=
 (.seq
 (.reg [rg 1 (.xop (.box 10) [(.t 0)]),rg 2 (.alloc [(.b false),(.sl [] .nl),(.sl [] .nl),(.sl [] .nl),(.sl [] .nl)])])
 (.seq
 (.drawT [rg 3 (.fad 4 (.t 1)),rg 4 (.fad 3 (.t 3)),rg 5 (.load none (.t 4)),rg 6 (.len (.t 5)),rg 7 (.call 263 [(.t 6)]),rg 8 (.fad 4 (.t 1)),rg 9 (.fad 4 (.t 8)),rg 10 (.load none (.t 9)),rg 11 (.len (.t 10))]
 [rg 12 (.call 263 [(.t 11)]),rg 13 (.build [(.b false),(.sl [] .nl),(.sl [] .nl),(.sl [] .nl),(.sl [] .nl)] [(3,1,(.t 7)),(4,1,(.t 12))]),so (.store 5 (.t 2) (.t 13))])
 (.pre (.norm false [2]) .ret)))
def row400:AFx:=⟨2,78,[.t 4,.t 5],b400,none,false⟩
def row401:AFx:=⟨2,24,[.t 4],b401,none,false⟩
def row403:AFx:=⟨3,61,[.cell 6 (some 3),.cell 7 (some 4)],b403,none,false⟩
def row404:AFx:=⟨3,55,[.cell 6 (some 3),.cell 7 (some 4)],b404,none,false⟩
def row415:AFx:=⟨2,31,[.t 4,.cell 5 (some 4)],b415,none,false⟩
def row416:AFx:=⟨2,21,[.cell 4 (some 5),.cell 5 (some 4)],b416,none,false⟩
def row417:AFx:=⟨2,31,[.t 4,.cell 5 (some 4)],b417,none,false⟩
def row418:AFx:=⟨2,55,[.t 4,.cell 5 (some 4)],b418,none,false⟩
def row419:AFx:=⟨2,12,[.t 4],b419,none,false⟩
def row429:AFx:=⟨1,14,[.cell 2 (some 5)],b429,none,false⟩
class Z1 (T:Tbl):Prop where
 h400:T 400=some row400
 h401:T 401=some row401
 h403:T 403=some row403
 h404:T 404=some row404
 h415:T 415=some row415
 h416:T 416=some row416
 h417:T 417=some row417
 h418:T 418=some row418
 h419:T 419=some row419
 h429:T 429=some row429
section
variable{T:Tbl}[Z1 T]{d:Option Nat}{st:St}{xs:List AV}{ps:List Opd}{e:Env}{h:Heap}{ol:List Heap}
@[simp] theorem y400:opD (orc T) T (.call 400 ps) e h ol=dP T 400 false ps e:=zak Z1.h400
@[simp] theorem x401:Zc (orc T) T 401 xs d st=cP T 401 false xs d st:=zab Z1.h401
@[simp] theorem x403:Zc (orc T) T 403 xs d st=cP T 403 false xs d st:=zab Z1.h403
@[simp] theorem x404:Zc (orc T) T 404 xs d st=cP T 404 false xs d st:=zab Z1.h404
@[simp] theorem x415:Zc (orc T) T 415 xs d st=cP T 415 false xs d st:=zab Z1.h415
@[simp] theorem x416:Zc (orc T) T 416 xs d st=cP T 416 false xs d st:=zab Z1.h416
@[simp] theorem x417:Zc (orc T) T 417 xs d st=cP T 417 false xs d st:=zab Z1.h417
@[simp] theorem x418:Zc (orc T) T 418 xs d st=cP T 418 false xs d st:=zab Z1.h418
@[simp] theorem y419:opD (orc T) T (.call 419 ps) e h ol=dP T 419 false ps e:=zak Z1.h419
@[simp] theorem x429:Zc (orc T) T 429 xs d st=cP T 429 false xs d st:=zab Z1.h429
end
def l301_0:AX:=
 (.note
 (.seq
 (.seq
 (.reg [mv 5 4,mv 6 0,rg 7 (.len (.t 6)),rg 8 (.bin .lss (.t 5) (.t 7))])
 (.cond (.t 8)
 .skip
 (.exit 0)))
 (.seq
 (.block 1
 (.reg [mv 11 3,mv 12 0,mv 13 4,rg 14 (.iad 1 (.t 12) (.t 13)),rg 15 (.load none (.t 14)),rg 16 (.call 278 [(.t 15)]),rg 17 (.bsl 1 [(.sl [] .nl)] 1 [(0,(.t 16))]),rg 18 (.app 1 (.t 11) (.t 17)),mv 3 18]))
 (.reg [mv 9 4,rg 10 (.bin .add (.t 9) (.c (.i .i64 1))),mv 4 10])))
 (.norm false [0,3,4]))
def b301:AX:=
 (.seq
 (.reg [rg 2 (.mov (.c (.sl [] .nl)))])
 (.seq
 (.note (.reg [rg 3 (.mov (.c (.sl [] .nl)))]) (.nil 3 1))
 (.seq
 (.seq
 (.reg [rg 4 (.mov (.c (.i .i64 0)))])
 (.lp 0 (.norm false [0,3,4]) l301_0 (.norm false [3])))
 (.seq
 (.reg [mv 19 3,mv 2 19])
 (.pre (.norm false [2]) .ret)))))
def l302_0:AX:=
 (.note
 (.seq
 (.seq
 (.reg [mv 11 5,mv 12 0,rg 13 (.len (.t 12)),rg 14 (.bin .lss (.t 11) (.t 13))])
 (.cond (.t 14)
 .skip
 (.exit 0)))
 (.seq
 (.block 1
 (.seq
 (.drawT [mv 17 0,mv 18 5,rg 19 (.iad 1 (.t 17) (.t 18)),rg 20 (.load none (.t 19)),mv 21 1,mv 22 5,rg 23 (.iad 1 (.t 21) (.t 22)),rg 24 (.load none (.t 23))]
 [rg 25 (.call 279 [(.t 20),(.t 24)]),rg 26 (.un .not (.t 25))])
 (.cond (.t 26)
 (.seq
 (.reg [rg 4 (.mov (.c (.b false)))])
 (.pre (.norm false [4]) .ret))
 .skip)))
 (.reg [mv 15 5,rg 16 (.bin .add (.t 15) (.c (.i .i64 1))),mv 5 16])))
 (.norm false [0,1,5]))
def b302:AX:=
 (.seq
 (.reg [rg 4 (.mov (.c (.b false)))])
 (.seq
 (.seq
 (.reg [mv 6 0,rg 7 (.len (.t 6)),mv 8 1,rg 9 (.len (.t 8)),rg 10 (.bin .neq (.t 7) (.t 9))])
 (.cond (.t 10)
 (.seq
 (.reg [rg 4 (.mov (.c (.b false)))])
 (.pre (.norm false [4]) .ret))
 .skip))
 (.seq
 (.seq
 (.reg [rg 5 (.mov (.c (.i .i64 0)))])
 (.lp 0 (.norm false [0,1,5]) l302_0 (.norm false [])))
 (.seq
 (.reg [rg 4 (.mov (.c (.b true)))])
 (.pre (.norm false [4]) .ret)))))
def l307_0:AX:=
 (.note
 (.seq
 (.seq
 (.reg [mv 8 7,mv 9 0,rg 10 (.len (.t 9)),rg 11 (.bin .lss (.t 8) (.t 10)),mv 12 11,gd 13 12 true (.mov (.t 7)),gd 14 12 true (.mov (.t 1)),gd 15 12 true (.bin .lss (.t 13) (.t 14)),rg 16 (.pick (.t 12) (.t 15) (.c (.b false)))])
 (.cond (.t 16)
 .skip
 (.exit 0)))
 (.seq
 (.block 1
 (.seq
 (.reg [mv 19 0,mv 20 7,rg 21 (.iad 1 (.t 19) (.t 20)),rg 22 (.load none (.t 21)),mv 23 1,mv 24 2,rg 25 (.call 286 [(.t 22),(.t 23),(.t 24)])])
 (.cond (.t 25)
 (.seq
 (.reg [rg 6 (.mov (.c (.b true)))])
 (.pre (.norm false [6]) .ret))
 .skip)))
 (.reg [mv 17 7,rg 18 (.bin .add (.t 17) (.c (.i .i64 1))),mv 7 18])))
 (.norm false [0,1,2,7]))
def b307:AX:=
 (.seq
 (.reg [rg 6 (.mov (.c (.b false)))])
 (.seq
 (.seq
 (.reg [rg 7 (.mov (.c (.i .i64 0)))])
 (.lp 0 (.norm false [0,1,2,7]) l307_0 (.norm false [0,1])))
 (.seq
 (.reg [mv 26 0,rg 27 (.len (.t 26)),mv 28 1,rg 29 (.bin .gtr (.t 27) (.t 28)),mv 6 29])
 (.pre (.norm false [6]) .ret))))
def row301:AFx:=⟨1,20,[.t 2],b301,none,false⟩
def row302:AFx:=⟨2,27,[.t 4],b302,none,false⟩
def row307:AFx:=⟨3,30,[.t 6],b307,none,false⟩
class Zcp (T:Tbl):Prop where
 h301:T 301=some row301
 h302:T 302=some row302
 h307:T 307=some row307
section
variable{T:Tbl}[Zcp T]{d:Option Nat}{st:St}{xs:List AV}{ps:List Opd}{e:Env}{h:Heap}{ol:List Heap}
@[simp] theorem x301:Zc (orc T) T 301 xs d st=cP T 301 false xs d st:=zab Zcp.h301
@[simp] theorem y301:opD (orc T) T (.call 301 ps) e h ol=dP T 301 false ps e:=zak Zcp.h301
@[simp] theorem x302:Zc (orc T) T 302 xs d st=cP T 302 false xs d st:=zab Zcp.h302
@[simp] theorem y302:opD (orc T) T (.call 302 ps) e h ol=dP T 302 false ps e:=zak Zcp.h302
@[simp] theorem x307:Zc (orc T) T 307 xs d st=cP T 307 false xs d st:=zab Zcp.h307
end
def b402:AX:=
 (.seq
 (.reg [rg 1 (.xop (.box 5) [(.t 0)]),rg 2 (.alloc [(.b false),(.sl [] .nl),(.sl [] .nl),(.sl [] .nl),(.sl [] .nl)])])
 (.seq
 (.drawT [rg 3 (.fad 0 (.t 1)),rg 4 (.load (some 3) (.t 3)),rg 5 (.call 231 [(.t 4)]),rg 6 (.fad 3 (.t 1)),rg 7 (.load none (.t 6)),rg 8 (.call 278 [(.t 7)]),rg 9 (.fad 4 (.t 1)),rg 10 (.load none (.t 9))]
 [rg 11 (.call 278 [(.t 10)]),rg 12 (.build [(.b false),(.sl [] .nl),(.sl [] .nl),(.sl [] .nl),(.sl [] .nl)] [(0,3,(.t 5)),(3,1,(.t 8)),(4,1,(.t 11))]),so (.store 5 (.t 2) (.t 12))])
 (.pre (.norm false [2]) .ret)))
def row402:AFx:=⟨1,13,[.cell 2 (some 5)],b402,none,false⟩
class Ze0 (T:Tbl):Prop where
 h402:T 402=some row402
section
variable{T:Tbl}[Ze0 T]{d:Option Nat}{st:St}{xs:List AV}{ps:List Opd}{e:Env}{h:Heap}{ol:List Heap}
@[simp] theorem x402:Zc (orc T) T 402 xs d st=cP T 402 false xs d st:=zab Ze0.h402
end
def l308_0:AX:=
 (.note
 (.seq
 (.seq
 (.reg [mv 5 4,mv 6 0,rg 7 (.len (.t 6)),rg 8 (.bin .lss (.t 5) (.t 7))])
 (.cond (.t 8)
 .skip
 (.exit 0)))
 (.seq
 (.block 1
 (.reg [mv 11 3,mv 12 0,mv 13 4,rg 14 (.iad 1 (.t 12) (.t 13)),rg 15 (.load none (.t 14)),rg 16 (.call 287 [(.t 15)]),rg 17 (.bsl 1 [(.sl [] .nl)] 1 [(0,(.t 16))]),rg 18 (.app 1 (.t 11) (.t 17)),mv 3 18]))
 (.reg [mv 9 4,rg 10 (.bin .add (.t 9) (.c (.i .i64 1))),mv 4 10])))
 (.norm false [0,3,4]))
def b308:AX:=
 (.seq
 (.reg [rg 2 (.mov (.c (.sl [] .nl)))])
 (.seq
 (.note (.reg [rg 3 (.mov (.c (.sl [] .nl)))]) (.nil 3 1))
 (.seq
 (.seq
 (.reg [rg 4 (.mov (.c (.i .i64 0)))])
 (.lp 0 (.norm false [0,3,4]) l308_0 (.norm false [3])))
 (.seq
 (.reg [mv 19 3,mv 2 19])
 (.pre (.norm false [2]) .ret)))))
def row308:AFx:=⟨1,20,[.t 2],b308,none,false⟩
class Zfi (T:Tbl):Prop where
 h308:T 308=some row308
section
variable{T:Tbl}[Zfi T]{d:Option Nat}{st:St}{xs:List AV}{ps:List Opd}{e:Env}{h:Heap}{ol:List Heap}
@[simp] theorem y308:opD (orc T) T (.call 308 ps) e h ol=dP T 308 false ps e:=zak Zfi.h308
end
def l377_0:AX:=
 (.note
 (.seq
 (.seq
 (.reg [mv 93 12,rg 94 (.fad 0 (.t 3)),rg 95 (.load none (.t 94)),rg 96 (.len (.t 95)),rg 97 (.bin .lss (.t 93) (.t 96)),mv 98 97,gd 99 98 true (.mov (.t 11)),rg 100 (.pick (.t 98) (.t 99) (.c (.b false)))])
 (.cond (.t 100)
 .skip
 (.exit 0)))
 (.seq
 (.block 1
 (.drawT [rg 103 (.fad 1 (.t 3)),rg 104 (.load none (.t 103)),mv 105 12,rg 106 (.iad 1 (.t 104) (.t 105)),rg 107 (.load none (.t 106)),rg 108 (.len (.t 107)),rg 109 (.fad 3 (.t 5)),rg 110 (.load none (.t 109)),rg 111 (.len (.t 110)),rg 112 (.bin .eql (.t 108) (.t 111)),mv 113 112,gd 114 113 true (.fad 2 (.t 3)),gd 115 113 true (.load none (.t 114)),gd 116 113 true (.mov (.t 12)),gd 117 113 true (.iad 1 (.t 115) (.t 116)),gd 118 113 true (.load none (.t 117)),gd 119 113 true (.len (.t 118)),gd 120 113 true (.fad 4 (.t 5)),gd 121 113 true (.load none (.t 120)),gd 122 113 true (.len (.t 121))]
 [gd 123 113 true (.bin .eql (.t 119) (.t 122)),rg 124 (.pick (.t 113) (.t 123) (.c (.b false))),mv 11 124]))
 (.reg [mv 101 12,rg 102 (.bin .add (.t 101) (.c (.i .i64 1))),mv 12 102])))
 (.norm false [3,4,5,7,8,9,10,11,12]))
def l377_1:AX:=
 (.note
 (.seq
 (.seq
 (.reg [mv 176 15,mv 177 9,rg 178 (.len (.t 177)),rg 179 (.bin .lss (.t 176) (.t 178))])
 (.cond (.t 179)
 .skip
 (.exit 2)))
 (.seq
 (.block 3
 (.seq
 (.draw [⟨rg 182 (.fad 1 (.t 3)),0,1⟩,⟨rg 183 (.load none (.t 182)),0,1⟩,⟨mv 184 15,0,1⟩,⟨rg 185 (.iad 1 (.t 183) (.t 184)),0,1⟩,⟨rg 186 (.load none (.t 185)),0,1⟩,⟨rg 187 (.call 278 [(.t 186)]),0,1⟩,⟨rg 188 (.fad 3 (.t 14)),0,1⟩,⟨rg 189 (.load none (.t 188)),0,1⟩,⟨rg 190 (.call 282 [(.t 187),(.t 189)]),0,1⟩,⟨rg 191 (.fad 2 (.t 3)),0,1⟩,⟨rg 192 (.load none (.t 191)),0,1⟩,⟨mv 193 15,0,1⟩,⟨rg 194 (.iad 1 (.t 192) (.t 193)),0,1⟩,⟨rg 195 (.load none (.t 194)),0,1⟩,⟨rg 196 (.call 278 [(.t 195)]),0,1⟩,⟨rg 197 (.fad 4 (.t 14)),0,1⟩,⟨rg 198 (.load none (.t 197)),0,1⟩,⟨rg 199 (.call 282 [(.t 196),(.t 198)]),0,1⟩,⟨rg 200 (.call 239 [(.t 190),(.t 199)]),0,1⟩,⟨rg 16 (.alloc [(.b false),(.sl [] .nl),(.sl [] .nl)]),0,1⟩,⟨so (.store 3 (.t 16) (.t 200)),1,2⟩])
 (.seq
 (.drawT [rg 201 (.load (some 3) (.t 16)),rg 202 (.fad 0 (.t 3)),rg 203 (.load none (.t 202)),mv 204 15,rg 205 (.iad 3 (.t 203) (.t 204)),rg 206 (.load (some 3) (.t 205)),rg 207 (.call 231 [(.t 206)]),rg 208 (.fad 0 (.t 14)),rg 209 (.load (some 3) (.t 208)),rg 210 (.call 241 [(.t 207),(.t 209)])]
 [rg 211 (.call 239 [(.t 201),(.t 210)]),so (.store 3 (.t 16) (.t 211))])
 (.seq
 (.drawT [mv 212 9,mv 213 15,rg 214 (.iad 3 (.t 212) (.t 213)),rg 215 (.load (some 3) (.t 214)),rg 216 (.load (some 3) (.t 16))]
 [rg 217 (.call 250 [(.t 215),(.t 216)]),rg 218 (.un .not (.t 217))])
 (.cond (.t 218)
 (.seq
 (.reg [rg 6 (.mov (.c (.b false)))])
 (.pre (.norm false [6]) .ret))
 .skip)))))
 (.reg [mv 180 15,rg 181 (.bin .add (.t 180) (.c (.i .i64 1))),mv 15 181])))
 (.norm false [3,9,14,15]))
def b377:AX:=
 (.seq
 (.reg [rg 3 (.xop (.box 3) [(.t 0)]),rg 4 (.xop (.box 3) [(.t 1)]),rg 5 (.xop (.box 5) [(.t 2)]),rg 6 (.mov (.c (.b false)))])
 (.seq
 (.seq
 (.reg [rg 17 (.fad 0 (.t 3)),rg 18 (.load none (.t 17)),rg 19 (.call 286 [(.t 18),(.c (.i .i64 5)),(.c (.i .i64 2))]),mv 20 19,gd 21 20 false (.fad 1 (.t 3)),gd 22 20 false (.load none (.t 21)),gd 23 20 false (.call 307 [(.t 22),(.c (.i .i64 5)),(.c (.i .i64 2))]),rg 24 (.pick (.t 20) (.c (.b true)) (.t 23)),mv 25 24,gd 26 25 false (.fad 2 (.t 3)),gd 27 25 false (.load none (.t 26)),gd 28 25 false (.call 307 [(.t 27),(.c (.i .i64 5)),(.c (.i .i64 2))]),rg 29 (.pick (.t 25) (.c (.b true)) (.t 28)),mv 30 29,gd 31 30 false (.fad 0 (.t 4)),gd 32 30 false (.load none (.t 31)),gd 33 30 false (.call 286 [(.t 32),(.c (.i .i64 5)),(.c (.i .i64 2))]),rg 34 (.pick (.t 30) (.c (.b true)) (.t 33)),mv 35 34,gd 36 35 false (.fad 1 (.t 4)),gd 37 35 false (.load none (.t 36)),gd 38 35 false (.call 307 [(.t 37),(.c (.i .i64 5)),(.c (.i .i64 2))]),rg 39 (.pick (.t 35) (.c (.b true)) (.t 38)),mv 40 39,gd 41 40 false (.fad 2 (.t 4)),gd 42 40 false (.load none (.t 41)),gd 43 40 false (.call 307 [(.t 42),(.c (.i .i64 5)),(.c (.i .i64 2))]),rg 44 (.pick (.t 40) (.c (.b true)) (.t 43)),mv 45 44,gd 46 45 false (.load (some 5) (.t 5)),gd 47 45 false (.call 380 [(.t 46),(.c (.i .i64 5)),(.c (.i .i64 2))]),rg 48 (.pick (.t 45) (.c (.b true)) (.t 47))])
 (.cond (.t 48)
 (.seq
 (.reg [rg 49 (.call 399 []),mv 6 49])
 (.pre (.norm false [6]) .ret))
 .skip))
 (.seq
 (.draw [⟨rg 50 (.fad 0 (.t 3)),0,1⟩,⟨rg 51 (.load none (.t 50)),0,1⟩,⟨rg 52 (.call 287 [(.t 51)]),0,1⟩,⟨rg 53 (.fad 1 (.t 3)),0,1⟩,⟨rg 54 (.load none (.t 53)),0,1⟩,⟨rg 55 (.call 308 [(.t 54)]),0,1⟩,⟨rg 56 (.fad 2 (.t 3)),0,1⟩,⟨rg 57 (.load none (.t 56)),0,1⟩,⟨rg 58 (.call 308 [(.t 57)]),0,1⟩,⟨rg 59 (.build [(.sl [] .nl),(.sl [] .nl),(.sl [] .nl)] [(0,1,(.t 52)),(1,1,(.t 55)),(2,1,(.t 58))]),0,1⟩,⟨rg 7 (.alloc [(.sl [] .nl),(.sl [] .nl),(.sl [] .nl)]),0,1⟩,⟨so (.store 3 (.t 7) (.t 59)),1,2⟩])
 (.seq
 (.draw [⟨rg 60 (.fad 0 (.t 4)),0,1⟩,⟨rg 61 (.load none (.t 60)),0,1⟩,⟨rg 62 (.call 287 [(.t 61)]),0,1⟩,⟨rg 63 (.fad 1 (.t 4)),0,1⟩,⟨rg 64 (.load none (.t 63)),0,1⟩,⟨rg 65 (.call 308 [(.t 64)]),0,1⟩,⟨rg 66 (.fad 2 (.t 4)),0,1⟩,⟨rg 67 (.load none (.t 66)),0,1⟩,⟨rg 68 (.call 308 [(.t 67)]),0,1⟩,⟨rg 69 (.build [(.sl [] .nl),(.sl [] .nl),(.sl [] .nl)] [(0,1,(.t 62)),(1,1,(.t 65)),(2,1,(.t 68))]),0,1⟩,⟨rg 8 (.alloc [(.sl [] .nl),(.sl [] .nl),(.sl [] .nl)]),0,1⟩,⟨so (.store 3 (.t 8) (.t 69)),1,2⟩])
 (.seq
 (.drawT [rg 71 (.load (some 3) (.t 7)),rg 72 (.load (some 5) (.t 5)),rg 73 (.call 383 [(.t 72)]),rg 74 (.call 400 [(.t 71),(.t 73)]),mv 70 74,rg 75 (.ext (.t 70) 0),rg 76 (.ext (.t 70) 1),mv 9 75]
 [mv 10 76])
 (.seq
 (.reg [rg 77 (.fad 1 (.t 3)),rg 78 (.load none (.t 77)),rg 79 (.len (.t 78)),rg 80 (.fad 0 (.t 3)),rg 81 (.load none (.t 80)),rg 82 (.len (.t 81)),rg 83 (.bin .eql (.t 79) (.t 82)),mv 84 83,gd 85 84 true (.fad 2 (.t 3)),gd 86 84 true (.load none (.t 85)),gd 87 84 true (.len (.t 86)),gd 88 84 true (.fad 0 (.t 3)),gd 89 84 true (.load none (.t 88)),gd 90 84 true (.len (.t 89)),gd 91 84 true (.bin .eql (.t 87) (.t 90)),rg 92 (.pick (.t 84) (.t 91) (.c (.b false))),mv 11 92])
 (.seq
 (.seq
 (.reg [rg 12 (.mov (.c (.i .i64 0)))])
 (.lp 0 (.norm false [3,4,5,7,8,9,10,11,12]) l377_0 (.norm false [3,4,5,7,8,9,10,11])))
 (.seq
 (.drawT [rg 125 (.fad 0 (.t 3)),rg 126 (.load none (.t 125)),rg 127 (.call 278 [(.t 126)]),rg 128 (.fad 0 (.t 4)),rg 129 (.load none (.t 128)),rg 130 (.call 278 [(.t 129)]),rg 131 (.call 279 [(.t 127),(.t 130)]),mv 132 131,gd 133 132 true (.fad 1 (.t 3)),gd 134 132 true (.load none (.t 133)),gd 135 132 true (.call 301 [(.t 134)]),gd 136 132 true (.fad 1 (.t 4)),gd 137 132 true (.load none (.t 136)),gd 138 132 true (.call 301 [(.t 137)]),gd 139 132 true (.call 302 [(.t 135),(.t 138)]),rg 140 (.pick (.t 132) (.t 139) (.c (.b false))),mv 141 140,gd 142 141 true (.fad 2 (.t 3)),gd 143 141 true (.load none (.t 142)),gd 144 141 true (.call 301 [(.t 143)]),gd 145 141 true (.fad 2 (.t 4)),gd 146 141 true (.load none (.t 145))]
 [gd 147 141 true (.call 301 [(.t 146)]),gd 148 141 true (.call 302 [(.t 144),(.t 147)]),rg 149 (.pick (.t 141) (.t 148) (.c (.b false))),mv 13 149])
 (.seq
 (.seq
 (.reg [rg 150 (.load (some 3) (.t 7)),rg 151 (.load (some 3) (.t 8)),rg 152 (.call 401 [(.t 150),(.t 151)]),mv 153 13,rg 154 (.eqb true (.t 152) (.t 153)),mv 155 154,gd 156 155 false (.mov (.t 10)),gd 157 155 false (.mov (.t 11)),gd 158 155 false (.eqb true (.t 156) (.t 157)),rg 159 (.pick (.t 155) (.c (.b true)) (.t 158))])
 (.cond (.t 159)
 (.seq
 (.reg [rg 6 (.mov (.c (.b false)))])
 (.pre (.norm false [6]) .ret))
 .skip))
 (.seq
 (.seq
 (.reg [mv 160 11,rg 161 (.un .not (.t 160))])
 (.cond (.t 161)
 (.seq
 (.reg [mv 162 9,rg 163 (.len (.t 162)),rg 164 (.bin .eql (.t 163) (.c (.i .i64 0))),mv 165 164,gd 166 165 true (.call 399 []),rg 167 (.pick (.t 165) (.t 166) (.c (.b false))),mv 6 167])
 (.pre (.norm false [6]) .ret))
 .skip))
 (.seq
 (.reg [rg 168 (.load (some 5) (.t 5)),rg 169 (.call 402 [(.t 168)]),rg 14 (.alloc [(.b false),(.sl [] .nl),(.sl [] .nl),(.sl [] .nl),(.sl [] .nl)]),so (.store 5 (.t 14) (.t 169))])
 (.seq
 (.seq
 (.reg [mv 170 9,rg 171 (.len (.t 170)),rg 172 (.fad 0 (.t 3)),rg 173 (.load none (.t 172)),rg 174 (.len (.t 173)),rg 175 (.bin .neq (.t 171) (.t 174))])
 (.cond (.t 175)
 (.seq
 (.reg [rg 6 (.mov (.c (.b false)))])
 (.pre (.norm false [6]) .ret))
 .skip))
 (.seq
 (.seq
 (.reg [rg 15 (.mov (.c (.i .i64 0)))])
 (.lp 2 (.norm false [3,9,14,15]) l377_1 (.norm false [])))
 (.seq
 (.reg [rg 219 (.call 205 [(.c (.i .i64 0))]),rg 220 (.call 208 [(.t 219)]),mv 221 220,gd 222 221 true (.call 399 []),rg 223 (.pick (.t 221) (.t 222) (.c (.b false))),mv 6 223])
 (.pre (.norm false [6]) .ret)))))))))))))))
def b399:AX:=
 (.seq
 (.reg [rg 0 (.mov (.c (.b false)))])
 (.seq
 (.reg [rg 7 (.build [(.i .i64 0),(.i .i64 0),(.i .i64 0),(.b false),(.sl [] .nl),(.sl [] .nl)] [(0,1,(.c (.i .i64 3)))]),rg 8 (.build [(.i .i64 0),(.i .i64 0),(.i .i64 0),(.b false),(.sl [] .nl),(.sl [] .nl)] [(0,1,(.c (.i .i64 4)))]),rg 9 (.build [(.i .i64 0),(.i .i64 0),(.i .i64 0),(.b false),(.sl [] .nl),(.sl [] .nl)] [(0,1,(.c (.i .i64 9))),(2,1,(.c (.i .i64 1)))]),rg 10 (.bsl 6 [(.i .i64 0),(.i .i64 0),(.i .i64 0),(.b false),(.sl [] .nl),(.sl [] .nl)] 3 [(0,(.t 7)),(1,(.t 8)),(2,(.t 9))]),rg 11 (.bsl 1 [(.i .i64 0)] 1 [(0,(.c (.i .i64 2)))]),rg 12 (.build [(.sl [] .nl),(.sl [] .nl),(.i .i64 0),(.i .i64 0)] [(0,1,(.t 10)),(1,1,(.t 11)),(2,1,(.c (.i .i64 1))),(3,1,(.c (.i .i64 1)))]),rg 1 (.alloc [(.sl [] .nl),(.sl [] .nl),(.i .i64 0),(.i .i64 0)]),so (.store 4 (.t 1) (.t 12))])
 (.seq
 (.reg [rg 13 (.call 205 [(.c (.i .i64 3))]),rg 14 (.bsl 3 [(.b false),(.sl [] .nl),(.sl [] .nl)] 1 [(0,(.t 13))]),rg 15 (.call 205 [(.c (.i .i64 5))]),rg 16 (.bsl 3 [(.b false),(.sl [] .nl),(.sl [] .nl)] 1 [(0,(.t 15))]),rg 17 (.build [(.b false),(.sl [] .nl),(.sl [] .nl),(.sl [] .nl),(.sl [] .nl)] [(3,1,(.t 14)),(4,1,(.t 16))]),rg 2 (.alloc [(.b false),(.sl [] .nl),(.sl [] .nl),(.sl [] .nl),(.sl [] .nl)]),so (.store 5 (.t 2) (.t 17))])
 (.seq
 (.reg [rg 19 (.load (some 4) (.t 1)),rg 20 (.load (some 5) (.t 2)),rg 21 (.call 403 [(.t 19),(.t 20),(.c (.i .i64 100))]),mv 18 21,rg 22 (.ext (.t 18) 0),rg 23 (.ext (.t 18) 1),rg 3 (.alloc [(.sl [] .nl),(.sl [] .nl),(.sl [] .nl)]),rg 4 (.alloc [(.i .i64 0),(.i .i64 0),(.i .i64 0),(.i .i64 0)]),so (.store 3 (.t 3) (.t 22)),so (.store 4 (.t 4) (.t 23))])
 (.seq
 (.reg [rg 25 (.load (some 4) (.t 1)),rg 26 (.load (some 5) (.t 2)),rg 27 (.call 404 [(.t 25),(.t 26),(.c (.i .i64 100))]),mv 24 27,rg 28 (.ext (.t 24) 0),rg 29 (.ext (.t 24) 1),rg 5 (.alloc [(.sl [] .nl),(.sl [] .nl),(.sl [] .nl)]),rg 6 (.alloc [(.i .i64 0),(.i .i64 0),(.i .i64 0),(.i .i64 0)]),so (.store 3 (.t 5) (.t 28)),so (.store 4 (.t 6) (.t 29))])
 (.seq
 (.reg [rg 30 (.load (some 4) (.t 4)),rg 31 (.build [(.i .i64 0),(.i .i64 0),(.i .i64 0),(.i .i64 0)] []),rg 32 (.eqs false [(0,.int),(1,.int),(2,.int),(3,.int)] (.t 30) (.t 31)),mv 33 32,gd 34 33 true (.load (some 4) (.t 6)),gd 35 33 true (.load (some 4) (.t 4)),gd 36 33 true (.eqs false [(0,.int),(1,.int),(2,.int),(3,.int)] (.t 34) (.t 35)),rg 37 (.pick (.t 33) (.t 36) (.c (.b false))),mv 38 37,gd 39 38 true (.fad 1 (.t 3)),gd 40 38 true (.load none (.t 39)),gd 41 38 true (.len (.t 40)),gd 42 38 true (.bin .eql (.t 41) (.c (.i .i64 1))),rg 43 (.pick (.t 38) (.t 42) (.c (.b false))),mv 44 43,gd 45 44 true (.fad 1 (.t 3)),gd 46 44 true (.load none (.t 45)),gd 47 44 true (.iad 1 (.t 46) (.c (.i .i64 0))),gd 48 44 true (.load none (.t 47)),gd 49 44 true (.call 274 [(.t 48)]),gd 50 44 true (.bin .eql (.t 49) (.c (.s [53]))),rg 51 (.pick (.t 44) (.t 50) (.c (.b false))),mv 52 51,gd 53 52 true (.load (some 3) (.t 3)),gd 54 52 true (.load (some 3) (.t 5)),gd 55 52 true (.call 401 [(.t 53),(.t 54)]),rg 56 (.pick (.t 52) (.t 55) (.c (.b false))),mv 0 56])
 (.pre (.norm false [0]) .ret)))))))
def row377:AFx:=⟨3,224,[.t 6],b377,none,false⟩
def row399:AFx:=⟨0,57,[.t 0],b399,none,false⟩
class Zdu (T:Tbl):Prop where
 h377:T 377=some row377
 h399:T 399=some row399
section
variable{T:Tbl}[Zdu T]{d:Option Nat}{st:St}{xs:List AV}{ps:List Opd}{e:Env}{h:Heap}{ol:List Heap}
@[simp] theorem x399:Zc (orc T) T 399 xs d st=cP T 399 false xs d st:=zab Zdu.h399
end
section
open Go.RowKit
def opU:AOp→List Nat
 | .call u _=>[u]
 | .ifc k _=>[1000000+k]
 | .inv _ k u _ _=>[1000000+k,u]
 | .xop (.mkf k) _ | .xop (.mkv k) _=>[1000000+k]
 | _=>[]
def cXs:AX→List Nat
 | .reg l=>l.flatMap fun o=>opU o.op
 | .draw l=>l.flatMap fun o=>opU o.ao.op
 | .drawT hd tl=>(hd.flatMap fun o=>opU o.op)++tl.flatMap fun o=>opU o.op
 | .drawM hd tl=>(hd.flatMap fun o=>opU o.op)++tl.flatMap fun o=>opU o.op
 | .seq a b=>cXs a++cXs b
 | .cond _ x y=>cXs x++cXs y
 | .block _ c | .loop c | .note c _ | .pre _ c | .scope c | .lp _ _ c _=>cXs c
 | _=>[]
structure Agr (R:Nat→Bool) (T T':Tbl) (O O':Orc):Prop where
 tbl:∀u,R u=true→T u=T' u
 call:∀u xs hb,R u=true→O.call u xs hb=O'.call u xs hb
 loop:∀k c st,(∀u∈cXs c,R u=true)→O.loop k c st=O'.loop k c st
section
variable{R:Nat→Bool}{T T':Tbl}{O O':Orc}
theorem zl9(h:Agr R T T' O O'){u:Nat}(hu:R u=true){xs:List AV}{d:Option Nat}{st:St}:Zc O T u xs d st=Zc O' T' u xs d st:=by
 unfold Zc;rw[h.tbl u hu];simp only[h.call u _ _ hu]
theorem z1j(h:Agr R T T' O O'){op:AOp}(hu:∀u∈opU op,R u=true){d:Option Nat}{st:St}:opX O T op d st=opX O' T' op d st:=by
 cases op<;>simp only[opX]
 case call u args=>exact zl9 h (hu _ (by simp[opU]))
 case ifc k x=>unfold Zo;rw[h.tbl _ (hu _ (by simp[opU]))]
 case inv nm k u r args=>
  have e1:Zo T k=Zo T' k:=by unfold Zo;rw[h.tbl _ (hu _ (by simp[opU]))]
  have e2:Z5 T k=Z5 T' k:=by unfold Z5;rw[h.tbl _ (hu _ (by simp[opU]))]
  have e3:Zeq T k=Zeq T' k:=by unfold Zeq;rw[h.tbl _ (hu _ (by simp[opU]))]
  rw[e1,e2,e3];simp only[zl9 h (hu u (by simp[opU]))]
 case xop k xs=>
  cases k<;>simp only
  all_goals rename_i k
  all_goals
   have e1:Zo T k=Zo T' k:=by unfold Zo;rw[h.tbl _ (hu _ (by simp[opU]))]
   rw[e1]
theorem zua(h:Agr R T T' O O'){o:AO}(hu:∀u∈opU o.op,R u=true){st:St}:Zgi O T o st=Zgi O' T' o st:=by
 unfold Zgi gX;simp only[z1j h hu]
theorem zg9(h:Agr R T T' O O'):∀(l:List AO),(∀o∈l,∀u∈opU o.op,R u=true)→∀st,Zdt O T l st=Zdt O' T' l st
 | [],_,st=>rfl
 | o::l,hu,st=>by
  simp only[Zdt];rw[zua h (hu o Yaa)];congr 1
  funext s
  exact zg9 h l (fun o ho=>hu o (Ys _ ho)) s
theorem z1k(h:Agr R T T' O O'){op:AOp}(hu:∀u∈opU op,R u=true){e:Env}{hp:Heap}{older:List Heap}:opD O T op e hp older=opD O' T' op e hp older:=by
 by_cases hap:∃z x0 y,op=.app z x0 y
 ·obtain⟨z,x0,y,rfl⟩:=hap;by_cases hc:x0=.c (.sl [] .nl)
  ·subst hc;rfl
  ·rw[zoc hc,zoc hc]
 cases op<;>(try exact absurd ⟨_,_,_,rfl⟩ hap)<;>simp only[opD]
 case call u args=>
  rw[h.tbl _ (hu _ (by simp[opU]))];simp only[h.call _ _ _ (hu _ (show u∈_ by simp[opU]))]
 case ifc k x=>unfold Zo;rw[h.tbl _ (hu _ (by simp[opU]))]
 case inv nm k u r args=>
  have e1:Zo T k=Zo T' k:=by unfold Zo;rw[h.tbl _ (hu _ (by simp[opU]))]
  have e2:Z5 T k=Z5 T' k:=by unfold Z5;rw[h.tbl _ (hu _ (by simp[opU]))]
  rw[e1,e2,h.tbl u (hu u (by simp[opU]))];simp only[h.call u _ _ (hu u (by simp[opU]))]
theorem zub(h:Agr R T T' O O'){o:AO}(hu:∀u∈opU o.op,R u=true){e:Env}{hp:Heap}{older:List Heap}:qX O T o e hp older=qX O' T' o e hp older:=by
 unfold qX;simp only[z1k h hu]
theorem zuc(h:Agr R T T' O O'){u:Nat}(hu:R u=true){ys:List AV}:Zfr O T u ys=Zfr O' T' u ys:=by
 unfold Zfr;rw[h.tbl u hu];simp only[h.call u _ _ hu]
theorem zma(h:Agr R T T' O O'):∀(l:List DO),(∀o∈l,∀u∈opU o.ao.op,R u=true)→∀e hp clk older pend,Zbx O T l e hp clk older pend=Zbx O' T' l e hp clk older pend
 | [],_,e,hp,clk,older,pend=>rfl
 | o::l,hu,e,hp,clk,older,pend=>by
  have ih:=zma h l (fun o ho=>hu o (Ys _ ho));simp only[Zbx];rw[zub h (hu o Yaa)];simp only[ih];cases o.ao.op.writes with
  | true=>rfl
  | false=>
   simp only;cases hrow:Zg6 o.ao.guard o.ao.op.callN e hp (older.take (older.length-o.lo)) with
   | none=>rfl
   | some p=>
    obtain⟨_,args,hop,_⟩:=zl8 hrow;have hp:R p.1=true:=hu o Yaa _ (by rw[hop];simp[opU]);simp only[zuc h hp]
theorem zmb(h:Agr R T T' O O')(tl:List AO)(ht:∀o∈tl,∀u∈opU o.op,R u=true):∀(l:List AO),(∀o∈l,∀u∈opU o.op,R u=true)→∀e hp clk,Zdg O T tl l e hp clk=Zdg O' T' tl l e hp clk
 | [],_,e,hp,clk=>zg9 h tl ht _
 | o::l,hu,e,hp,clk=>by
  have ih:=zmb h tl ht l (fun o ho=>hu o (Ys _ ho));simp only[Zdg];rw[zub h (hu o Yaa)];simp only[ih]
theorem zud(h:Agr R T T' O O'){u:Nat}(hu:R u=true){xs:List AV}{d clk:Nat}:Zd4 O T u xs d clk=Zd4 O' T' u xs d clk:=by
 unfold Zd4;rw[h.tbl u hu];simp only[h.call u _ _ hu]
theorem zmc(h:Agr R T T' O O')(tl:List AO)(ht:∀o∈tl,∀u∈opU o.op,R u=true)(h0:Heap)(c0:Nat)(X:Heap):∀(l:List AO),(∀o∈l,∀u∈opU o.op,R u=true)→∀e hp clk,Za8 O T tl h0 c0 X l e hp clk=Za8 O' T' tl h0 c0 X l e hp clk
 | [],_,e,hp,clk=>zg9 h tl ht _
 | o::l,hu,e,hp,clk=>by
  have ih:=zmc h tl ht h0 c0 X l (fun o ho=>hu o (Ys _ ho));simp only[Za8];rw[zub h (hu o Yaa)];simp only[ih];cases hm:o.op.maker with
  | true=>rfl
  | false=>
   cases hst:o.op.isStore with
   | true=>rfl
   | false=>
   cases hl:o.op.lentN with
   | none=>rfl
   | some ua=>
    have hua:R ua.1=true:=hu o Yaa _ (by rw[zjs hl];simp[opU]);simp only[zud h hua]
theorem zcx(h:Agr R T T' O O')(k:Nat):∀(c:AX),(∀u∈cXs c,R u=true)→∀st,evX O T k c st=evX O' T' k c st
 | .skip,_,st=>rfl
 | .reg l,hu,st=>by
  simp only[evX];rw[zg9 h l fun o ho u hou=>hu u (Yas.2 ⟨o,ho,hou⟩)]
 | .draw l,hu,st=>by
  simp only[evX];rw[zma h l fun o ho u hou=>hu u (Yas.2 ⟨o,ho,hou⟩)]
 | .drawT hd tl,hu,st=>by
  simp only[evX];rw[zmb h tl (fun o ho u hou=>hu u (Yav _ (Yas.2 ⟨o,ho,hou⟩))) hd (fun o ho u hou=>hu u (Yay _ (Yas.2 ⟨o,ho,hou⟩)))]
 | .drawM hd tl,hu,st=>by
  simp only[evX];rw[zmc h tl (fun o ho u hou=>hu u (Yav _ (Yas.2 ⟨o,ho,hou⟩))) _ _ _ hd (fun o ho u hou=>hu u (Yay _ (Yas.2 ⟨o,ho,hou⟩)))]
 | .bad,_,st=>rfl
 | .prim f,_,st=>rfl
 | .seq a b,hu,st=>by
  simp only[evX];rw[zcx h k a fun u hm=>hu u (Yay _ hm)];congr 1
  funext r
  rw[zcx h k b fun u hm=>hu u (Yav _ hm)]
 | .cond c x y,hu,st=>by
  simp only[evX];rw[zcx h k x fun u hm=>hu u (Yay _ hm),zcx h k y fun u hm=>hu u (Yav _ hm)]
 | .block id c,hu,st=>by
  simp only[evX];rw[zcx h k c hu]
 | .loop c,hu,st=>h.loop k c st hu
 | .exit id,_,st=>rfl
 | .ret,_,st=>rfl
 | .note c g,hu,st=>by
  simp only[evX];rw[zcx h k c hu]
 | .pre g c,hu,st=>by
  simp only[evX];congr 1
  funext s
  exact zcx h k c hu s
 | .scope c,hu,st=>by
  simp only[evX];exact zcx h k c hu st
 | .lp id g c g2,hu,st=>by
  simp only[evX,h.loop k c _ hu]
theorem zue(hc:∀u af,R u=true→T u=some af→∀v∈cXs af.body,R v=true)(h:Agr R T T' O O'):Agr R T T' (Zcs T O) (Zcs T' O') where
 tbl:=h.tbl
 call u xs hb hu:=by
  simp only[Zcs];rw[←h.tbl u hu];cases ht:T u with
  | none=>rfl
  | some af=>
   simp only;rw[zcx h hb.length af.body (hc u af hu ht)]
 loop k c st hu:=by
  simp only[Zcs];rw[zcx h k c hu];congr 1
  funext r
  rw[h.loop k c _ hu]
theorem zks(ht:∀u,R u=true→T u=T' u)(hc:∀u af,R u=true→T u=some af→∀v∈cXs af.body,R v=true):∀n,Agr R T T' (orcN T n) (orcN T' n)
 | 0=>⟨ht,fun _ _ _ _=>rfl,fun _ _ _ _=>rfl⟩
 | n+1=>zue hc (zks ht hc n)
theorem z1l(ht:∀u,R u=true→T u=T' u)(hc:∀u af,R u=true→T u=some af→∀v∈cXs af.body,R v=true):Agr R T T' (orc T) (orc T'):=by
 refine⟨ht,fun u xs hb hu=>?_,fun k c st hu=>?_⟩
 ·simp only[orc];congr 1
  funext n
  exact(zks ht hc n).call u xs hb hu
 ·simp only[orc];congr 1
  funext n
  exact(zks ht hc n).loop k c st hu
end
theorem zdx{l:List (Nat×AFx)}{u:Nat}{af:AFx}(h:l.lookup u=some af):(u,af)∈l:=by
 induction l with
 | nil=>cases h
 | cons q l ih=>
  obtain⟨q1,q2⟩:=q;simp only[Y6]at h;split at h
  ·rename_i he;have:=eq_of_beq he;subst this;cases h;exact Yaa
  ·exact Ys _ (ih h)
structure Part (l l':List (Nat×AFx)):Prop where
 sub:∀p∈l',l.lookup p.1=some p.2
 clo:(l'.all fun p=>(cXs p.2.body).all fun v=>(l'.lookup v).isSome || (l.lookup v).isNone)=true
theorem Part.agr{l l':List (Nat×AFx)}(h:Part l l'):Agr (fun u=>(l'.lookup u).isSome || (l.lookup u).isNone) (fun u=>l.lookup u) (fun u=>l'.lookup u) (orc fun u=>l.lookup u) (orc fun u=>l'.lookup u):=by
 refine z1l (fun v hv=>?_) (fun v a hv hva w hw=>?_)
 ·cases hv2:l'.lookup v with
  | none=>
   simp only[hv2]at hv;cases hv3:l.lookup v with
   | none=>rfl
   | some a=>rw[hv3]at hv;cases hv
  | some a=>exact h.sub _ (zdx hv2)
 ·cases hv2:l'.lookup v with
  | none=>simp only[hv2,hva]at hv;cases hv
  | some b=>
   have hb:=zdx hv2;have h1:=h.sub _ hb;simp only at hva h1;rw[hva]at h1;cases h1;exact Yk.1 (Yk.1 h.clo _ hb) w hw
theorem Part.ev{l l':List (Nat×AFx)}(h:Part l l'){c:AX}(hc:((cXs c).all fun v=>(l'.lookup v).isSome)=true){st:St}{r:Option (Ex×St)}
  (he:evX (orc fun u=>l.lookup u) (fun u=>l.lookup u) 0 c st=r):evX (orc fun u=>l'.lookup u) (fun u=>l'.lookup u) 0 c st=r:=by
 rw[←zcx h.agr 0 c (fun v hv=>by rw[Yk.1 hc v hv];rfl) st];exact he
theorem Part.call{l l':List (Nat×AFx)}(h:Part l l'){u:Nat}(hu:(l'.lookup u).isSome=true){xs:List AV}{r:Option AV}(he:Zb (fun u=>l.lookup u) u xs=r):Zb (fun u=>l'.lookup u) u xs=r:=by
 rw[←he];unfold Zb;rw[h.agr.call u xs [] (by rw[hu];rfl)]
end
end Go.Ab