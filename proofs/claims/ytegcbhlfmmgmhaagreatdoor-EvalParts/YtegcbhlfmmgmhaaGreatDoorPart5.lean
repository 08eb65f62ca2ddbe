/-
  A calculus of values, boxes and code, and what functions of the program compute, proved in it.
  Conditions: none beyond those that the theorems state. (Part 5.)
-/
import Derived.Test.YtegcbhlfmmgmhaaGreatDoorPart4

set_option linter.unusedSectionVars false
set_option linter.unusedVariables false
set_option linter.unusedSimpArgs false
set_option linter.unnecessarySimpa false

namespace Go.Ab
def b490 : AX :=
 (.seq
 (.reg [rg 2 (.alloc [(.b false), (.sl [] .nl), (.sl [] .nl)])])
 (.seq
 (.reg [mv 5 0, rg 6 (.nilc (.t 5)), rg 7 (.fad 8 (.t 6)), rg 8 (.load none (.t 7)), rg 9 (.len (.t 8)), rg 10 (.bin .sub (.t 9) (.c (.i .i64 1))), mv 3 10])
 (.seq
 (.reg [mv 11 0, rg 12 (.nilc (.t 11)), rg 13 (.fad 8 (.t 12)), rg 14 (.load none (.t 13)), mv 15 3, rg 16 (.iad 3 (.t 14) (.t 15)),
 rg 17 (.load (some 3) (.t 16)), rg 4 (.alloc [(.b false), (.sl [] .nl), (.sl [] .nl)]), so (.store 3 (.t 4) (.t 17))])
 (.seq
 (.reg [mv 18 0, mv 19 0, rg 20 (.nilc (.t 19)), rg 21 (.fad 8 (.t 20)), rg 22 (.load none (.t 21)), mv 23 3, rg 24 (.slc 3 (.t 22) none (some (.t 23)) none),
 rg 25 (.nilc (.t 18)), rg 26 (.fad 8 (.t 25)), so (.store 1 (.t 26) (.t 24))])
 (.seq
 (.reg [rg 27 (.load (some 3) (.t 4)), so (.store 3 (.t 2) (.t 27))])
 (.pre (.norm false [2]) .ret))))))
def b489 : AX :=
 (.seq
 (.reg [rg 3 (.xop (.box 3) [(.t 1)]), rg 4 (.alloc [(.b false), (.sl [] .nl), (.sl [] .nl)])])
 (.seq
 (.seq
 (.reg [rg 7 (.fad 0 (.t 3)), rg 8 (.load none (.t 7))])
 (.block 0
 (.seq
 (.reg [rg 10 (.bin .eql (.t 8) (.c (.i .i64 1))), mv 9 10])
 (.cond (.t 9)
 (.seq
 (.reg [rg 12 (.fad 2 (.t 3)), rg 13 (.load none (.t 12)), rg 14 (.build [(.b false), (.sl [] .nl)] [(1, 1, (.t 13))]),
 rg 15 (.bsl 1 [(u32 0)] 1 [(0, (.c (u32 1)))]), rg 16 (.call 204 [(.t 14), (.t 15)]), mv 11 16, rg 17 (.ext (.t 11) 0), rg 18 (.ext (.t 11) 1),
 rg 5 (.alloc [(.b false), (.sl [] .nl), (.sl [] .nl)]), so (.store 3 (.t 5) (.t 17)), mv 6 18])
 (.seq
 (.reg [rg 19 (.load (some 3) (.t 5)), so (.store 3 (.t 4) (.t 19))])
 (.pre (.norm false [4]) .ret)))
 (.seq
 (.reg [rg 21 (.bin .eql (.t 8) (.c (.i .i64 3))), mv 20 21])
 (.cond (.t 20)
 (.seq
 (.drawT [mv 22 0, rg 23 (.nilc (.t 22)), rg 24 (.fad 0 (.t 23)), rg 25 (.fad 3 (.t 24)), rg 26 (.load none (.t 25)), rg 27 (.fad 1 (.t 3)),
 rg 28 (.load none (.t 27))]
 [rg 29 (.iad 3 (.t 26) (.t 28)), rg 30 (.load (some 3) (.t 29)), so (.store 3 (.t 4) (.t 30))])
 (.pre (.norm false [4]) .ret))
 (.seq
 (.reg [rg 32 (.bin .eql (.t 8) (.c (.i .i64 4))), mv 31 32])
 (.cond (.t 31)
 (.seq
 (.drawT [mv 33 0, rg 34 (.nilc (.t 33)), rg 35 (.fad 0 (.t 34)), rg 36 (.fad 4 (.t 35)), rg 37 (.load none (.t 36)), rg 38 (.fad 1 (.t 3)),
 rg 39 (.load none (.t 38))]
 [rg 40 (.iad 3 (.t 37) (.t 39)), rg 41 (.load (some 3) (.t 40)), so (.store 3 (.t 4) (.t 41))])
 (.pre (.norm false [4]) .ret))
 (.seq
 (.reg [rg 43 (.bin .eql (.t 8) (.c (.i .i64 5))), mv 42 43])
 (.cond (.t 42)
 (.seq
 (.drawT [mv 44 0, rg 45 (.nilc (.t 44)), rg 46 (.fad 5 (.t 45)), rg 47 (.load none (.t 46)), rg 48 (.fad 1 (.t 3)), rg 49 (.load none (.t 48))]
 [rg 50 (.iad 3 (.t 47) (.t 49)), rg 51 (.load (some 3) (.t 50)), so (.store 3 (.t 4) (.t 51))])
 (.pre (.norm false [4]) .ret))
 .skip))))))))))
 (.seq
 (.reg [mv 52 0, rg 53 (.nilc (.t 52)), rg 54 (.fad 0 (.t 53)), rg 55 (.fad 0 (.t 54)), rg 56 (.load (some 3) (.t 55)), so (.store 3 (.t 4) (.t 56))])
 (.pre (.norm false [4]) .ret))))
def b484 : AX :=
 (.seq
 (.reg [rg 3 (.xop (.box 3) [(.t 1)]), rg 4 (.alloc [(.b false), (.sl [] .nl), (.sl [] .nl)]), rg 5 (.mov (.c (.b false)))])
 (.seq
 (.seq
 (.reg [rg 9 (.fad 0 (.t 3)), rg 10 (.load none (.t 9)), rg 11 (.call 76 [(.t 10)])])
 (.block 0
 (.seq
 (.reg [rg 13 (.bin .eql (.t 11) (.c (.i .i64 0))), mv 12 13])
 (.cond (.t 12)
 (.seq
 (.reg [mv 14 0, rg 15 (.load (some 3) (.t 3)), rg 16 (.call 489 [(.t 14), (.t 15)]), so (.store 3 (.t 4) (.t 16)), rg 5 (.mov (.c (.b true)))])
 (.pre (.norm false [4, 5]) .ret))
 (.seq
 (.reg [rg 18 (.bin .eql (.t 11) (.c (.i .i64 1))), mv 17 18])
 (.cond (.t 17)
 (.seq
 (.reg [mv 19 0, rg 20 (.call 490 [(.t 19)]), rg 6 (.alloc [(.b false), (.sl [] .nl), (.sl [] .nl)]), so (.store 3 (.t 6) (.t 20))])
 (.seq
 (.seq
 (.reg [rg 21 (.fad 0 (.t 3)), rg 22 (.load none (.t 21)), rg 23 (.bin .eql (.t 22) (.c (.i .i64 6)))])
 (.cond (.t 23)
 (.seq
 (.reg [rg 24 (.load (some 3) (.t 6)), rg 25 (.call 213 [(.t 24)]), so (.store 3 (.t 4) (.t 25)), rg 5 (.mov (.c (.b true)))])
 (.pre (.norm false [4, 5]) .ret))
 .skip))
 (.seq
 (.reg [rg 26 (.load (some 3) (.t 6)), rg 27 (.fad 1 (.t 3)), rg 28 (.load none (.t 27)), rg 29 (.call 220 [(.t 26), (.t 28)]), rg 30 (.ext (.t 29) 0),
 rg 31 (.ext (.t 29) 1), so (.store 3 (.t 4) (.t 30)), mv 5 31])
 (.pre (.norm false [4, 5]) .ret))))
 .skip))))))
 (.seq
 (.reg [mv 32 0, rg 33 (.call 490 [(.t 32)]), rg 7 (.alloc [(.b false), (.sl [] .nl), (.sl [] .nl)]), so (.store 3 (.t 7) (.t 33))])
 (.seq
 (.reg [mv 34 0, rg 35 (.call 490 [(.t 34)]), rg 8 (.alloc [(.b false), (.sl [] .nl), (.sl [] .nl)]), so (.store 3 (.t 8) (.t 35))])
 (.seq
 (.seq
 (.reg [rg 36 (.fad 0 (.t 3)), rg 37 (.load none (.t 36))])
 (.block 1
 (.seq
 (.reg [rg 39 (.bin .eql (.t 37) (.c (.i .i64 7))), mv 38 39])
 (.cond (.t 38)
 (.seq
 (.reg [rg 40 (.load (some 3) (.t 8)), rg 41 (.load (some 3) (.t 7)), rg 42 (.call 215 [(.t 40), (.t 41)]), so (.store 3 (.t 4) (.t 42)),
 rg 5 (.mov (.c (.b true)))])
 (.pre (.norm false [4, 5]) .ret))
 (.seq
 (.reg [rg 44 (.bin .eql (.t 37) (.c (.i .i64 8))), mv 43 44])
 (.cond (.t 43)
 (.seq
 (.reg [rg 45 (.load (some 3) (.t 8)), rg 46 (.load (some 3) (.t 7)), rg 47 (.call 216 [(.t 45), (.t 46)]), so (.store 3 (.t 4) (.t 47)),
 rg 5 (.mov (.c (.b true)))])
 (.pre (.norm false [4, 5]) .ret))
 (.seq
 (.reg [rg 49 (.bin .eql (.t 37) (.c (.i .i64 9))), mv 48 49])
 (.cond (.t 48)
 (.seq
 (.reg [rg 50 (.load (some 3) (.t 8)), rg 51 (.load (some 3) (.t 7)), rg 52 (.call 217 [(.t 50), (.t 51)]), so (.store 3 (.t 4) (.t 52)),
 rg 5 (.mov (.c (.b true)))])
 (.pre (.norm false [4, 5]) .ret))
 .skip))))))))
 (.seq
 (.reg [rg 53 (.load (some 3) (.t 8)), rg 54 (.load (some 3) (.t 7)), rg 55 (.call 218 [(.t 53), (.t 54)]), rg 56 (.ext (.t 55) 0), rg 57 (.ext (.t 55) 1),
 so (.store 3 (.t 4) (.t 56)), mv 5 57])
 (.pre (.norm false [4, 5]) .ret)))))))
def l473_0 : AX :=
 (.note
 (.seq
 (.reg [rg 21 (.bin .lss (.t 20) (.t 19))])
 (.seq
 (.cond (.t 21)
 .skip
 (.exit 0))
 (.seq
 (.block 1
 (.seq
 (.reg [rg 22 (.iad 3 (.t 18) (.t 20)), rg 23 (.load (some 3) (.t 22)), rg 7 (.alloc [(.i .i64 0), (.i .i64 0), (.sl [] .nl)]), so (.store 3 (.t 7) (.t 23))])
 (.seq
 (.reg [mv 25 0, rg 26 (.load (some 3) (.t 7)), rg 27 (.call 484 [(.t 25), (.t 26)]), mv 24 27, rg 28 (.ext (.t 24) 0), rg 29 (.ext (.t 24) 1),
 rg 8 (.alloc [(.b false), (.sl [] .nl), (.sl [] .nl)]), so (.store 3 (.t 8) (.t 28)), mv 9 29])
 (.seq
 (.block 2
 (.seq
 (.reg [mv 31 9, rg 32 (.un .not (.t 31)), mv 30 32])
 (.cond (.t 30)
 (.seq
 (.draw [⟨rg 33 (.call 205 [(.c (.i .i64 0))]), 0, 0⟩, ⟨mv 34 0, 0, 1⟩, ⟨rg 35 (.nilc (.t 34)), 0, 1⟩, ⟨rg 36 (.fad 7 (.t 35)), 0, 1⟩,
 ⟨rg 37 (.load none (.t 36)), 0, 1⟩,
 ⟨rg 38 (.build [(.i .i64 0), (.i .i64 0), (.i .i64 0), (.i .i64 0)] [(0, 1, (.c (.i .i64 3))), (3, 1, (.t 37))]), 0, 1⟩,
 ⟨so (.store 3 (.t 4) (.t 33)), 0, 1⟩, ⟨so (.store 4 (.t 5) (.t 38)), 1, 2⟩])
 (.pre (.norm false [4, 5]) .ret))
 (.seq
 (.drawT [mv 40 0, rg 41 (.nilc (.t 40)), rg 42 (.fad 6 (.t 41)), rg 43 (.load none (.t 42)), rg 44 (.load (some 3) (.t 8))]
 [rg 45 (.call 411 [(.t 43), (.t 44)]), rg 46 (.un .not (.t 45)), mv 39 46])
 (.cond (.t 39)
 (.seq
 (.draw [⟨rg 47 (.call 205 [(.c (.i .i64 0))]), 0, 0⟩, ⟨mv 48 0, 0, 1⟩, ⟨rg 49 (.nilc (.t 48)), 0, 1⟩, ⟨rg 50 (.fad 7 (.t 49)), 0, 1⟩,
 ⟨rg 51 (.load none (.t 50)), 0, 1⟩,
 ⟨rg 52 (.build [(.i .i64 0), (.i .i64 0), (.i .i64 0), (.i .i64 0)] [(0, 1, (.c (.i .i64 6))), (3, 1, (.t 51))]), 0, 1⟩,
 ⟨so (.store 3 (.t 4) (.t 47)), 0, 1⟩, ⟨so (.store 4 (.t 5) (.t 52)), 1, 2⟩])
 (.pre (.norm false [4, 5]) .ret))
 .skip)))))
 (.seq
 (.reg [mv 53 0, rg 54 (.nilc (.t 53)), rg 55 (.fad 7 (.t 54)), rg 56 (.load none (.t 55)), rg 57 (.bin .add (.t 56) (.c (.i .i64 1))), rg 58 (.nilc (.t 53)),
 rg 59 (.fad 7 (.t 58)), so (.store 1 (.t 59) (.t 57))])
 (.draw [⟨mv 60 0, 0, 1⟩, ⟨mv 61 0, 0, 0⟩, ⟨rg 62 (.nilc (.t 61)), 0, 0⟩, ⟨rg 63 (.fad 8 (.t 62)), 0, 0⟩, ⟨rg 64 (.load none (.t 63)), 0, 0⟩,
 ⟨rg 65 (.load (some 3) (.t 8)), 0, 0⟩, ⟨rg 66 (.bsl 3 [(.b false), (.sl [] .nl), (.sl [] .nl)] 1 [(0, (.t 65))]), 0, 0⟩,
 ⟨rg 67 (.app 3 (.t 64) (.t 66)), 0, 1⟩, ⟨rg 68 (.nilc (.t 60)), 1, 1⟩, ⟨rg 69 (.fad 8 (.t 68)), 1, 1⟩, ⟨so (.store 1 (.t 69) (.t 67)), 1, 2⟩]))))))
 (.reg [rg 70 (.bin .add (.t 20) (.c (.i .i64 1))), mv 20 70]))))
 (.norm false [0, 4, 5, 18, 19, 20]))
def b473 : AX :=
 (.seq
 (.reg [rg 4 (.alloc [(.b false), (.sl [] .nl), (.sl [] .nl)]), rg 5 (.alloc [(.i .i64 0), (.i .i64 0), (.i .i64 0), (.i .i64 0)])])
 (.seq
 (.reg [mv 10 0, mv 11 0, rg 12 (.nilc (.t 11)), rg 13 (.fad 8 (.t 12)), rg 14 (.load none (.t 13)), rg 15 (.slc 3 (.t 14) none (some (.c (.i .i64 0))) none),
 rg 16 (.nilc (.t 10)), rg 17 (.fad 8 (.t 16)), so (.store 1 (.t 17) (.t 15))])
 (.seq
 (.seq
 (.reg [mv 18 1, rg 19 (.len (.t 18)), rg 20 (.mov (.c (.i .i64 0)))])
 (.lp 0 (.norm false [0, 4, 5, 18, 19, 20]) l473_0 (.norm false [0, 4, 5])))
 (.seq
 (.reg [mv 71 0, rg 72 (.nilc (.t 71)), rg 73 (.fad 8 (.t 72)), rg 74 (.load none (.t 73)), rg 75 (.iad 3 (.t 74) (.c (.i .i64 0))),
 rg 76 (.load (some 3) (.t 75)), rg 77 (.build [(.i .i64 0), (.i .i64 0), (.i .i64 0), (.i .i64 0)] []), so (.store 3 (.t 4) (.t 76)),
 so (.store 4 (.t 5) (.t 77))])
 (.pre (.norm false [4, 5]) .ret)))))
def b462 : AX :=
 (.seq
 (.reg [rg 5 (.xop (.box 5) [(.t 1)]), rg 8 (.alloc [(.b false), (.sl [] .nl), (.sl [] .nl)]),
 rg 9 (.alloc [(.i .i64 0), (.i .i64 0), (.i .i64 0), (.i .i64 0)])])
 (.seq
 (.seq
 (.reg [mv 12 0, rg 13 (.fad 3 (.t 5)), rg 14 (.load none (.t 13)), rg 15 (.len (.t 14)), rg 16 (.fad 4 (.t 5)), rg 17 (.load none (.t 16)),
 rg 18 (.len (.t 17)), mv 19 2, rg 20 (.len (.t 19)), rg 21 (.call 46 [(.t 12), (.t 15), (.t 18), (.t 20)]), mv 10 21])
 (.seq
 (.reg [mv 22 10, rg 23 (.bin .geq (.t 22) (.c (.i .i64 0)))])
 (.cond (.t 23)
 (.seq
 (.reg [rg 24 (.call 205 [(.c (.i .i64 0))]), mv 25 10,
 rg 26 (.build [(.i .i64 0), (.i .i64 0), (.i .i64 0), (.i .i64 0)] [(0, 1, (.c (.i .i64 2))), (3, 1, (.t 25))]), so (.store 3 (.t 8) (.t 24)),
 so (.store 4 (.t 9) (.t 26))])
 (.pre (.norm false [8, 9]) .ret))
 .skip)))
 (.seq
 (.reg [rg 27 (.load (some 5) (.t 5)), rg 28 (.call 405 [(.t 27)]), mv 29 2, rg 30 (.call 420 [(.t 29)]), mv 31 3, rg 32 (.call 406 [(.t 31)]),
 rg 33 (.build [(.b false), (.sl [] .nl), (.sl [] .nl), (.sl [] .nl), (.sl [] .nl), (.sl [] .nl), (.raw (.pointer none)), (.i .i64 0), (.sl [] .nl)] [(0, 5, (.t 28)), (5, 1, (.t 30)), (6, 1, (.t 32))]),
 rg 34 (.xop (.box 9) [(.t 33)]), mv 11 34])
 (.seq
 (.pre (.fld 11 0 8 3) (.reg [mv 35 11, mv 36 0, rg 37 (.call 473 [(.t 35), (.t 36)]), rg 38 (.ext (.t 37) 0), rg 39 (.ext (.t 37) 1), so (.store 3 (.t 8) (.t 38)),
 so (.store 4 (.t 9) (.t 39))]))
 (.pre (.norm false [8, 9]) .ret)))))
def l467_0 : AX :=
 (.note
 (.seq
 (.reg [rg 41 (.bin .lss (.t 40) (.t 39))])
 (.seq
 (.cond (.t 41)
 .skip
 (.exit 0))
 (.seq
 (.block 1
 (.seq
 (.reg [rg 42 (.iad 2 (.t 38) (.t 40)), rg 43 (.load (some 2) (.t 42)), rg 11 (.alloc [(.s []), (.sl [] .nl)]), so (.store 2 (.t 11) (.t 43))])
 (.seq
 (.reg [mv 45 9, rg 46 (.fad 1 (.t 11)), rg 47 (.load none (.t 46)), rg 48 (.call 473 [(.t 45), (.t 47)]), mv 44 48, rg 49 (.ext (.t 44) 0),
 rg 50 (.ext (.t 44) 1), rg 12 (.alloc [(.b false), (.sl [] .nl), (.sl [] .nl)]), rg 13 (.alloc [(.i .i64 0), (.i .i64 0), (.i .i64 0), (.i .i64 0)]),
 so (.store 3 (.t 12) (.t 49)), so (.store 4 (.t 13) (.t 50))])
 (.seq
 (.seq
 (.reg [rg 51 (.load (some 4) (.t 13)), rg 52 (.build [(.i .i64 0), (.i .i64 0), (.i .i64 0), (.i .i64 0)] []),
 rg 53 (.eqs true [(0, .int), (1, .int), (2, .int), (3, .int)] (.t 51) (.t 52))])
 (.cond (.t 53)
 (.seq
 (.drawT [rg 54 (.load (some 4) (.t 13)), rg 6 (.mov (.c (.sl [] .nl)))]
 [so (.store 4 (.t 7) (.t 54))])
 (.pre (.norm false [6, 7]) .ret))
 .skip))
 (.draw [⟨mv 55 9, 0, 1⟩, ⟨mv 56 9, 0, 0⟩, ⟨rg 57 (.nilc (.t 56)), 0, 0⟩, ⟨rg 58 (.fad 5 (.t 57)), 0, 0⟩, ⟨rg 59 (.load none (.t 58)), 0, 0⟩,
 ⟨rg 60 (.load (some 3) (.t 12)), 0, 0⟩, ⟨rg 61 (.bsl 3 [(.b false), (.sl [] .nl), (.sl [] .nl)] 1 [(0, (.t 60))]), 0, 0⟩,
 ⟨rg 62 (.app 3 (.t 59) (.t 61)), 0, 1⟩, ⟨rg 63 (.nilc (.t 55)), 1, 1⟩, ⟨rg 64 (.fad 5 (.t 63)), 1, 1⟩, ⟨so (.store 1 (.t 64) (.t 62)), 1, 2⟩])))))
 (.reg [rg 65 (.bin .add (.t 40) (.c (.i .i64 1))), mv 40 65]))))
 (.norm false [3, 7, 9, 38, 39, 40]))
def l467_1 : AX :=
 (.note
 (.seq
 (.reg [rg 70 (.bin .lss (.t 69) (.t 68))])
 (.seq
 (.cond (.t 70)
 .skip
 (.exit 2))
 (.seq
 (.block 3
 (.seq
 (.reg [rg 71 (.iad 1 (.t 67) (.t 69)), rg 72 (.load none (.t 71)), mv 16 72])
 (.seq
 (.reg [mv 74 9, mv 75 16, rg 76 (.call 473 [(.t 74), (.t 75)]), mv 73 76, rg 77 (.ext (.t 73) 0), rg 78 (.ext (.t 73) 1),
 rg 17 (.alloc [(.b false), (.sl [] .nl), (.sl [] .nl)]), rg 18 (.alloc [(.i .i64 0), (.i .i64 0), (.i .i64 0), (.i .i64 0)]),
 so (.store 3 (.t 17) (.t 77)), so (.store 4 (.t 18) (.t 78))])
 (.seq
 (.seq
 (.reg [rg 79 (.load (some 4) (.t 18)), rg 80 (.build [(.i .i64 0), (.i .i64 0), (.i .i64 0), (.i .i64 0)] []),
 rg 81 (.eqs true [(0, .int), (1, .int), (2, .int), (3, .int)] (.t 79) (.t 80))])
 (.cond (.t 81)
 (.seq
 (.drawT [rg 82 (.load (some 4) (.t 18)), rg 6 (.mov (.c (.sl [] .nl)))]
 [so (.store 4 (.t 7) (.t 82))])
 (.pre (.norm false [6, 7]) .ret))
 .skip))
 (.reg [mv 83 14, rg 84 (.load (some 3) (.t 17)), rg 85 (.bsl 3 [(.b false), (.sl [] .nl), (.sl [] .nl)] 1 [(0, (.t 84))]), rg 86 (.app 3 (.t 83) (.t 85)),
 mv 14 86])))))
 (.reg [rg 87 (.bin .add (.t 69) (.c (.i .i64 1))), mv 69 87]))))
 (.norm false [7, 9, 14, 67, 68, 69]))
def b467 : AX :=
 (.seq
 (.reg [rg 3 (.xop (.box 2) [(.t 0)]), rg 4 (.xop (.box 5) [(.t 1)]), rg 6 (.mov (.c (.sl [] .nl))),
 rg 7 (.alloc [(.i .i64 0), (.i .i64 0), (.i .i64 0), (.i .i64 0)])])
 (.seq
 (.seq
 (.reg [rg 19 (.load (some 2) (.t 3)), rg 20 (.fad 3 (.t 4)), rg 21 (.load none (.t 20)), rg 22 (.len (.t 21)), rg 23 (.fad 4 (.t 4)),
 rg 24 (.load none (.t 23)), rg 25 (.len (.t 24)), rg 26 (.call 477 [(.t 19), (.t 22), (.t 25)]),
 rg 8 (.alloc [(.i .i64 0), (.i .i64 0), (.i .i64 0), (.i .i64 0)]), so (.store 4 (.t 8) (.t 26))])
 (.seq
 (.reg [rg 27 (.load (some 4) (.t 8)), rg 28 (.build [(.i .i64 0), (.i .i64 0), (.i .i64 0), (.i .i64 0)] []),
 rg 29 (.eqs true [(0, .int), (1, .int), (2, .int), (3, .int)] (.t 27) (.t 28))])
 (.cond (.t 29)
 (.seq
 (.drawT [rg 30 (.load (some 4) (.t 8)), rg 6 (.mov (.c (.sl [] .nl)))]
 [so (.store 4 (.t 7) (.t 30))])
 (.pre (.norm false [6, 7]) .ret))
 .skip)))
 (.seq
 (.reg [rg 31 (.load (some 5) (.t 4)), rg 32 (.call 405 [(.t 31)]), mv 33 2, rg 34 (.call 406 [(.t 33)]),
 rg 35 (.build [(.b false), (.sl [] .nl), (.sl [] .nl), (.sl [] .nl), (.sl [] .nl), (.sl [] .nl), (.raw (.pointer none)), (.i .i64 0), (.sl [] .nl)] [(0, 5, (.t 32)), (6, 1, (.t 34))]),
 rg 36 (.xop (.box 9) [(.t 35)]), mv 9 36])
 (.seq
 (.seq
 (.reg [rg 37 (.fad 0 (.t 3)), rg 38 (.load none (.t 37)), rg 39 (.len (.t 38)), rg 40 (.mov (.c (.i .i64 0)))])
 (.pre (.fld 9 0 5 3) (.pre (.fld 9 0 8 3) (.lp 0 (.norm false [3, 7, 9, 38, 39, 40]) l467_0 (.norm false [3, 7, 9])))))
 (.seq
 (.note (.reg [rg 14 (.mov (.c (.sl [] .nl)))]) (.nil 14 3))
 (.seq
 (.seq
 (.reg [rg 66 (.fad 1 (.t 3)), rg 67 (.load none (.t 66)), rg 68 (.len (.t 67)), rg 69 (.mov (.c (.i .i64 0)))])
 (.lp 2 (.norm false [7, 9, 14, 67, 68, 69]) l467_1 (.norm false [7, 14])))
 (.seq
 (.reg [mv 88 14, rg 89 (.build [(.i .i64 0), (.i .i64 0), (.i .i64 0), (.i .i64 0)] []), mv 6 88, so (.store 4 (.t 7) (.t 89))])
 (.pre (.norm false [6, 7]) .ret))))))))
class CEval2 (T : Tbl) : Prop where
 h490 : T 490 = some ⟨1, 28, [.cell 2 (some 3)], b490, (some [true]), false⟩
 h489 : T 489 = some ⟨2, 57, [.cell 4 (some 3)], b489, (some [true, false]), false⟩
 h484 : T 484 = some ⟨2, 58, [.cell 4 (some 3), .t 5], b484, (some [true, false]), false⟩
 h473 : T 473 = some ⟨2, 78, [.cell 4 (some 3), .cell 5 (some 4)], b473, (some [true, false]), false⟩
 h462 : T 462 = some ⟨4, 40, [.cell 8 (some 3), .cell 9 (some 4)], b462, none, false⟩
 h467 : T 467 = some ⟨3, 90, [.t 6, .cell 7 (some 4)], b467, none, false⟩
section
variable {T : Tbl} [CEval2 T] {d : Option Nat} {st : St} {xs : List AV} {ps : List Opd} {e : Env} {h : Heap} {ol : List Heap}
@[simp] theorem x490 : callX (orc T) T 490 xs d st = cL T 490 false [true] xs d st := callX_lent CEval2.h490
theorem f490 (xs : List AV) (hb : Heap) (hn : xs.length = 1) : callH T 490 xs hb = retH [.cell 2 (some 3)] false hb.length (evX (orc T) T hb.length b490 ⟨argEnv xs, hb, hb.length + 1⟩) := callH_eq CEval2.h490 hn
@[simp] theorem x489 : callX (orc T) T 489 xs d st = cL T 489 false [true, false] xs d st := callX_lent CEval2.h489
theorem f489 (xs : List AV) (hb : Heap) (hn : xs.length = 2) : callH T 489 xs hb = retH [.cell 4 (some 3)] false hb.length (evX (orc T) T hb.length b489 ⟨argEnv xs, hb, hb.length + 1⟩) := callH_eq CEval2.h489 hn
@[simp] theorem x484 : callX (orc T) T 484 xs d st = cL T 484 false [true, false] xs d st := callX_lent CEval2.h484
theorem f484 (xs : List AV) (hb : Heap) (hn : xs.length = 2) : callH T 484 xs hb = retH [.cell 4 (some 3), .t 5] false hb.length (evX (orc T) T hb.length b484 ⟨argEnv xs, hb, hb.length + 1⟩) := callH_eq CEval2.h484 hn
@[simp] theorem x473 : callX (orc T) T 473 xs d st = cL T 473 false [true, false] xs d st := callX_lent CEval2.h473
theorem f473 (xs : List AV) (hb : Heap) (hn : xs.length = 2) : callH T 473 xs hb = retH [.cell 4 (some 3), .cell 5 (some 4)] false hb.length (evX (orc T) T hb.length b473 ⟨argEnv xs, hb, hb.length + 1⟩) := callH_eq CEval2.h473 hn
@[simp] theorem x462 : callX (orc T) T 462 xs d st = cP T 462 false xs d st := callX_pure CEval2.h462
@[simp] theorem y462 : opD (orc T) T (.call 462 ps) e h ol = dP T 462 false ps e := opD_call CEval2.h462
theorem f462 (xs : List AV) (hn : xs.length = 4) : callF T 462 xs = retF [.cell 8 (some 3), .cell 9 (some 4)] false (evX (orc T) T 0 b462 ⟨argEnv xs, [], 1⟩) := callF_eq CEval2.h462 hn
@[simp] theorem y467 : opD (orc T) T (.call 467 ps) e h ol = dP T 467 false ps e := opD_call CEval2.h467
theorem f467 (xs : List AV) (hn : xs.length = 3) : callF T 467 xs = retF [.t 6, .cell 7 (some 4)] false (evX (orc T) T 0 b467 ⟨argEnv xs, [], 1⟩) := callF_eq CEval2.h467 hn
end
def b380 : AX :=
 (.seq
 (.reg [rg 3 (.xop (.box 5) [(.t 0)]), rg 6 (.mov (.c (.b false)))])
 (.seq
 (.reg [rg 7 (.fad 0 (.t 3)), rg 8 (.load (some 3) (.t 7)), mv 9 2, rg 10 (.call 247 [(.t 8), (.t 9)]), mv 11 10, gd 12 11 false (.fad 3 (.t 3)),
 gd 13 11 false (.load none (.t 12)), gd 14 11 false (.mov (.t 1)), gd 15 11 false (.mov (.t 2)), gd 16 11 false (.call 286 [(.t 13), (.t 14), (.t 15)]),
 rg 17 (.pick (.t 11) (.c (.b true)) (.t 16)), mv 18 17, gd 19 18 false (.fad 4 (.t 3)), gd 20 18 false (.load none (.t 19)),
 gd 21 18 false (.mov (.t 1)), gd 22 18 false (.mov (.t 2)), gd 23 18 false (.call 286 [(.t 20), (.t 21), (.t 22)]),
 rg 24 (.pick (.t 18) (.c (.b true)) (.t 23)), mv 6 24])
 (.pre (.norm false [6]) .ret)))
def b383 : AX :=
 (.seq
 (.reg [rg 1 (.xop (.box 5) [(.t 0)]), rg 2 (.alloc [(.b false), (.sl [] .nl), (.sl [] .nl), (.sl [] .nl), (.sl [] .nl)])])
 (.seq
 (.drawT [rg 3 (.fad 0 (.t 1)), rg 4 (.load (some 3) (.t 3)), rg 5 (.call 248 [(.t 4)]), rg 6 (.fad 3 (.t 1)), rg 7 (.load none (.t 6)), rg 8 (.call 287 [(.t 7)]),
 rg 9 (.fad 4 (.t 1)), rg 10 (.load none (.t 9))]
 [rg 11 (.call 287 [(.t 10)]),
 rg 12 (.build [(.b false), (.sl [] .nl), (.sl [] .nl), (.sl [] .nl), (.sl [] .nl)] [(0, 3, (.t 5)), (3, 1, (.t 8)), (4, 1, (.t 11))]),
 so (.store 5 (.t 2) (.t 12))])
 (.pre (.norm false [2]) .ret)))
class CLaw24 (T : Tbl) : Prop where
 h380 : T 380 = some ⟨3, 25, [.t 6], b380, none, false⟩
 h383 : T 383 = some ⟨1, 13, [.cell 2 (some 5)], b383, none, false⟩
section
variable {T : Tbl} [CLaw24 T] {d : Option Nat} {st : St} {xs : List AV} {ps : List Opd} {e : Env} {h : Heap} {ol : List Heap}
@[simp] theorem x380 : callX (orc T) T 380 xs d st = cP T 380 false xs d st := callX_pure CLaw24.h380
theorem f380 (xs : List AV) (hn : xs.length = 3) : callF T 380 xs = retF [.t 6] false (evX (orc T) T 0 b380 ⟨argEnv xs, [], 1⟩) := callF_eq CLaw24.h380 hn
@[simp] theorem x383 : callX (orc T) T 383 xs d st = cP T 383 false xs d st := callX_pure CLaw24.h383
@[simp] theorem y383 : opD (orc T) T (.call 383 ps) e h ol = dP T 383 false ps e := opD_call CLaw24.h383
theorem f383 (xs : List AV) (hn : xs.length = 1) : callF T 383 xs = retF [.cell 2 (some 5)] false (evX (orc T) T 0 b383 ⟨argEnv xs, [], 1⟩) := callF_eq CLaw24.h383 hn
end
def b129 : AX :=
 (.seq
 (.reg [rg 2 (.mov (.c (.i .i64 0)))])
 (.seq
 (.reg [mv 3 0, rg 4 (.call 68 [(.t 3)]), rg 5 (.lens (.t 4)), mv 2 5])
 (.pre (.norm false [2]) .ret)))
class CLenD (T : Tbl) : Prop where
 h129 : T 129 = some ⟨1, 6, [.t 2], b129, none, false⟩
section
variable {T : Tbl} [CLenD T] {d : Option Nat} {st : St} {xs : List AV} {ps : List Opd} {e : Env} {h : Heap} {ol : List Heap}
@[simp] theorem x129 : callX (orc T) T 129 xs d st = cP T 129 false xs d st := callX_pure CLenD.h129
theorem f129 (xs : List AV) (hn : xs.length = 1) : callF T 129 xs = retF [.t 2] false (evX (orc T) T 0 b129 ⟨argEnv xs, [], 1⟩) := callF_eq CLenD.h129 hn
end
def b76 : AX :=
 (.seq
 (.reg [rg 2 (.mov (.c (.i .i64 0)))])
 (.seq
 (.seq
 (.reg [mv 3 0])
 (.block 0
 (.seq
 (.seq
 (.reg [rg 5 (.bin .eql (.t 3) (.c (.i .i64 1))), mv 4 5])
 (.cond (.t 4)
 .skip
 (.seq
 (.reg [rg 6 (.bin .eql (.t 3) (.c (.i .i64 2))), mv 4 6])
 (.cond (.t 4)
 .skip
 (.seq
 (.reg [rg 7 (.bin .eql (.t 3) (.c (.i .i64 3))), mv 4 7])
 (.cond (.t 4)
 .skip
 (.seq
 (.reg [rg 8 (.bin .eql (.t 3) (.c (.i .i64 4))), mv 4 8])
 (.cond (.t 4)
 .skip
 (.reg [rg 9 (.bin .eql (.t 3) (.c (.i .i64 5))), mv 4 9])))))))))
 (.cond (.t 4)
 (.seq
 (.reg [rg 2 (.mov (.c (.i .i64 0)))])
 (.pre (.norm false [2]) .ret))
 (.seq
 (.seq
 (.reg [rg 11 (.bin .eql (.t 3) (.c (.i .i64 6))), mv 10 11])
 (.cond (.t 10)
 .skip
 (.reg [rg 12 (.bin .eql (.t 3) (.c (.i .i64 11))), mv 10 12])))
 (.cond (.t 10)
 (.seq
 (.reg [rg 2 (.mov (.c (.i .i64 1)))])
 (.pre (.norm false [2]) .ret))
 (.seq
 (.seq
 (.reg [rg 14 (.bin .eql (.t 3) (.c (.i .i64 7))), mv 13 14])
 (.cond (.t 13)
 .skip
 (.seq
 (.reg [rg 15 (.bin .eql (.t 3) (.c (.i .i64 8))), mv 13 15])
 (.cond (.t 13)
 .skip
 (.seq
 (.reg [rg 16 (.bin .eql (.t 3) (.c (.i .i64 9))), mv 13 16])
 (.cond (.t 13)
 .skip
 (.reg [rg 17 (.bin .eql (.t 3) (.c (.i .i64 10))), mv 13 17])))))))
 (.cond (.t 13)
 (.seq
 (.reg [rg 2 (.mov (.c (.i .i64 2)))])
 (.pre (.norm false [2]) .ret))
 .skip))))))))
 (.seq
 (.reg [rg 2 (.mov (.c (.i .i64 (-1))))])
 (.pre (.norm false [2]) .ret))))
def l74_0 : AX :=
 (.note
 (.seq
 (.reg [rg 10 (.bin .lss (.t 9) (.t 8))])
 (.seq
 (.cond (.t 10)
 .skip
 (.exit 0))
 (.seq
 (.block 1
 (.seq
 (.reg [mv 11 9, rg 12 (.iad 3 (.t 7) (.t 9)), rg 13 (.load (some 3) (.t 12)), rg 5 (.alloc [(.i .i64 0), (.i .i64 0), (.sl [] .nl)]), mv 4 11,
 so (.store 3 (.t 5) (.t 13))])
 (.seq
 (.reg [rg 14 (.fad 0 (.t 5)), rg 15 (.load none (.t 14)), rg 16 (.call 76 [(.t 15)]), mv 6 16])
 (.seq
 (.seq
 (.reg [mv 17 6, rg 18 (.bin .lss (.t 17) (.c (.i .i64 0))), mv 19 18, gd 20 19 false (.mov (.t 6)), gd 21 19 false (.mov (.t 3)),
 gd 22 19 false (.bin .gtr (.t 20) (.t 21)), rg 23 (.pick (.t 19) (.c (.b true)) (.t 22))])
 (.cond (.t 23)
 (.seq
 (.reg [mv 24 4, mv 2 24])
 (.pre (.norm false [2]) .ret))
 .skip))
 (.reg [mv 25 3, mv 26 6, rg 27 (.bin .sub (.c (.i .i64 1)) (.t 26)), rg 28 (.bin .add (.t 25) (.t 27)), mv 3 28])))))
 (.reg [rg 29 (.bin .add (.t 9) (.c (.i .i64 1))), mv 9 29]))))
 (.norm false [0, 3, 7, 8, 9]))
def b74 : AX :=
 (.seq
 (.reg [rg 2 (.mov (.c (.i .i64 0)))])
 (.seq
 (.reg [rg 3 (.mov (.c (.i .i64 0)))])
 (.seq
 (.seq
 (.reg [mv 7 0, rg 8 (.len (.t 7)), rg 9 (.mov (.c (.i .i64 0)))])
 (.lp 0 (.norm false [0, 3, 7, 8, 9]) l74_0 (.norm false [0, 3])))
 (.seq
 (.seq
 (.reg [mv 30 3, rg 31 (.bin .neq (.t 30) (.c (.i .i64 1)))])
 (.cond (.t 31)
 (.seq
 (.reg [mv 32 0, rg 33 (.len (.t 32)), mv 2 33])
 (.pre (.norm false [2]) .ret))
 .skip))
 (.seq
 (.reg [rg 2 (.mov (.c (.i .i64 (-1))))])
 (.pre (.norm false [2]) .ret))))))
def b44 : AX :=
 (.seq
 (.reg [rg 2 (.mov (.c (.b false)))])
 (.seq
 (.reg [mv 3 0, rg 4 (.call 74 [(.t 3)]), rg 5 (.bin .lss (.t 4) (.c (.i .i64 0))), mv 2 5])
 (.pre (.norm false [2]) .ret)))
def b108 : AX :=
 (.seq
 (.reg [rg 4 (.mov (.c (.b false)))])
 (.seq
 (.reg [mv 5 0, rg 6 (.bin .geq (.t 5) (.c (.i .i64 0))), mv 7 6, gd 8 7 true (.mov (.t 0)), gd 9 7 true (.mov (.t 1)), gd 10 7 true (.bin .lss (.t 8) (.t 9)),
 rg 11 (.pick (.t 7) (.t 10) (.c (.b false))), mv 4 11])
 (.pre (.norm false [4]) .ret)))
def b107 : AX :=
 (.seq
 (.reg [rg 2 (.mov (.c (.b false)))])
 (.seq
 (.reg [mv 3 0, rg 4 (.call 71 [(.t 3)]), rg 5 (.len (.t 4)), mv 6 0, rg 7 (.len (.t 6)), rg 8 (.bin .eql (.t 5) (.t 7)), mv 9 8, gd 10 9 true (.mov (.t 0)),
 gd 11 9 true (.call 129 [(.t 10)]), gd 12 9 true (.bin .leq (.t 11) (.c (.i .i64 60))), rg 13 (.pick (.t 9) (.t 12) (.c (.b false))), mv 2 13])
 (.pre (.norm false [2]) .ret)))
def b75 : AX :=
 (.seq
 (.reg [rg 4 (.xop (.box 3) [(.t 0)]), rg 8 (.mov (.c (.b false)))])
 (.seq
 (.seq
 (.reg [rg 9 (.fad 0 (.t 4)), rg 10 (.load none (.t 9)), rg 11 (.bin .neq (.t 10) (.c (.i .i64 1))), mv 12 11, gd 13 12 true (.fad 2 (.t 4)),
 gd 14 12 true (.load none (.t 13)), gd 15 12 true (.len (.t 14)), gd 16 12 true (.bin .gtr (.t 15) (.c (.i .i64 0))),
 rg 17 (.pick (.t 12) (.t 16) (.c (.b false)))])
 (.cond (.t 17)
 (.seq
 (.reg [rg 8 (.mov (.c (.b false)))])
 (.pre (.norm false [8]) .ret))
 .skip))
 (.seq
 (.seq
 (.reg [rg 18 (.fad 0 (.t 4)), rg 19 (.load none (.t 18))])
 (.block 0
 (.seq
 (.reg [rg 21 (.bin .eql (.t 19) (.c (.i .i64 1))), mv 20 21])
 (.cond (.t 20)
 (.seq
 (.reg [rg 22 (.fad 1 (.t 4)), rg 23 (.load none (.t 22)), rg 24 (.bin .eql (.t 23) (.c (.i .i64 0))), mv 25 24, gd 26 25 true (.fad 2 (.t 4)),
 gd 27 25 true (.load none (.t 26)), gd 28 25 true (.call 107 [(.t 27)]), rg 29 (.pick (.t 25) (.t 28) (.c (.b false))), mv 8 29])
 (.pre (.norm false [8]) .ret))
 (.seq
 (.reg [rg 31 (.bin .eql (.t 19) (.c (.i .i64 3))), mv 30 31])
 (.cond (.t 30)
 (.seq
 (.reg [rg 32 (.fad 1 (.t 4)), rg 33 (.load none (.t 32)), mv 34 1, rg 35 (.call 108 [(.t 33), (.t 34)]), mv 8 35])
 (.pre (.norm false [8]) .ret))
 (.seq
 (.reg [rg 37 (.bin .eql (.t 19) (.c (.i .i64 4))), mv 36 37])
 (.cond (.t 36)
 (.seq
 (.reg [rg 38 (.fad 1 (.t 4)), rg 39 (.load none (.t 38)), mv 40 2, rg 41 (.call 108 [(.t 39), (.t 40)]), mv 8 41])
 (.pre (.norm false [8]) .ret))
 (.seq
 (.reg [rg 43 (.bin .eql (.t 19) (.c (.i .i64 5))), mv 42 43])
 (.cond (.t 42)
 (.seq
 (.reg [rg 44 (.fad 1 (.t 4)), rg 45 (.load none (.t 44)), mv 46 3, rg 47 (.call 108 [(.t 45), (.t 46)]), mv 8 47])
 (.pre (.norm false [8]) .ret))
 (.seq
 (.reg [rg 49 (.bin .eql (.t 19) (.c (.i .i64 11))), mv 48 49])
 (.cond (.t 48)
 (.seq
 (.reg [rg 50 (.fad 1 (.t 4)), rg 51 (.load none (.t 50)), rg 52 (.bin .geq (.t 51) (.c (.i .i64 (-8)))), mv 53 52, gd 54 53 true (.fad 1 (.t 4)),
 gd 55 53 true (.load none (.t 54)), gd 56 53 true (.bin .leq (.t 55) (.c (.i .i64 8))), rg 57 (.pick (.t 53) (.t 56) (.c (.b false))), mv 8 57])
 (.pre (.norm false [8]) .ret))
 .skip))))))))))))
 (.seq
 (.reg [rg 58 (.fad 1 (.t 4)), rg 59 (.load none (.t 58)), rg 60 (.bin .eql (.t 59) (.c (.i .i64 0))), mv 61 60, gd 62 61 true (.fad 0 (.t 4)),
 gd 63 61 true (.load none (.t 62)), gd 64 61 true (.call 76 [(.t 63)]), gd 65 61 true (.bin .geq (.t 64) (.c (.i .i64 0))),
 rg 66 (.pick (.t 61) (.t 65) (.c (.b false))), mv 8 66])
 (.pre (.norm false [8]) .ret)))))
def l46_0 : AX :=
 (.note
 (.seq
 (.reg [rg 17 (.bin .lss (.t 16) (.t 15))])
 (.seq
 (.cond (.t 17)
 .skip
 (.exit 0))
 (.seq
 (.block 1
 (.seq
 (.reg [mv 18 16, rg 19 (.iad 3 (.t 14) (.t 16)), rg 20 (.load (some 3) (.t 19)), rg 11 (.alloc [(.i .i64 0), (.i .i64 0), (.sl [] .nl)]), mv 10 18,
 so (.store 3 (.t 11) (.t 20))])
 (.seq
 (.reg [mv 21 10, mv 22 9, rg 23 (.bin .eql (.t 21) (.t 22)), mv 24 23, gd 25 24 false (.load (some 3) (.t 11)), gd 26 24 false (.mov (.t 1)),
 gd 27 24 false (.mov (.t 2)), gd 28 24 false (.mov (.t 3)), gd 29 24 false (.call 75 [(.t 25), (.t 26), (.t 27), (.t 28)]),
 gd 30 24 false (.un .not (.t 29)), rg 31 (.pick (.t 24) (.c (.b true)) (.t 30))])
 (.cond (.t 31)
 (.seq
 (.reg [mv 32 10, mv 8 32])
 (.pre (.norm false [8]) .ret))
 .skip))))
 (.reg [rg 33 (.bin .add (.t 16) (.c (.i .i64 1))), mv 16 33]))))
 (.norm false [1, 2, 3, 9, 14, 15, 16]))
def b46 : AX :=
 (.seq
 (.reg [rg 8 (.mov (.c (.i .i64 0)))])
 (.seq
 (.reg [mv 12 0, rg 13 (.call 74 [(.t 12)]), mv 9 13])
 (.seq
 (.seq
 (.reg [mv 14 0, rg 15 (.len (.t 14)), rg 16 (.mov (.c (.i .i64 0)))])
 (.lp 0 (.norm false [1, 2, 3, 9, 14, 15, 16]) l46_0 (.norm false [9])))
 (.seq
 (.reg [mv 34 9, mv 8 34])
 (.pre (.norm false [8]) .ret)))))
class CTree (T : Tbl) : Prop where
 h76 : T 76 = some ⟨1, 18, [.t 2], b76, none, false⟩
 h74 : T 74 = some ⟨1, 34, [.t 2], b74, none, false⟩
 h44 : T 44 = some ⟨1, 6, [.t 2], b44, none, false⟩
 h108 : T 108 = some ⟨2, 12, [.t 4], b108, none, false⟩
 h107 : T 107 = some ⟨1, 14, [.t 2], b107, none, false⟩
 h75 : T 75 = some ⟨4, 67, [.t 8], b75, none, false⟩
 h46 : T 46 = some ⟨4, 35, [.t 8], b46, none, false⟩
section
variable {T : Tbl} [CTree T] {d : Option Nat} {st : St} {xs : List AV} {ps : List Opd} {e : Env} {h : Heap} {ol : List Heap}
@[simp] theorem x76 : callX (orc T) T 76 xs d st = cP T 76 false xs d st := callX_pure CTree.h76
theorem f76 (xs : List AV) (hn : xs.length = 1) : callF T 76 xs = retF [.t 2] false (evX (orc T) T 0 b76 ⟨argEnv xs, [], 1⟩) := callF_eq CTree.h76 hn
@[simp] theorem x74 : callX (orc T) T 74 xs d st = cP T 74 false xs d st := callX_pure CTree.h74
theorem f74 (xs : List AV) (hn : xs.length = 1) : callF T 74 xs = retF [.t 2] false (evX (orc T) T 0 b74 ⟨argEnv xs, [], 1⟩) := callF_eq CTree.h74 hn
@[simp] theorem x44 : callX (orc T) T 44 xs d st = cP T 44 false xs d st := callX_pure CTree.h44
theorem f44 (xs : List AV) (hn : xs.length = 1) : callF T 44 xs = retF [.t 2] false (evX (orc T) T 0 b44 ⟨argEnv xs, [], 1⟩) := callF_eq CTree.h44 hn
@[simp] theorem x108 : callX (orc T) T 108 xs d st = cP T 108 false xs d st := callX_pure CTree.h108
theorem f108 (xs : List AV) (hn : xs.length = 2) : callF T 108 xs = retF [.t 4] false (evX (orc T) T 0 b108 ⟨argEnv xs, [], 1⟩) := callF_eq CTree.h108 hn
@[simp] theorem x107 : callX (orc T) T 107 xs d st = cP T 107 false xs d st := callX_pure CTree.h107
theorem f107 (xs : List AV) (hn : xs.length = 1) : callF T 107 xs = retF [.t 2] false (evX (orc T) T 0 b107 ⟨argEnv xs, [], 1⟩) := callF_eq CTree.h107 hn
@[simp] theorem x75 : callX (orc T) T 75 xs d st = cP T 75 false xs d st := callX_pure CTree.h75
theorem f75 (xs : List AV) (hn : xs.length = 4) : callF T 75 xs = retF [.t 8] false (evX (orc T) T 0 b75 ⟨argEnv xs, [], 1⟩) := callF_eq CTree.h75 hn
@[simp] theorem x46 : callX (orc T) T 46 xs d st = cP T 46 false xs d st := callX_pure CTree.h46
theorem f46 (xs : List AV) (hn : xs.length = 4) : callF T 46 xs = retF [.t 8] false (evX (orc T) T 0 b46 ⟨argEnv xs, [], 1⟩) := callF_eq CTree.h46 hn
end
def l10_0 : AX :=
 (.note
 (.seq
 (.seq
 (.reg [mv 8 7, mv 9 0, rg 10 (.len (.t 9)), rg 11 (.bin .lss (.t 8) (.t 10)), mv 12 11, gd 13 12 true (.mov (.t 7)), gd 14 12 true (.mov (.t 1)),
 gd 15 12 true (.bin .lss (.t 13) (.t 14)), rg 16 (.pick (.t 12) (.t 15) (.c (.b false)))])
 (.cond (.t 16)
 .skip
 (.exit 0)))
 (.seq
 (.block 1
 (.seq
 (.reg [mv 19 0, mv 20 7, rg 21 (.iad 3 (.t 19) (.t 20)), rg 22 (.fad 2 (.t 21)), rg 23 (.load none (.t 22)), rg 24 (.len (.t 23)), mv 25 2,
 rg 26 (.bin .gtr (.t 24) (.t 25))])
 (.cond (.t 26)
 (.seq
 (.reg [rg 6 (.mov (.c (.b true)))])
 (.pre (.norm false [6]) .ret))
 .skip)))
 (.reg [mv 17 7, rg 18 (.bin .add (.t 17) (.c (.i .i64 1))), mv 7 18])))
 (.norm false [0, 1, 2, 7]))
def b10 : AX :=
 (.seq
 (.reg [rg 6 (.mov (.c (.b false)))])
 (.seq
 (.seq
 (.reg [rg 7 (.mov (.c (.i .i64 0)))])
 (.lp 0 (.norm false [0, 1, 2, 7]) l10_0 (.norm false [0, 1])))
 (.seq
 (.reg [mv 27 0, rg 28 (.len (.t 27)), mv 29 1, rg 30 (.bin .gtr (.t 28) (.t 29)), mv 6 30])
 (.pre (.norm false [6]) .ret))))
class CRef17 (T : Tbl) : Prop where
 h10 : T 10 = some ⟨3, 31, [.t 6], b10, none, false⟩
section
variable {T : Tbl} [CRef17 T] {d : Option Nat} {st : St} {xs : List AV} {ps : List Opd} {e : Env} {h : Heap} {ol : List Heap}
@[simp] theorem x10 : callX (orc T) T 10 xs d st = cP T 10 false xs d st := callX_pure CRef17.h10
theorem f10 (xs : List AV) (hn : xs.length = 3) : callF T 10 xs = retF [.t 6] false (evX (orc T) T 0 b10 ⟨argEnv xs, [], 1⟩) := callF_eq CRef17.h10 hn
end
def l13_0 : AX :=
 (.note
 (.seq
 (.seq
 (.reg [mv 5 4, mv 6 0, rg 7 (.len (.t 6)), rg 8 (.bin .lss (.t 5) (.t 7))])
 (.cond (.t 8)
 .skip
 (.exit 0)))
 (.seq
 (.block 1
 (.drawT [mv 11 3, mv 12 0, mv 13 4, rg 14 (.iad 3 (.t 12) (.t 13)), rg 15 (.fad 0 (.t 14)), rg 16 (.load none (.t 15)), mv 17 0, mv 18 4,
 rg 19 (.iad 3 (.t 17) (.t 18)), rg 20 (.fad 1 (.t 19)), rg 21 (.load none (.t 20)), mv 22 0, mv 23 4, rg 24 (.iad 3 (.t 22) (.t 23)),
 rg 25 (.fad 2 (.t 24)), rg 26 (.load none (.t 25)),
 rg 27 (.build [(.i .i64 0), (.i .i64 0), (.sl [] .nl)] [(0, 1, (.t 16)), (1, 1, (.t 21)), (2, 1, (.t 26))]),
 rg 28 (.bsl 3 [(.i .i64 0), (.i .i64 0), (.sl [] .nl)] 1 [(0, (.t 27))])]
 [rg 29 (.app 3 (.t 11) (.t 28)), mv 3 29]))
 (.reg [mv 9 4, rg 10 (.bin .add (.t 9) (.c (.i .i64 1))), mv 4 10])))
 (.norm false [0, 3, 4]))
def b13 : AX :=
 (.seq
 (.reg [rg 2 (.mov (.c (.sl [] .nl)))])
 (.seq
 (.note (.reg [rg 3 (.mov (.c (.sl [] .nl)))]) (.nil 3 3))
 (.seq
 (.seq
 (.reg [rg 4 (.mov (.c (.i .i64 0)))])
 (.lp 0 (.norm false [0, 3, 4]) l13_0 (.norm false [3])))
 (.seq
 (.reg [mv 30 3, mv 2 30])
 (.pre (.norm false [2]) .ret)))))
class CLaw17 (T : Tbl) : Prop where
 h13 : T 13 = some ⟨1, 31, [.t 2], b13, none, false⟩
section
variable {T : Tbl} [CLaw17 T] {d : Option Nat} {st : St} {xs : List AV} {ps : List Opd} {e : Env} {h : Heap} {ol : List Heap}
@[simp] theorem x13 : callX (orc T) T 13 xs d st = cP T 13 false xs d st := callX_pure CLaw17.h13
theorem f13 (xs : List AV) (hn : xs.length = 1) : callF T 13 xs = retF [.t 2] false (evX (orc T) T 0 b13 ⟨argEnv xs, [], 1⟩) := callF_eq CLaw17.h13 hn
end
def l483_0 : AX :=
 (.note
 (.seq
 (.reg [rg 9 (.bin .lss (.t 8) (.t 7))])
 (.seq
 (.cond (.t 9)
 .skip
 (.exit 0))
 (.seq
 (.block 1
 (.seq
 (.reg [rg 10 (.iad 3 (.t 6) (.t 8)), rg 11 (.load (some 3) (.t 10)), rg 5 (.alloc [(.i .i64 0), (.i .i64 0), (.sl [] .nl)]), so (.store 3 (.t 5) (.t 11))])
 (.drawT [mv 12 3, rg 13 (.fad 0 (.t 5)), rg 14 (.load none (.t 13)), rg 15 (.fad 1 (.t 5)), rg 16 (.load none (.t 15)), rg 17 (.fad 2 (.t 5)),
 rg 18 (.load none (.t 17)), rg 19 (.app 1 (.c (.sl [] .nl)) (.t 18)),
 rg 20 (.build [(.i .i64 0), (.i .i64 0), (.sl [] .nl)] [(0, 1, (.t 14)), (1, 1, (.t 16)), (2, 1, (.t 19))]),
 rg 21 (.bsl 3 [(.i .i64 0), (.i .i64 0), (.sl [] .nl)] 1 [(0, (.t 20))])]
 [rg 22 (.app 3 (.t 12) (.t 21)), mv 3 22])))
 (.reg [rg 23 (.bin .add (.t 8) (.c (.i .i64 1))), mv 8 23]))))
 (.norm false [3, 6, 7, 8]))
def b483 : AX :=
 (.seq
 (.reg [rg 2 (.mov (.c (.sl [] .nl)))])
 (.seq
 (.note (.reg [rg 3 (.mov (.c (.sl [] .nl)))]) (.nil 3 3))
 (.seq
 (.seq
 (.reg [mv 6 0, rg 7 (.len (.t 6)), rg 8 (.mov (.c (.i .i64 0)))])
 (.lp 0 (.norm false [3, 6, 7, 8]) l483_0 (.norm false [3])))
 (.seq
 (.reg [mv 24 3, mv 2 24])
 (.pre (.norm false [2]) .ret)))))
def l493_0 : AX :=
 (.note
 (.seq
 (.reg [rg 12 (.bin .lss (.t 11) (.t 10))])
 (.seq
 (.cond (.t 12)
 .skip
 (.exit 0))
 (.seq
 (.block 1
 (.seq
 (.reg [rg 13 (.iad 2 (.t 9) (.t 11)), rg 14 (.load (some 2) (.t 13)), rg 5 (.alloc [(.s []), (.sl [] .nl)]), so (.store 2 (.t 5) (.t 14))])
 (.reg [mv 15 3, rg 16 (.fad 1 (.t 5)), rg 17 (.load none (.t 16)), rg 18 (.call 483 [(.t 17)]), rg 19 (.bsl 1 [(.sl [] .nl)] 1 [(0, (.t 18))]),
 rg 20 (.app 1 (.t 15) (.t 19)), mv 3 20])))
 (.reg [rg 21 (.bin .add (.t 11) (.c (.i .i64 1))), mv 11 21]))))
 (.norm false [1, 3, 9, 10, 11]))
def l493_1 : AX :=
 (.note
 (.seq
 (.reg [rg 26 (.bin .lss (.t 25) (.t 24))])
 (.seq
 (.cond (.t 26)
 .skip
 (.exit 2))
 (.seq
 (.block 3
 (.seq
 (.reg [rg 27 (.iad 1 (.t 23) (.t 25)), rg 28 (.load none (.t 27)), mv 7 28])
 (.reg [mv 29 3, mv 30 7, rg 31 (.call 483 [(.t 30)]), rg 32 (.bsl 1 [(.sl [] .nl)] 1 [(0, (.t 31))]), rg 33 (.app 1 (.t 29) (.t 32)), mv 3 33])))
 (.reg [rg 34 (.bin .add (.t 25) (.c (.i .i64 1))), mv 25 34]))))
 (.norm false [3, 23, 24, 25]))
def b493 : AX :=
 (.seq
 (.reg [rg 1 (.xop (.box 2) [(.t 0)]), rg 2 (.mov (.c (.sl [] .nl)))])
 (.seq
 (.note (.reg [rg 3 (.mov (.c (.sl [] .nl)))]) (.nil 3 1))
 (.seq
 (.seq
 (.reg [rg 8 (.fad 0 (.t 1)), rg 9 (.load none (.t 8)), rg 10 (.len (.t 9)), rg 11 (.mov (.c (.i .i64 0)))])
 (.lp 0 (.norm false [1, 3, 9, 10, 11]) l493_0 (.norm false [1, 3])))
 (.seq
 (.seq
 (.reg [rg 22 (.fad 1 (.t 1)), rg 23 (.load none (.t 22)), rg 24 (.len (.t 23)), rg 25 (.mov (.c (.i .i64 0)))])
 (.lp 2 (.norm false [3, 23, 24, 25]) l493_1 (.norm false [3])))
 (.seq
 (.reg [mv 35 3, mv 2 35])
 (.pre (.norm false [2]) .ret))))))
def l491_0 : AX :=
 (.note
 (.seq
 (.reg [rg 10 (.bin .lss (.t 9) (.t 8))])
 (.seq
 (.cond (.t 10)
 .skip
 (.exit 0))
 (.seq
 (.block 1
 (.seq
 (.reg [rg 11 (.iad 1 (.t 7) (.t 9)), rg 12 (.load none (.t 11)), mv 5 12])
 (.reg [mv 13 3, mv 14 5, rg 15 (.len (.t 14)), rg 16 (.bin .add (.t 13) (.t 15)), mv 3 16])))
 (.reg [rg 17 (.bin .add (.t 9) (.c (.i .i64 1))), mv 9 17]))))
 (.norm false [3, 7, 8, 9]))
def b491 : AX :=
 (.seq
 (.reg [rg 1 (.xop (.box 2) [(.t 0)]), rg 2 (.mov (.c (.i .i64 0)))])
 (.seq
 (.reg [rg 3 (.mov (.c (.i .i64 0)))])
 (.seq
 (.seq
 (.reg [rg 6 (.load (some 2) (.t 1)), rg 7 (.call 493 [(.t 6)]), rg 8 (.len (.t 7)), rg 9 (.mov (.c (.i .i64 0)))])
 (.lp 0 (.norm false [3, 7, 8, 9]) l491_0 (.norm false [3])))
 (.seq
 (.reg [mv 18 3, mv 2 18])
 (.pre (.norm false [2]) .ret)))))
def l492_0 : AX :=
 (.note
 (.seq
 (.reg [rg 20 (.bin .lss (.t 19) (.t 18))])
 (.seq
 (.cond (.t 20)
 .skip
 (.exit 2))
 (.seq
 (.block 3
 (.seq
 (.reg [mv 21 6, mv 22 3, mv 23 3, rg 24 (.len (.t 23)), rg 25 (.bin .sub (.t 24) (.c (.i .i64 1))), rg 26 (.iad 1 (.t 22) (.t 25)), rg 27 (.load none (.t 26)),
 rg 28 (.mm true [(.t 21), (.t 27)]), mv 6 28])
 (.reg [mv 29 3, mv 30 3, rg 31 (.len (.t 30)), rg 32 (.bin .sub (.t 31) (.c (.i .i64 1))), rg 33 (.slc 1 (.t 29) none (some (.t 32)) none), mv 3 33])))
 (.reg [rg 34 (.bin .add (.t 19) (.c (.i .i64 1))), mv 19 34]))))
 (.norm false [3, 6, 10, 11, 12, 18, 19]))
def l492_1 : AX :=
 (.note
 (.seq
 (.reg [rg 13 (.bin .lss (.t 12) (.t 11))])
 (.seq
 (.cond (.t 13)
 .skip
 (.exit 0))
 (.seq
 (.block 1
 (.seq
 (.reg [rg 14 (.iad 3 (.t 10) (.t 12)), rg 15 (.load (some 3) (.t 14)), rg 5 (.alloc [(.i .i64 0), (.i .i64 0), (.sl [] .nl)]), so (.store 3 (.t 5) (.t 15))])
 (.seq
 (.reg [rg 6 (.mov (.c (.i .i64 0)))])
 (.seq
 (.seq
 (.reg [rg 16 (.fad 0 (.t 5)), rg 17 (.load none (.t 16)), rg 18 (.call 76 [(.t 17)]), rg 19 (.mov (.c (.i .i64 0)))])
 (.lp 2 (.norm false [3, 6, 10, 11, 12, 18, 19]) l492_0 (.norm false [3, 6, 10, 11, 12])))
 (.reg [mv 35 3, mv 36 6, rg 37 (.bin .add (.t 36) (.c (.i .i64 1))), rg 38 (.bsl 1 [(.i .i64 0)] 1 [(0, (.t 37))]), rg 39 (.app 1 (.t 35) (.t 38)), mv 3 39])))))
 (.reg [rg 40 (.bin .add (.t 12) (.c (.i .i64 1))), mv 12 40]))))
 (.norm false [3, 10, 11, 12]))
def b492 : AX :=
 (.seq
 (.reg [rg 2 (.mov (.c (.i .i64 0)))])
 (.seq
 (.seq
 (.reg [mv 7 0, rg 8 (.call 44 [(.t 7)]), rg 9 (.un .not (.t 8))])
 (.cond (.t 9)
 (.seq
 (.reg [rg 2 (.mov (.c (.i .i64 0)))])
 (.pre (.norm false [2]) .ret))
 .skip))
 (.seq
 (.note (.reg [rg 3 (.mov (.c (.sl [] .nl)))]) (.nil 3 1))
 (.seq
 (.seq
 (.reg [mv 10 0, rg 11 (.len (.t 10)), rg 12 (.mov (.c (.i .i64 0)))])
 (.lp 0 (.norm false [3, 10, 11, 12]) l492_1 (.norm false [3])))
 (.seq
 (.reg [mv 41 3, rg 42 (.iad 1 (.t 41) (.c (.i .i64 0))), rg 43 (.load none (.t 42)), mv 2 43])
 (.pre (.norm false [2]) .ret))))))
def l482_0 : AX :=
 (.note
 (.seq
 (.seq
 (.reg [mv 6 5, rg 7 (.bin .gtr (.t 6) (.c (.i .i64 0)))])
 (.cond (.t 7)
 .skip
 (.exit 0)))
 (.block 1
 (.seq
 (.reg [mv 8 1, rg 9 (.bin .sub (.t 8) (.c (.i .i64 1))), mv 1 9])
 (.reg [mv 10 5, mv 11 0, mv 12 1, rg 13 (.iad 3 (.t 11) (.t 12)), rg 14 (.fad 0 (.t 13)), rg 15 (.load none (.t 14)), rg 16 (.call 76 [(.t 15)]),
 rg 17 (.bin .sub (.t 16) (.c (.i .i64 1))), rg 18 (.bin .add (.t 10) (.t 17)), mv 5 18]))))
 (.norm false [0, 1, 5]))
def b482 : AX :=
 (.seq
 (.reg [rg 4 (.mov (.c (.i .i64 0)))])
 (.seq
 (.reg [rg 5 (.mov (.c (.i .i64 1)))])
 (.seq
 (.lp 0 (.norm false [0, 1, 5]) l482_0 (.norm false [1]))
 (.seq
 (.reg [mv 19 1, mv 4 19])
 (.pre (.norm false [4]) .ret)))))
def l472_0 : AX :=
 (.note
 (.seq
 (.seq
 (.reg [mv 24 6, rg 25 (.bin .geq (.t 24) (.c (.i .i64 0)))])
 (.cond (.t 25)
 .skip
 (.exit 0)))
 (.seq
 (.block 1
 (.seq
 (.reg [mv 28 0, mv 29 4, rg 30 (.call 482 [(.t 28), (.t 29)]), mv 7 30])
 (.seq
 (.reg [mv 31 5, mv 32 6, mv 33 0, mv 34 7, mv 35 4, rg 36 (.slc 3 (.t 33) (some (.t 34)) (some (.t 35)) none), rg 37 (.call 483 [(.t 36)]),
 rg 38 (.iad 1 (.t 31) (.t 32)), so (.store 1 (.t 38) (.t 37))])
 (.reg [mv 39 7, mv 4 39]))))
 (.reg [mv 26 6, rg 27 (.bin .sub (.t 26) (.c (.i .i64 1))), mv 6 27])))
 (.norm false [0, 4, 5, 6]))
def b472 : AX :=
 (.seq
 (.reg [rg 2 (.mov (.c (.sl [] .nl))), rg 3 (.mov (.c (.b false)))])
 (.seq
 (.seq
 (.reg [mv 8 0, rg 9 (.call 44 [(.t 8)]), rg 10 (.un .not (.t 9))])
 (.cond (.t 10)
 (.seq
 (.reg [rg 2 (.mov (.c (.sl [] .nl))), rg 3 (.mov (.c (.b false)))])
 (.pre (.norm false [2, 3]) .ret))
 .skip))
 (.seq
 (.reg [mv 11 0, rg 12 (.len (.t 11)), rg 13 (.bin .sub (.t 12) (.c (.i .i64 1))), mv 4 13])
 (.seq
 (.reg [mv 14 0, mv 15 4, rg 16 (.iad 3 (.t 14) (.t 15)), rg 17 (.fad 0 (.t 16)), rg 18 (.load none (.t 17)), rg 19 (.call 76 [(.t 18)]),
 rg 20 (.mks 1 [(.sl [] .nl)] (.t 19) (.t 19)), mv 5 20])
 (.seq
 (.seq
 (.reg [mv 21 5, rg 22 (.len (.t 21)), rg 23 (.bin .sub (.t 22) (.c (.i .i64 1))), mv 6 23])
 (.lp 0 (.norm false [0, 4, 5, 6]) l472_0 (.norm false [5])))
 (.seq
 (.reg [mv 40 5, mv 2 40, rg 3 (.mov (.c (.b true)))])
 (.pre (.norm false [2, 3]) .ret)))))))
class CTree2 (T : Tbl) : Prop where
 h483 : T 483 = some ⟨1, 25, [.t 2], b483, none, false⟩
 h493 : T 493 = some ⟨1, 36, [.t 2], b493, none, false⟩
 h491 : T 491 = some ⟨1, 19, [.t 2], b491, none, false⟩
 h492 : T 492 = some ⟨1, 44, [.t 2], b492, none, false⟩
 h482 : T 482 = some ⟨2, 20, [.t 4], b482, none, false⟩
 h472 : T 472 = some ⟨1, 41, [.t 2, .t 3], b472, none, false⟩
section
variable {T : Tbl} [CTree2 T] {d : Option Nat} {st : St} {xs : List AV} {ps : List Opd} {e : Env} {h : Heap} {ol : List Heap}
@[simp] theorem x483 : callX (orc T) T 483 xs d st = cP T 483 false xs d st := callX_pure CTree2.h483
theorem f483 (xs : List AV) (hn : xs.length = 1) : callF T 483 xs = retF [.t 2] false (evX (orc T) T 0 b483 ⟨argEnv xs, [], 1⟩) := callF_eq CTree2.h483 hn
@[simp] theorem x493 : callX (orc T) T 493 xs d st = cP T 493 false xs d st := callX_pure CTree2.h493
theorem f493 (xs : List AV) (hn : xs.length = 1) : callF T 493 xs = retF [.t 2] false (evX (orc T) T 0 b493 ⟨argEnv xs, [], 1⟩) := callF_eq CTree2.h493 hn
@[simp] theorem x491 : callX (orc T) T 491 xs d st = cP T 491 false xs d st := callX_pure CTree2.h491
theorem f491 (xs : List AV) (hn : xs.length = 1) : callF T 491 xs = retF [.t 2] false (evX (orc T) T 0 b491 ⟨argEnv xs, [], 1⟩) := callF_eq CTree2.h491 hn
@[simp] theorem x492 : callX (orc T) T 492 xs d st = cP T 492 false xs d st := callX_pure CTree2.h492
theorem f492 (xs : List AV) (hn : xs.length = 1) : callF T 492 xs = retF [.t 2] false (evX (orc T) T 0 b492 ⟨argEnv xs, [], 1⟩) := callF_eq CTree2.h492 hn
@[simp] theorem x482 : callX (orc T) T 482 xs d st = cP T 482 false xs d st := callX_pure CTree2.h482
theorem f482 (xs : List AV) (hn : xs.length = 2) : callF T 482 xs = retF [.t 4] false (evX (orc T) T 0 b482 ⟨argEnv xs, [], 1⟩) := callF_eq CTree2.h482 hn
@[simp] theorem x472 : callX (orc T) T 472 xs d st = cP T 472 false xs d st := callX_pure CTree2.h472
theorem f472 (xs : List AV) (hn : xs.length = 1) : callF T 472 xs = retF [.t 2, .t 3] false (evX (orc T) T 0 b472 ⟨argEnv xs, [], 1⟩) := callF_eq CTree2.h472 hn
end
def b485 : AX :=
 (.seq
 (.reg [rg 3 (.xop (.box 2) [(.t 0)]), rg 6 (.mov (.c (.b false)))])
 (.seq
 (.reg [mv 7 1, rg 8 (.bin .geq (.t 7) (.c (.i .i64 1))), mv 9 8, gd 10 9 true (.mov (.t 1)), gd 11 9 true (.bin .leq (.t 10) (.c (.i .i64 6))),
 rg 12 (.pick (.t 9) (.t 11) (.c (.b false))), mv 13 12, gd 14 13 true (.mov (.t 2)), gd 15 13 true (.bin .geq (.t 14) (.c (.i .i64 0))),
 rg 16 (.pick (.t 13) (.t 15) (.c (.b false))), mv 17 16, gd 18 17 true (.mov (.t 2)), gd 19 17 true (.bin .leq (.t 18) (.c (.i .i64 6))),
 rg 20 (.pick (.t 17) (.t 19) (.c (.b false))), mv 21 20, gd 22 21 true (.fad 1 (.t 3)), gd 23 21 true (.load none (.t 22)), gd 24 21 true (.len (.t 23)),
 gd 25 21 true (.mov (.t 1)), gd 26 21 true (.bin .eql (.t 24) (.t 25)), rg 27 (.pick (.t 21) (.t 26) (.c (.b false))), mv 28 27,
 gd 29 28 true (.fad 0 (.t 3)), gd 30 28 true (.load none (.t 29)), gd 31 28 true (.len (.t 30)), gd 32 28 true (.bin .leq (.t 31) (.c (.i .i64 10))),
 rg 33 (.pick (.t 28) (.t 32) (.c (.b false))), mv 34 33, gd 35 34 true (.load (some 2) (.t 3)), gd 36 34 true (.call 491 [(.t 35)]),
 gd 37 34 true (.bin .leq (.t 36) (.c (.i .i64 300))), rg 38 (.pick (.t 34) (.t 37) (.c (.b false))), mv 6 38])
 (.pre (.norm false [6]) .ret)))
def b486 : AX :=
 (.seq
 (.reg [rg 2 (.mov (.c (.b false)))])
 (.seq
 (.seq
 (.reg [mv 3 0])
 (.block 0
 (.seq
 (.seq
 (.reg [rg 5 (.bin .eql (.t 3) (.c (.s [116]))), mv 4 5])
 (.cond (.t 4)
 .skip
 (.seq
 (.reg [rg 6 (.bin .eql (.t 3) (.c (.s [121]))), mv 4 6])
 (.cond (.t 4)
 .skip
 (.seq
 (.reg [rg 7 (.bin .eql (.t 3) (.c (.s [112]))), mv 4 7])
 (.cond (.t 4)
 .skip
 (.reg [rg 8 (.bin .eql (.t 3) (.c (.s [108, 101, 116]))), mv 4 8])))))))
 (.cond (.t 4)
 (.seq
 (.reg [rg 2 (.mov (.c (.b false)))])
 (.pre (.norm false [2]) .ret))
 .skip))))
 (.seq
 (.reg [mv 9 0, rg 10 (.build [(.i .i64 0), (.s []), (.i .i64 0)] [(0, 1, (.c (.i .i64 2))), (1, 1, (.t 9))]), rg 11 (.call 172 [(.t 10)]), mv 2 11])
 (.pre (.norm false [2]) .ret))))
def l487_0 : AX :=
 (.note
 (.seq
 (.reg [rg 8 (.bin .lss (.t 7) (.t 6))])
 (.seq
 (.cond (.t 8)
 .skip
 (.exit 0))
 (.seq
 (.block 1
 (.seq
 (.reg [mv 9 7, mv 5 9])
 (.seq
 (.drawT [mv 10 0, mv 11 5, rg 12 (.iad 2 (.t 10) (.t 11)), rg 13 (.fad 0 (.t 12)), rg 14 (.load none (.t 13)), mv 15 0, mv 16 1, rg 17 (.iad 2 (.t 15) (.t 16)),
 rg 18 (.fad 0 (.t 17)), rg 19 (.load none (.t 18))]
 [rg 20 (.bin .eql (.t 14) (.t 19))])
 (.cond (.t 20)
 (.seq
 (.reg [rg 4 (.mov (.c (.b true)))])
 (.pre (.norm false [4]) .ret))
 .skip))))
 (.reg [rg 21 (.bin .add (.t 7) (.c (.i .i64 1))), mv 7 21]))))
 (.norm false [0, 1, 6, 7]))
def b487 : AX :=
 (.seq
 (.reg [rg 4 (.mov (.c (.b false)))])
 (.seq
 (.seq
 (.reg [mv 6 1, rg 7 (.mov (.c (.i .i64 0)))])
 (.lp 0 (.norm false [0, 1, 6, 7]) l487_0 (.norm false [])))
 (.seq
 (.reg [rg 4 (.mov (.c (.b false)))])
 (.pre (.norm false [4]) .ret))))
def b488 : AX :=
 (.seq
 (.reg [rg 10 (.alloc [(.i .i64 0), (.i .i64 0), (.i .i64 0), (.i .i64 0)])])
 (.seq
 (.reg [mv 12 0, mv 13 2, mv 14 3, mv 15 4, rg 16 (.call 46 [(.t 12), (.t 13), (.t 14), (.t 15)]), mv 11 16])
 (.seq
 (.seq
 (.reg [mv 17 11, rg 18 (.bin .lss (.t 17) (.c (.i .i64 0))), mv 19 18, gd 20 19 true (.mov (.t 0)), gd 21 19 true (.call 492 [(.t 20)]),
 gd 22 19 true (.bin .gtr (.t 21) (.c (.i .i64 40))), rg 23 (.pick (.t 19) (.t 22) (.c (.b false)))])
 (.cond (.t 23)
 (.reg [mv 24 0, rg 25 (.len (.t 24)), mv 11 25])
 .skip))
 (.seq
 (.seq
 (.reg [mv 26 11, rg 27 (.bin .lss (.t 26) (.c (.i .i64 0)))])
 (.cond (.t 27)
 (.seq
 (.reg [rg 28 (.build [(.i .i64 0), (.i .i64 0), (.i .i64 0), (.i .i64 0)] []), so (.store 4 (.t 10) (.t 28))])
 (.pre (.norm false [10]) .ret))
 .skip))
 (.seq
 (.reg [mv 29 1, mv 30 11, rg 31 (.build [(.i .i64 0), (.i .i64 0), (.i .i64 0), (.i .i64 0)] [(0, 1, (.c (.i .i64 2))), (1, 1, (.t 29)), (3, 1, (.t 30))]),
 so (.store 4 (.t 10) (.t 31))])
 (.pre (.norm false [10]) .ret))))))
def l477_0 : AX :=
 (.note
 (.seq
 (.reg [rg 23 (.bin .lss (.t 22) (.t 21))])
 (.seq
 (.cond (.t 23)
 .skip
 (.exit 0))
 (.seq
 (.block 1
 (.seq
 (.reg [mv 24 22, rg 25 (.iad 2 (.t 20) (.t 22)), rg 26 (.load (some 2) (.t 25)), rg 8 (.alloc [(.s []), (.sl [] .nl)]), mv 7 24, so (.store 2 (.t 8) (.t 26))])
 (.seq
 (.seq
 (.reg [rg 27 (.fad 0 (.t 8)), rg 28 (.load none (.t 27)), rg 29 (.call 486 [(.t 28)]), rg 30 (.un .not (.t 29)), mv 31 30, gd 32 31 false (.fad 0 (.t 3)),
 gd 33 31 false (.load none (.t 32)), gd 34 31 false (.mov (.t 7)), gd 35 31 false (.call 487 [(.t 33), (.t 34)]),
 rg 36 (.pick (.t 31) (.c (.b true)) (.t 35))])
 (.cond (.t 36)
 (.seq
 (.reg [mv 37 7, rg 38 (.bin .add (.t 37) (.c (.i .i64 1))),
 rg 39 (.build [(.i .i64 0), (.i .i64 0), (.i .i64 0), (.i .i64 0)] [(0, 1, (.c (.i .i64 2))), (1, 1, (.t 38)), (2, 1, (.c (.i .i64 1)))]),
 so (.store 4 (.t 6) (.t 39))])
 (.pre (.norm false [6]) .ret))
 .skip))
 (.seq
 (.reg [rg 40 (.fad 1 (.t 8)), rg 41 (.load none (.t 40)), mv 42 7, rg 43 (.bin .add (.t 42) (.c (.i .i64 1))), mv 44 1, mv 45 2, mv 46 7,
 rg 47 (.call 488 [(.t 41), (.t 43), (.t 44), (.t 45), (.t 46)]), rg 9 (.alloc [(.i .i64 0), (.i .i64 0), (.i .i64 0), (.i .i64 0)]),
 so (.store 4 (.t 9) (.t 47))])
 (.seq
 (.reg [rg 48 (.load (some 4) (.t 9)), rg 49 (.build [(.i .i64 0), (.i .i64 0), (.i .i64 0), (.i .i64 0)] []),
 rg 50 (.eqs true [(0, .int), (1, .int), (2, .int), (3, .int)] (.t 48) (.t 49))])
 (.cond (.t 50)
 (.seq
 (.reg [rg 51 (.load (some 4) (.t 9)), so (.store 4 (.t 6) (.t 51))])
 (.pre (.norm false [6]) .ret))
 .skip))))))
 (.reg [rg 52 (.bin .add (.t 22) (.c (.i .i64 1))), mv 22 52]))))
 (.norm false [1, 2, 3, 6, 20, 21, 22]))
def l477_1 : AX :=
 (.note
 (.seq
 (.reg [rg 57 (.bin .lss (.t 56) (.t 55))])
 (.seq
 (.cond (.t 57)
 .skip
 (.exit 2))
 (.seq
 (.block 3
 (.seq
 (.reg [mv 58 56, rg 59 (.iad 1 (.t 54) (.t 56)), rg 60 (.load none (.t 59)), mv 10 58, mv 11 60])
 (.seq
 (.reg [mv 61 11, rg 62 (.fad 0 (.t 3)), rg 63 (.load none (.t 62)), rg 64 (.len (.t 63)), mv 65 10, rg 66 (.bin .add (.t 64) (.t 65)),
 rg 67 (.bin .add (.t 66) (.c (.i .i64 1))), mv 68 1, mv 69 2, rg 70 (.fad 0 (.t 3)), rg 71 (.load none (.t 70)), rg 72 (.len (.t 71)),
 rg 73 (.call 488 [(.t 61), (.t 67), (.t 68), (.t 69), (.t 72)]), rg 12 (.alloc [(.i .i64 0), (.i .i64 0), (.i .i64 0), (.i .i64 0)]),
 so (.store 4 (.t 12) (.t 73))])
 (.seq
 (.reg [rg 74 (.load (some 4) (.t 12)), rg 75 (.build [(.i .i64 0), (.i .i64 0), (.i .i64 0), (.i .i64 0)] []),
 rg 76 (.eqs true [(0, .int), (1, .int), (2, .int), (3, .int)] (.t 74) (.t 75))])
 (.cond (.t 76)
 (.seq
 (.reg [rg 77 (.load (some 4) (.t 12)), so (.store 4 (.t 6) (.t 77))])
 (.pre (.norm false [6]) .ret))
 .skip)))))
 (.reg [rg 78 (.bin .add (.t 56) (.c (.i .i64 1))), mv 56 78]))))
 (.norm false [1, 2, 3, 6, 54, 55, 56]))
def b477 : AX :=
 (.seq
 (.reg [rg 3 (.xop (.box 2) [(.t 0)]), rg 6 (.alloc [(.i .i64 0), (.i .i64 0), (.i .i64 0), (.i .i64 0)])])
 (.seq
 (.seq
 (.reg [rg 13 (.load (some 2) (.t 3)), mv 14 1, mv 15 2, rg 16 (.call 485 [(.t 13), (.t 14), (.t 15)]), rg 17 (.un .not (.t 16))])
 (.cond (.t 17)
 (.seq
 (.reg [rg 18 (.build [(.i .i64 0), (.i .i64 0), (.i .i64 0), (.i .i64 0)] [(0, 1, (.c (.i .i64 2)))]), so (.store 4 (.t 6) (.t 18))])
 (.pre (.norm false [6]) .ret))
 .skip))
 (.seq
 (.seq
 (.reg [rg 19 (.fad 0 (.t 3)), rg 20 (.load none (.t 19)), rg 21 (.len (.t 20)), rg 22 (.mov (.c (.i .i64 0)))])
 (.lp 0 (.norm false [1, 2, 3, 6, 20, 21, 22]) l477_0 (.norm false [1, 2, 3, 6])))
 (.seq
 (.seq
 (.reg [rg 53 (.fad 1 (.t 3)), rg 54 (.load none (.t 53)), rg 55 (.len (.t 54)), rg 56 (.mov (.c (.i .i64 0)))])
 (.lp 2 (.norm false [1, 2, 3, 6, 54, 55, 56]) l477_1 (.norm false [6])))
 (.seq
 (.reg [rg 79 (.build [(.i .i64 0), (.i .i64 0), (.i .i64 0), (.i .i64 0)] []), so (.store 4 (.t 6) (.t 79))])
 (.pre (.norm false [6]) .ret))))))
class CCheck (T : Tbl) : Prop where
 h485 : T 485 = some ⟨3, 39, [.t 6], b485, none, false⟩
 h486 : T 486 = some ⟨1, 12, [.t 2], b486, none, false⟩
 h487 : T 487 = some ⟨2, 22, [.t 4], b487, none, false⟩
 h488 : T 488 = some ⟨5, 32, [.cell 10 (some 4)], b488, none, false⟩
 h477 : T 477 = some ⟨3, 80, [.cell 6 (some 4)], b477, none, false⟩
section
variable {T : Tbl} [CCheck T] {d : Option Nat} {st : St} {xs : List AV} {ps : List Opd} {e : Env} {h : Heap} {ol : List Heap}
@[simp] theorem x485 : callX (orc T) T 485 xs d st = cP T 485 false xs d st := callX_pure CCheck.h485
theorem f485 (xs : List AV) (hn : xs.length = 3) : callF T 485 xs = retF [.t 6] false (evX (orc T) T 0 b485 ⟨argEnv xs, [], 1⟩) := callF_eq CCheck.h485 hn
@[simp] theorem x486 : callX (orc T) T 486 xs d st = cP T 486 false xs d st := callX_pure CCheck.h486
theorem f486 (xs : List AV) (hn : xs.length = 1) : callF T 486 xs = retF [.t 2] false (evX (orc T) T 0 b486 ⟨argEnv xs, [], 1⟩) := callF_eq CCheck.h486 hn
@[simp] theorem x487 : callX (orc T) T 487 xs d st = cP T 487 false xs d st := callX_pure CCheck.h487
theorem f487 (xs : List AV) (hn : xs.length = 2) : callF T 487 xs = retF [.t 4] false (evX (orc T) T 0 b487 ⟨argEnv xs, [], 1⟩) := callF_eq CCheck.h487 hn
@[simp] theorem x488 : callX (orc T) T 488 xs d st = cP T 488 false xs d st := callX_pure CCheck.h488
theorem f488 (xs : List AV) (hn : xs.length = 5) : callF T 488 xs = retF [.cell 10 (some 4)] false (evX (orc T) T 0 b488 ⟨argEnv xs, [], 1⟩) := callF_eq CCheck.h488 hn
@[simp] theorem x477 : callX (orc T) T 477 xs d st = cP T 477 false xs d st := callX_pure CCheck.h477
theorem f477 (xs : List AV) (hn : xs.length = 3) : callF T 477 xs = retF [.cell 6 (some 4)] false (evX (orc T) T 0 b477 ⟨argEnv xs, [], 1⟩) := callF_eq CCheck.h477 hn
end
def isD (c : UInt8) : Bool := decide (48 ≤ c.toNat) && decide (c.toNat ≤ 57)
def isL (c : UInt8) : Bool := decide (97 ≤ c.toNat) && decide (c.toNat ≤ 122) || decide (65 ≤ c.toNat) && decide (c.toNat ≤ 90) || decide (c.toNat = 95)
def signB : List UInt8 := [43, 45, 42, 47, 94, 40, 41, 91, 93, 44, 59, 61]
def isS (c : UInt8) : Bool := signB.contains c
def kindN (c : UInt8) : Nat := if isD c then 1 else if isL c then 2 else if isS c then 3 else 0
def moreN (k : Nat) (c : UInt8) : Bool := decide (k = 1) && isD c || decide (k = 2) && (isL c || isD c)
def mostN (k : Nat) : Nat := if k = 1 then 60 else if k = 2 then 12 else 1
def isB (c : UInt8) : Bool := decide (c = 32) || decide (c = 9) || decide (c = 10) || decide (c = 13)
abbrev Wd := Nat × List UInt8 × Nat
def skipC : Bool → List UInt8 → Nat
 | _, [] => 0
 | note, c :: r =>
  let note' := if c = 35 then true else if c = 10 then false else note
  if (note' || isB c) = true then 1 + skipC note' r else 0
def firstN (k : Nat) (r : List UInt8) : Nat := 1 + (r.takeWhile (moreN k)).length
def scanL (l : List UInt8) (i : Nat) (acc : List Wd) : Except Nat (List Wd) :=
 match l with
 | [] => .ok acc
 | c :: r =>
  if kindN c = 0 then .error i
  else if mostN (kindN c) < firstN (kindN c) r then .error (i + mostN (kindN c))
  else scanL ((r.drop (firstN (kindN c) r - 1)).drop (skipC false (r.drop (firstN (kindN c) r - 1)))) (i + firstN (kindN c) r + skipC false (r.drop (firstN (kindN c) r - 1)))
   (acc ++ [(kindN c, (c :: r).take (firstN (kindN c) r), i)])
termination_by l.length
decreasing_by simp; omega
def stepWd (c : UInt8) (i : Nat) (acc : List Wd) : List Wd :=
 match acc.getLast? with
 | some (k, t, a) => if a + t.length = i ∧ moreN k c = true then acc.dropLast ++ [(k, t ++ [c], a)] else acc ++ [(kindN c, [c], i)]
 | none => acc ++ [(kindN c, [c], i)]
def badWd (acc : List Wd) : Bool :=
 match acc.getLast? with
 | some (k, t, _) => decide (k = 0) || decide (mostN k < t.length)
 | none => false
def refL : List UInt8 → Nat → Bool → List Wd → Except Nat (List Wd)
 | [], _, _, acc => .ok acc
 | c :: r, i, note, acc =>
  let note' := if c = 35 then true else if c = 10 then false else note
  if (note' || isB c) = true then refL r (i + 1) note' acc
  else if badWd (stepWd c i acc) = true then .error i
  else refL r (i + 1) note' (stepWd c i acc)
def Fresh (acc : List Wd) (i : Nat) (l : List UInt8) : Prop := ∀ k t a, acc.getLast? = some (k, t, a) → a + t.length = i → ∀ c r, l = c :: r → moreN k c = false
def prim187 : List AV → Option AV
 | [.i .u8 n] => if 0 ≤ n ∧ n < 256 then some (.b (isS (UInt8.ofNat n.toNat))) else none
 | _ => none
theorem prim187_eq (c : UInt8) : prim187 [u8 c.toNat] = some (.b (isS c)) := by
 have := c.toNat_lt
 simp only [prim187, u8]
 rw [if_pos ⟨by omega, by omega⟩]
 simp
def prim184 : List AV → Option AV
 | [.s l, .s [10]] => if l.length ≤ 1000000 then some (.tup [.s (l.takeWhile (· != 10)), .s ((l.dropWhile (· != 10)).drop 1), .b (l.contains 10)]) else none
 | _ => none
def textOf : List AV → Option (List UInt8)
 | [.s l] => if l.length ≤ 10000 then some l else none
 | _ => none
def prim183 : List AV → Option AV
 | [.sl els .an, .s sep] => if els.length ≤ 1000 ∧ sep.length ≤ 100 then (els.mapM textOf).map fun ts => .s (List.intercalate sep ts) else none
 | _ => none
def rowsT (l : List (List UInt8)) : List (List AV) := l.map fun s => [.s s]
class CJoin (T : Tbl) : Prop where
def b185 : AX :=
 (.seq
 (.reg [rg 2 (.mov (.c (.b false)))])
 (.seq
 (.reg [mv 3 0, rg 4 (.bin .geq (.t 3) (.c (u8 48))), mv 5 4, gd 6 5 true (.mov (.t 0)), gd 7 5 true (.bin .leq (.t 6) (.c (u8 57))),
 rg 8 (.pick (.t 5) (.t 7) (.c (.b false))), mv 2 8])
 (.pre (.norm false [2]) .ret)))
def b186 : AX :=
 (.seq
 (.reg [rg 2 (.mov (.c (.b false)))])
 (.seq
 (.reg [mv 3 0, rg 4 (.bin .geq (.t 3) (.c (u8 97))), mv 5 4, gd 6 5 true (.mov (.t 0)), gd 7 5 true (.bin .leq (.t 6) (.c (u8 122))),
 rg 8 (.pick (.t 5) (.t 7) (.c (.b false))), mv 9 8, gd 10 9 false (.mov (.t 0)), gd 11 9 false (.bin .geq (.t 10) (.c (u8 65))),
 gd 12 9 false (.mov (.t 11)), gd 13 12 true (.mov (.t 0)), gd 14 12 true (.bin .leq (.t 13) (.c (u8 90))),
 gd 15 9 false (.pick (.t 12) (.t 14) (.c (.b false))), rg 16 (.pick (.t 9) (.c (.b true)) (.t 15)), mv 17 16, gd 18 17 false (.mov (.t 0)),
 gd 19 17 false (.bin .eql (.t 18) (.c (u8 95))), rg 20 (.pick (.t 17) (.c (.b true)) (.t 19)), mv 2 20])
 (.pre (.norm false [2]) .ret)))
def b177 : AX :=
 (.seq
 (.reg [rg 2 (.mov (.c (.i .i64 0)))])
 (.seq
 (.block 0
 (.seq
 (.reg [mv 4 0, rg 5 (.call 185 [(.t 4)]), mv 3 5])
 (.cond (.t 3)
 (.seq
 (.reg [rg 2 (.mov (.c (.i .i64 1)))])
 (.pre (.norm false [2]) .ret))
 (.seq
 (.reg [mv 7 0, rg 8 (.call 186 [(.t 7)]), mv 6 8])
 (.cond (.t 6)
 (.seq
 (.reg [rg 2 (.mov (.c (.i .i64 2)))])
 (.pre (.norm false [2]) .ret))
 (.seq
 (.reg [mv 10 0, rg 11 (.call 187 [(.t 10)]), mv 9 11])
 (.cond (.t 9)
 (.seq
 (.reg [rg 2 (.mov (.c (.i .i64 3)))])
 (.pre (.norm false [2]) .ret))
 .skip)))))))
 (.seq
 (.reg [rg 2 (.mov (.c (.i .i64 0)))])
 (.pre (.norm false [2]) .ret))))
def b188 : AX :=
 (.seq
 (.reg [rg 4 (.mov (.c (.b false)))])
 (.seq
 (.reg [mv 5 0, rg 6 (.bin .eql (.t 5) (.c (.i .i64 1))), mv 7 6, gd 8 7 true (.mov (.t 1)), gd 9 7 true (.call 185 [(.t 8)]),
 rg 10 (.pick (.t 7) (.t 9) (.c (.b false))), mv 11 10, gd 12 11 false (.mov (.t 0)), gd 13 11 false (.bin .eql (.t 12) (.c (.i .i64 2))),
 gd 14 11 false (.mov (.t 13)), gd 15 14 true (.mov (.t 1)), gd 16 14 true (.call 186 [(.t 15)]), gd 17 14 true (.mov (.t 16)),
 gd 18 17 false (.mov (.t 1)), gd 19 17 false (.call 185 [(.t 18)]), gd 20 14 true (.pick (.t 17) (.c (.b true)) (.t 19)),
 gd 21 11 false (.pick (.t 14) (.t 20) (.c (.b false))), rg 22 (.pick (.t 11) (.c (.b true)) (.t 21)), mv 4 22])
 (.pre (.norm false [4]) .ret)))
def b179 : AX :=
 (.seq
 (.reg [rg 2 (.mov (.c (.i .i64 0)))])
 (.seq
 (.seq
 (.reg [mv 3 0])
 (.block 0
 (.seq
 (.reg [rg 5 (.bin .eql (.t 3) (.c (.i .i64 1))), mv 4 5])
 (.cond (.t 4)
 (.seq
 (.reg [rg 2 (.mov (.c (.i .i64 60)))])
 (.pre (.norm false [2]) .ret))
 (.seq
 (.reg [rg 7 (.bin .eql (.t 3) (.c (.i .i64 2))), mv 6 7])
 (.cond (.t 6)
 (.seq
 (.reg [rg 2 (.mov (.c (.i .i64 12)))])
 (.pre (.norm false [2]) .ret))
 .skip))))))
 (.seq
 (.reg [rg 2 (.mov (.c (.i .i64 1)))])
 (.pre (.norm false [2]) .ret))))
def l178_0 : AX :=
 (.note
 (.seq
 (.seq
 (.reg [mv 6 5, mv 7 0, rg 8 (.lens (.t 7)), rg 9 (.bin .lss (.t 6) (.t 8)), mv 10 9, gd 11 10 true (.mov (.t 1)), gd 12 10 true (.mov (.t 0)),
 gd 13 10 true (.mov (.t 5)), gd 14 10 true (.ixs (.t 12) (.t 13)), gd 15 10 true (.call 188 [(.t 11), (.t 14)]),
 rg 16 (.pick (.t 10) (.t 15) (.c (.b false)))])
 (.cond (.t 16)
 .skip
 (.exit 0)))
 (.block 1
 (.reg [mv 17 5, rg 18 (.bin .add (.t 17) (.c (.i .i64 1))), mv 5 18])))
 (.norm false [0, 1, 5]))
def b178 : AX :=
 (.seq
 (.reg [rg 4 (.mov (.c (.i .i64 0)))])
 (.seq
 (.reg [rg 5 (.mov (.c (.i .i64 1)))])
 (.seq
 (.lp 0 (.norm false [0, 1, 5]) l178_0 (.norm false [5]))
 (.seq
 (.reg [mv 19 5, mv 4 19])
 (.pre (.norm false [4]) .ret)))))
def b172 : AX :=
 (.seq
 (.reg [rg 1 (.xop (.box 3) [(.t 0)]), rg 2 (.mov (.c (.b false)))])
 (.seq
 (.seq
 (.drawT [rg 3 (.fad 1 (.t 1)), rg 4 (.load none (.t 3)), rg 5 (.bin .eql (.t 4) (.c (.s []))), mv 6 5, gd 7 6 false (.fad 0 (.t 1)),
 gd 8 6 false (.load none (.t 7)), gd 9 6 false (.bin .eql (.t 8) (.c (.i .i64 0))), rg 10 (.pick (.t 6) (.c (.b true)) (.t 9)), mv 11 10,
 gd 12 11 false (.fad 1 (.t 1)), gd 13 11 false (.load none (.t 12)), gd 14 11 false (.ixs (.t 13) (.c (.i .i64 0))),
 gd 15 11 false (.call 177 [(.t 14)]), gd 16 11 false (.fad 0 (.t 1)), gd 17 11 false (.load none (.t 16))]
 [gd 18 11 false (.bin .neq (.t 15) (.t 17)), rg 19 (.pick (.t 11) (.c (.b true)) (.t 18))])
 (.cond (.t 19)
 (.seq
 (.reg [rg 2 (.mov (.c (.b false)))])
 (.pre (.norm false [2]) .ret))
 .skip))
 (.seq
 (.drawT [rg 20 (.fad 1 (.t 1)), rg 21 (.load none (.t 20)), rg 22 (.fad 0 (.t 1)), rg 23 (.load none (.t 22)), rg 24 (.call 178 [(.t 21), (.t 23)]),
 rg 25 (.fad 1 (.t 1)), rg 26 (.load none (.t 25)), rg 27 (.lens (.t 26)), rg 28 (.bin .eql (.t 24) (.t 27)), mv 29 28, gd 30 29 true (.fad 1 (.t 1)),
 gd 31 29 true (.load none (.t 30)), gd 32 29 true (.lens (.t 31)), gd 33 29 true (.fad 0 (.t 1)), gd 34 29 true (.load none (.t 33)),
 gd 35 29 true (.call 179 [(.t 34)])]
 [gd 36 29 true (.bin .leq (.t 32) (.t 35)), rg 37 (.pick (.t 29) (.t 36) (.c (.b false))), mv 2 37])
 (.pre (.norm false [2]) .ret))))
class CLex (T : Tbl) : Prop where
 h185 : T 185 = some ⟨1, 9, [.t 2], b185, none, false⟩
 h186 : T 186 = some ⟨1, 21, [.t 2], b186, none, false⟩
 h187 : T 187 = some ⟨0, 0, [], .prim prim187, none, false⟩
 h177 : T 177 = some ⟨1, 12, [.t 2], b177, none, false⟩
 h188 : T 188 = some ⟨2, 23, [.t 4], b188, none, false⟩
 h179 : T 179 = some ⟨1, 8, [.t 2], b179, none, false⟩
 h178 : T 178 = some ⟨2, 20, [.t 4], b178, none, false⟩
 h172 : T 172 = some ⟨1, 38, [.t 2], b172, none, false⟩
section
variable {T : Tbl} [CLex T] {d : Option Nat} {st : St} {xs : List AV} {ps : List Opd} {e : Env} {h : Heap} {ol : List Heap}
@[simp] theorem x185 : callX (orc T) T 185 xs d st = cP T 185 false xs d st := callX_pure CLex.h185
theorem f185 (xs : List AV) (hn : xs.length = 1) : callF T 185 xs = retF [.t 2] false (evX (orc T) T 0 b185 ⟨argEnv xs, [], 1⟩) := callF_eq CLex.h185 hn
@[simp] theorem x186 : callX (orc T) T 186 xs d st = cP T 186 false xs d st := callX_pure CLex.h186
theorem f186 (xs : List AV) (hn : xs.length = 1) : callF T 186 xs = retF [.t 2] false (evX (orc T) T 0 b186 ⟨argEnv xs, [], 1⟩) := callF_eq CLex.h186 hn
@[simp] theorem x187 : callX (orc T) T 187 xs d st = cP T 187 false xs d st := callX_pure CLex.h187
theorem p187 (xs : List AV) : callF T 187 xs = prim187 xs := callF_prim CLex.h187
@[simp] theorem y177 : opD (orc T) T (.call 177 ps) e h ol = dP T 177 false ps e := opD_call CLex.h177
theorem f177 (xs : List AV) (hn : xs.length = 1) : callF T 177 xs = retF [.t 2] false (evX (orc T) T 0 b177 ⟨argEnv xs, [], 1⟩) := callF_eq CLex.h177 hn
@[simp] theorem x188 : callX (orc T) T 188 xs d st = cP T 188 false xs d st := callX_pure CLex.h188
theorem f188 (xs : List AV) (hn : xs.length = 2) : callF T 188 xs = retF [.t 4] false (evX (orc T) T 0 b188 ⟨argEnv xs, [], 1⟩) := callF_eq CLex.h188 hn
@[simp] theorem y179 : opD (orc T) T (.call 179 ps) e h ol = dP T 179 false ps e := opD_call CLex.h179
theorem f179 (xs : List AV) (hn : xs.length = 1) : callF T 179 xs = retF [.t 2] false (evX (orc T) T 0 b179 ⟨argEnv xs, [], 1⟩) := callF_eq CLex.h179 hn
@[simp] theorem y178 : opD (orc T) T (.call 178 ps) e h ol = dP T 178 false ps e := opD_call CLex.h178
theorem f178 (xs : List AV) (hn : xs.length = 2) : callF T 178 xs = retF [.t 4] false (evX (orc T) T 0 b178 ⟨argEnv xs, [], 1⟩) := callF_eq CLex.h178 hn
@[simp] theorem x172 : callX (orc T) T 172 xs d st = cP T 172 false xs d st := callX_pure CLex.h172
theorem f172 (xs : List AV) (hn : xs.length = 1) : callF T 172 xs = retF [.t 2] false (evX (orc T) T 0 b172 ⟨argEnv xs, [], 1⟩) := callF_eq CLex.h172 hn
end
def l263_0 : AX :=
 (.note
 (.seq
 (.reg [rg 12 (.bin .lss (.t 11) (.t 10))])
 (.seq
 (.cond (.t 12)
 .skip
 (.exit 0))
 (.seq
 (.block 1
 (.seq
 (.reg [mv 13 11, mv 4 13])
 (.reg [mv 14 3, mv 15 4, rg 16 (.call 205 [(.c (.i .i64 0))]), rg 17 (.iad 3 (.t 14) (.t 15)), so (.store 3 (.t 17) (.t 16))])))
 (.reg [rg 18 (.bin .add (.t 11) (.c (.i .i64 1))), mv 11 18]))))
 (.norm false [3, 10, 11]))
def b263 : AX :=
 (.seq
 (.reg [rg 2 (.mov (.c (.sl [] .nl)))])
 (.seq
 (.reg [mv 5 0, rg 6 (.mm true [(.t 5), (.c (.i .i64 0))]), rg 7 (.mm false [(.t 6), (.c (.i .i64 300))]), mv 0 7])
 (.seq
 (.reg [mv 8 0, rg 9 (.mks 3 [(.b false), (.sl [] .nl), (.sl [] .nl)] (.t 8) (.t 8)), mv 3 9])
 (.seq
 (.seq
 (.reg [mv 10 0, rg 11 (.mov (.c (.i .i64 0)))])
 (.lp 0 (.norm false [3, 10, 11]) l263_0 (.norm false [3])))
 (.seq
 (.reg [mv 19 3, mv 2 19])
 (.pre (.norm false [2]) .ret))))))
def l265_0 : AX :=
 (.note
 (.seq
 (.reg [rg 14 (.bin .lss (.t 13) (.t 12))])
 (.seq
 (.cond (.t 14)
 .skip
 (.exit 0))
 (.seq
 (.block 1
 (.seq
 (.reg [mv 15 13, mv 5 15])
 (.seq
 (.drawT [mv 16 0, mv 17 5, rg 18 (.iad 3 (.t 16) (.t 17)), rg 19 (.load (some 3) (.t 18)), mv 20 1, mv 21 5, rg 22 (.iad 3 (.t 20) (.t 21)),
 rg 23 (.load (some 3) (.t 22))]
 [rg 24 (.call 212 [(.t 19), (.t 23)]), rg 25 (.un .not (.t 24))])
 (.cond (.t 25)
 (.seq
 (.reg [rg 4 (.mov (.c (.b false)))])
 (.pre (.norm false [4]) .ret))
 .skip))))
 (.reg [rg 26 (.bin .add (.t 13) (.c (.i .i64 1))), mv 13 26]))))
 (.norm false [0, 1, 12, 13]))
def b265 : AX :=
 (.seq
 (.reg [rg 4 (.mov (.c (.b false)))])
 (.seq
 (.seq
 (.reg [mv 6 0, rg 7 (.len (.t 6)), mv 8 1, rg 9 (.len (.t 8)), rg 10 (.bin .neq (.t 7) (.t 9))])
 (.cond (.t 10)
 (.seq
 (.reg [rg 4 (.mov (.c (.b false)))])
 (.pre (.norm false [4]) .ret))
 .skip))
 (.seq
 (.seq
 (.reg [mv 11 0, rg 12 (.len (.t 11)), rg 13 (.mov (.c (.i .i64 0)))])
 (.lp 0 (.norm false [0, 1, 12, 13]) l265_0 (.norm false [])))
 (.seq
 (.reg [rg 4 (.mov (.c (.b true)))])
 (.pre (.norm false [4]) .ret)))))
class CRow (T : Tbl) : Prop where
 h263 : T 263 = some ⟨1, 20, [.t 2], b263, none, false⟩
 h265 : T 265 = some ⟨2, 27, [.t 4], b265, none, false⟩
section
variable {T : Tbl} [CRow T] {d : Option Nat} {st : St} {xs : List AV} {ps : List Opd} {e : Env} {h : Heap} {ol : List Heap}
@[simp] theorem y263 : opD (orc T) T (.call 263 ps) e h ol = dP T 263 false ps e := opD_call CRow.h263
theorem f263 (xs : List AV) (hn : xs.length = 1) : callF T 263 xs = retF [.t 2] false (evX (orc T) T 0 b263 ⟨argEnv xs, [], 1⟩) := callF_eq CRow.h263 hn
@[simp] theorem x265 : callX (orc T) T 265 xs d st = cP T 265 false xs d st := callX_pure CRow.h265
theorem f265 (xs : List AV) (hn : xs.length = 2) : callF T 265 xs = retF [.t 4] false (evX (orc T) T 0 b265 ⟨argEnv xs, [], 1⟩) := callF_eq CRow.h265 hn
end
def b463 : AX :=
 (.seq
 (.reg [rg 0 (.mov (.c (.b false)))])
 (.seq
 (.reg [rg 9 (.bsl 1 [(u32 0)] 1 [(0, (.c (u32 1)))]), rg 10 (.build [(.i .i64 0), (.i .i64 0), (.sl [] .nl)] [(0, 1, (.c (.i .i64 1))), (2, 1, (.t 9))]),
 rg 1 (.alloc [(.i .i64 0), (.i .i64 0), (.sl [] .nl)]), so (.store 3 (.t 1) (.t 10))])
 (.seq
 (.reg [rg 11 (.load (some 3) (.t 1)), rg 12 (.load (some 3) (.t 1)), rg 13 (.build [(.i .i64 0), (.i .i64 0), (.sl [] .nl)] [(0, 1, (.c (.i .i64 2)))]),
 rg 14 (.build [(.i .i64 0), (.i .i64 0), (.sl [] .nl)] [(0, 1, (.c (.i .i64 8)))]),
 rg 15 (.build [(.i .i64 0), (.i .i64 0), (.sl [] .nl)] [(0, 1, (.c (.i .i64 10)))]),
 rg 16 (.bsl 3 [(.i .i64 0), (.i .i64 0), (.sl [] .nl)] 5 [(0, (.t 11)), (1, (.t 12)), (2, (.t 13)), (3, (.t 14)), (4, (.t 15))]),
 rg 17 (.bsl 1 [(.sl [] .nl)] 1 [(0, (.t 16))]), rg 18 (.build [(.sl [] .nl), (.sl [] .nl)] [(1, 1, (.t 17))]),
 rg 2 (.alloc [(.sl [] .nl), (.sl [] .nl)]), so (.store 2 (.t 2) (.t 18))])
 (.seq
 (.draw [⟨rg 20 (.load (some 2) (.t 2)), 0, 1⟩, ⟨rg 21 (.call 263 [(.c (.i .i64 1))]), 0, 1⟩,
 ⟨rg 22 (.build [(.b false), (.sl [] .nl), (.sl [] .nl), (.sl [] .nl), (.sl [] .nl)] [(3, 1, (.t 21))]), 0, 1⟩,
 ⟨rg 23 (.call 467 [(.t 20), (.t 22), (.c (.i .i64 100))]), 0, 1⟩, ⟨mv 19 23, 0, 1⟩, ⟨rg 24 (.ext (.t 19) 0), 0, 1⟩, ⟨rg 25 (.ext (.t 19) 1), 0, 1⟩,
 ⟨rg 4 (.alloc [(.i .i64 0), (.i .i64 0), (.i .i64 0), (.i .i64 0)]), 0, 1⟩, ⟨mv 3 24, 1, 1⟩, ⟨so (.store 4 (.t 4) (.t 25)), 1, 2⟩])
 (.seq
 (.draw [⟨rg 27 (.load (some 2) (.t 2)), 0, 1⟩, ⟨rg 28 (.call 205 [(.c (.i .i64 1))]), 0, 1⟩, ⟨rg 29 (.call 263 [(.c (.i .i64 1))]), 0, 1⟩,
 ⟨rg 30 (.build [(.b false), (.sl [] .nl), (.sl [] .nl), (.sl [] .nl), (.sl [] .nl)] [(0, 3, (.t 28)), (3, 1, (.t 29))]), 0, 1⟩,
 ⟨rg 31 (.call 467 [(.t 27), (.t 30), (.c (.i .i64 100))]), 0, 1⟩, ⟨mv 26 31, 0, 1⟩, ⟨rg 32 (.ext (.t 26) 0), 0, 1⟩, ⟨rg 33 (.ext (.t 26) 1), 0, 1⟩,
 ⟨rg 6 (.alloc [(.i .i64 0), (.i .i64 0), (.i .i64 0), (.i .i64 0)]), 0, 1⟩, ⟨mv 5 32, 1, 1⟩, ⟨so (.store 4 (.t 6) (.t 33)), 1, 2⟩])
 (.seq
 (.reg [rg 35 (.bsl 1 [(u32 0)] 1 [(0, (.c (u32 8)))]), rg 36 (.build [(.i .i64 0), (.i .i64 0), (.sl [] .nl)] [(0, 1, (.c (.i .i64 1))), (2, 1, (.t 35))]),
 rg 37 (.bsl 3 [(.i .i64 0), (.i .i64 0), (.sl [] .nl)] 1 [(0, (.t 36))]),
 rg 38 (.build [(.b false), (.sl [] .nl), (.sl [] .nl), (.sl [] .nl), (.sl [] .nl)] []),
 rg 39 (.call 462 [(.t 37), (.t 38), (.c (.sl [] .nl)), (.c (.i .i64 3))]), mv 34 39, rg 40 (.ext (.t 34) 0), rg 41 (.ext (.t 34) 1),
 rg 7 (.alloc [(.b false), (.sl [] .nl), (.sl [] .nl)]), rg 8 (.alloc [(.i .i64 0), (.i .i64 0), (.i .i64 0), (.i .i64 0)]), so (.store 3 (.t 7) (.t 40)),
 so (.store 4 (.t 8) (.t 41))])
 (.seq
 (.reg [mv 42 3, rg 43 (.call 205 [(.c (.i .i64 1))]), rg 44 (.bsl 3 [(.b false), (.sl [] .nl), (.sl [] .nl)] 1 [(0, (.t 43))]),
 rg 45 (.call 265 [(.t 42), (.t 44)]), mv 46 45, gd 47 46 true (.load (some 4) (.t 4)),
 gd 48 46 true (.build [(.i .i64 0), (.i .i64 0), (.i .i64 0), (.i .i64 0)] []),
 gd 49 46 true (.eqs false [(0, .int), (1, .int), (2, .int), (3, .int)] (.t 47) (.t 48)), rg 50 (.pick (.t 46) (.t 49) (.c (.b false))), mv 51 50,
 gd 52 51 true (.load (some 4) (.t 6)),
 gd 53 51 true (.build [(.i .i64 0), (.i .i64 0), (.i .i64 0), (.i .i64 0)] [(0, 1, (.c (.i .i64 3))), (3, 1, (.c (.i .i64 4)))]),
 gd 54 51 true (.eqs false [(0, .int), (1, .int), (2, .int), (3, .int)] (.t 52) (.t 53)), rg 55 (.pick (.t 51) (.t 54) (.c (.b false))), mv 56 55,
 gd 57 56 true (.load (some 4) (.t 8)), gd 58 56 true (.build [(.i .i64 0), (.i .i64 0), (.i .i64 0), (.i .i64 0)] [(0, 1, (.c (.i .i64 6)))]),
 gd 59 56 true (.eqs false [(0, .int), (1, .int), (2, .int), (3, .int)] (.t 57) (.t 58)), rg 60 (.pick (.t 56) (.t 59) (.c (.b false))), mv 0 60])
 (.pre (.norm false [0]) .ret))))))))
def b461 : AX :=
 (.seq
 (.reg [rg 3 (.xop (.box 5) [(.t 1)]), rg 4 (.mov (.c (.b false)))])
 (.seq
 (.seq
 (.reg [mv 18 0, rg 19 (.call 10 [(.t 18), (.c (.i .i64 20)), (.c (.i .i64 4))]), mv 20 19, gd 21 20 false (.load (some 5) (.t 3)),
 gd 22 20 false (.call 380 [(.t 21), (.c (.i .i64 6)), (.c (.i .i64 2))]), rg 23 (.pick (.t 20) (.c (.b true)) (.t 22))])
 (.cond (.t 23)
 (.seq
 (.reg [rg 24 (.call 463 []), mv 4 24])
 (.pre (.norm false [4]) .ret))
 .skip))
 (.seq
 (.reg [mv 25 0, rg 26 (.call 13 [(.t 25)]), mv 5 26])
 (.seq
 (.reg [mv 28 5, rg 29 (.call 472 [(.t 28)]), mv 27 29, rg 30 (.ext (.t 27) 0), rg 31 (.ext (.t 27) 1), mv 6 30, mv 7 31])
 (.seq
 (.reg [mv 33 5, rg 34 (.load (some 5) (.t 3)), rg 35 (.call 383 [(.t 34)]), rg 36 (.call 462 [(.t 33), (.t 35), (.c (.sl [] .nl)), (.c (.i .i64 500))]),
 mv 32 36, rg 37 (.ext (.t 32) 0), rg 38 (.ext (.t 32) 1), rg 8 (.alloc [(.b false), (.sl [] .nl), (.sl [] .nl)]),
 rg 9 (.alloc [(.i .i64 0), (.i .i64 0), (.i .i64 0), (.i .i64 0)]), so (.store 3 (.t 8) (.t 37)), so (.store 4 (.t 9) (.t 38))])
 (.seq
 (.seq
 (.reg [mv 39 7, rg 40 (.un .not (.t 39)), mv 41 40, gd 42 41 false (.fad 0 (.t 9)), gd 43 41 false (.load none (.t 42)),
 gd 44 41 false (.bin .eql (.t 43) (.c (.i .i64 2))), rg 45 (.pick (.t 41) (.c (.b true)) (.t 44)), mv 46 45, gd 47 46 false (.mov (.t 6)),
 gd 48 46 false (.len (.t 47)), gd 49 46 false (.bin .eql (.t 48) (.c (.i .i64 0))), rg 50 (.pick (.t 46) (.c (.b true)) (.t 49)), mv 51 50,
 gd 52 51 false (.mov (.t 5)), gd 53 51 false (.len (.t 52)), gd 54 51 false (.bin .eql (.t 53) (.c (.i .i64 0))),
 rg 55 (.pick (.t 51) (.c (.b true)) (.t 54))])
 (.cond (.t 55)
 (.seq
 (.reg [mv 56 7, mv 57 56, gd 58 57 false (.fad 0 (.t 9)), gd 59 57 false (.load none (.t 58)), gd 60 57 false (.bin .eql (.t 59) (.c (.i .i64 2))),
 rg 61 (.pick (.t 57) (.c (.b true)) (.t 60)), mv 62 61, gd 63 62 true (.call 463 []), rg 64 (.pick (.t 62) (.t 63) (.c (.b false))), mv 4 64])
 (.pre (.norm false [4]) .ret))
 .skip))
 (.seq
 (.reg [mv 65 5, mv 66 5, rg 67 (.len (.t 66)), rg 68 (.bin .sub (.t 67) (.c (.i .i64 1))), rg 69 (.iad 3 (.t 65) (.t 68)), rg 70 (.load (some 3) (.t 69)),
 rg 10 (.alloc [(.i .i64 0), (.i .i64 0), (.sl [] .nl)]), so (.store 3 (.t 10) (.t 70))])
 (.seq
 (.drawM [mv 72 6, rg 73 (.iad 1 (.t 72) (.c (.i .i64 0))), rg 74 (.load none (.t 73)), rg 75 (.load (some 5) (.t 3)), rg 76 (.call 383 [(.t 75)]),
 rg 77 (.call 462 [(.t 74), (.t 76), (.c (.sl [] .nl)), (.c (.i .i64 500))]), mv 71 77, rg 78 (.ext (.t 71) 0), rg 79 (.ext (.t 71) 1),
 rg 11 (.alloc [(.b false), (.sl [] .nl), (.sl [] .nl)]), rg 12 (.alloc [(.i .i64 0), (.i .i64 0), (.i .i64 0), (.i .i64 0)]),
 so (.store 3 (.t 11) (.t 78))]
 [so (.store 4 (.t 12) (.t 79))])
 (.seq
 (.seq
 (.reg [rg 80 (.load (some 4) (.t 12)), rg 81 (.build [(.i .i64 0), (.i .i64 0), (.i .i64 0), (.i .i64 0)] []),
 rg 82 (.eqs true [(0, .int), (1, .int), (2, .int), (3, .int)] (.t 80) (.t 81))])
 (.cond (.t 82)
 (.seq
 (.reg [rg 83 (.load (some 4) (.t 9)), rg 84 (.load (some 4) (.t 12)), rg 85 (.eqs false [(0, .int), (1, .int), (2, .int), (3, .int)] (.t 83) (.t 84)), mv 86 85,
 gd 87 86 true (.call 463 []), rg 88 (.pick (.t 86) (.t 87) (.c (.b false))), mv 4 88])
 (.pre (.norm false [4]) .ret))
 .skip))
 (.seq
 (.seq
 (.reg [mv 89 6, rg 90 (.len (.t 89)), rg 91 (.bin .eql (.t 90) (.c (.i .i64 1)))])
 (.cond (.t 91)
 (.seq
 (.reg [rg 93 (.load (some 3) (.t 11)), rg 94 (.fad 1 (.t 10)), rg 95 (.load none (.t 94)), rg 96 (.call 220 [(.t 93), (.t 95)]), mv 92 96,
 rg 97 (.ext (.t 92) 0), rg 98 (.ext (.t 92) 1), rg 13 (.alloc [(.b false), (.sl [] .nl), (.sl [] .nl)]), so (.store 3 (.t 13) (.t 97)), mv 14 98])
 (.seq
 (.seq
 (.reg [rg 99 (.fad 0 (.t 10)), rg 100 (.load none (.t 99)), rg 101 (.bin .eql (.t 100) (.c (.i .i64 6)))])
 (.cond (.t 101)
 (.reg [rg 102 (.load (some 3) (.t 11)), rg 103 (.call 213 [(.t 102)]), so (.store 3 (.t 13) (.t 103)), rg 14 (.mov (.c (.b true)))])
 .skip))
 (.seq
 (.reg [rg 104 (.fad 0 (.t 9)), rg 105 (.load none (.t 104)), rg 106 (.bin .eql (.t 105) (.c (.i .i64 3))), mv 107 14, rg 108 (.un .not (.t 107)),
 rg 109 (.eqb false (.t 106) (.t 108)), mv 110 109, gd 111 110 true (.load (some 4) (.t 9)),
 gd 112 110 true (.build [(.i .i64 0), (.i .i64 0), (.i .i64 0), (.i .i64 0)] []),
 gd 113 110 true (.eqs true [(0, .int), (1, .int), (2, .int), (3, .int)] (.t 111) (.t 112)), gd 114 110 true (.mov (.t 113)),
 gd 115 114 false (.load (some 3) (.t 8)), gd 116 114 false (.load (some 3) (.t 13)), gd 117 114 false (.call 212 [(.t 115), (.t 116)]),
 gd 118 110 true (.pick (.t 114) (.c (.b true)) (.t 117)), rg 119 (.pick (.t 110) (.t 118) (.c (.b false))), mv 120 119, gd 121 120 true (.call 463 []),
 rg 122 (.pick (.t 120) (.t 121) (.c (.b false))), mv 4 122])
 (.pre (.norm false [4]) .ret))))
 .skip))
 (.seq
 (.drawM [mv 124 6, rg 125 (.iad 1 (.t 124) (.c (.i .i64 1))), rg 126 (.load none (.t 125)), rg 127 (.load (some 5) (.t 3)), rg 128 (.call 383 [(.t 127)]),
 rg 129 (.call 462 [(.t 126), (.t 128), (.c (.sl [] .nl)), (.c (.i .i64 500))]), mv 123 129, rg 130 (.ext (.t 123) 0), rg 131 (.ext (.t 123) 1),
 rg 15 (.alloc [(.b false), (.sl [] .nl), (.sl [] .nl)]), rg 16 (.alloc [(.i .i64 0), (.i .i64 0), (.i .i64 0), (.i .i64 0)]),
 so (.store 3 (.t 15) (.t 130))]
 [so (.store 4 (.t 16) (.t 131))])
 (.seq
 (.seq
 (.reg [rg 132 (.load (some 4) (.t 16)), rg 133 (.build [(.i .i64 0), (.i .i64 0), (.i .i64 0), (.i .i64 0)] []),
 rg 134 (.eqs true [(0, .int), (1, .int), (2, .int), (3, .int)] (.t 132) (.t 133))])
 (.cond (.t 134)
 (.seq
 (.drawT [rg 135 (.fad 0 (.t 9)), rg 136 (.load none (.t 135)), rg 137 (.fad 0 (.t 16)), rg 138 (.load none (.t 137)), rg 139 (.bin .eql (.t 136) (.t 138)),
 mv 140 139, gd 141 140 true (.fad 3 (.t 9)), gd 142 140 true (.load none (.t 141)), gd 143 140 true (.fad 3 (.t 16)),
 gd 144 140 true (.load none (.t 143)), gd 145 140 true (.mov (.t 6)), gd 146 140 true (.iad 1 (.t 145) (.c (.i .i64 0))),
 gd 147 140 true (.load none (.t 146)), gd 148 140 true (.len (.t 147)), gd 149 140 true (.bin .add (.t 144) (.t 148))]
 [gd 150 140 true (.bin .eql (.t 142) (.t 149)), rg 151 (.pick (.t 140) (.t 150) (.c (.b false))), mv 152 151, gd 153 152 true (.call 463 []),
 rg 154 (.pick (.t 152) (.t 153) (.c (.b false))), mv 4 154])
 (.pre (.norm false [4]) .ret))
 .skip))
 (.seq
 (.seq
 (.reg [rg 155 (.load (some 4) (.t 9)), rg 156 (.build [(.i .i64 0), (.i .i64 0), (.i .i64 0), (.i .i64 0)] []),
 rg 157 (.eqs true [(0, .int), (1, .int), (2, .int), (3, .int)] (.t 155) (.t 156))])
 (.cond (.t 157)
 (.seq
 (.drawT [rg 158 (.fad 0 (.t 9)), rg 159 (.load none (.t 158)), rg 160 (.bin .eql (.t 159) (.c (.i .i64 3))), rg 161 (.fad 0 (.t 10)),
 rg 162 (.load none (.t 161)), rg 163 (.bin .eql (.t 162) (.c (.i .i64 10))), mv 164 163, gd 165 164 true (.load (some 3) (.t 15)),
 gd 166 164 true (.call 209 [(.t 165)]), gd 167 164 true (.bin .eql (.t 166) (.c (.i .i64 0))), rg 168 (.pick (.t 164) (.t 167) (.c (.b false)))]
 [rg 169 (.eqb false (.t 160) (.t 168)), mv 170 169, gd 171 170 true (.call 463 []), rg 172 (.pick (.t 170) (.t 171) (.c (.b false))), mv 4 172])
 (.pre (.norm false [4]) .ret))
 .skip))
 (.seq
 (.reg [rg 173 (.load (some 3) (.t 11)), rg 174 (.load (some 3) (.t 15)), rg 175 (.call 215 [(.t 173), (.t 174)]),
 rg 17 (.alloc [(.b false), (.sl [] .nl), (.sl [] .nl)]), so (.store 3 (.t 17) (.t 175))])
 (.seq
 (.seq
 (.reg [rg 176 (.fad 0 (.t 10)), rg 177 (.load none (.t 176)), rg 178 (.bin .eql (.t 177) (.c (.i .i64 8)))])
 (.cond (.t 178)
 (.reg [rg 179 (.load (some 3) (.t 11)), rg 180 (.load (some 3) (.t 15)), rg 181 (.call 216 [(.t 179), (.t 180)]), so (.store 3 (.t 17) (.t 181))])
 .skip))
 (.seq
 (.seq
 (.reg [rg 182 (.fad 0 (.t 10)), rg 183 (.load none (.t 182)), rg 184 (.bin .eql (.t 183) (.c (.i .i64 9)))])
 (.cond (.t 184)
 (.reg [rg 185 (.load (some 3) (.t 11)), rg 186 (.load (some 3) (.t 15)), rg 187 (.call 217 [(.t 185), (.t 186)]), so (.store 3 (.t 17) (.t 187))])
 .skip))
 (.seq
 (.seq
 (.reg [rg 188 (.fad 0 (.t 10)), rg 189 (.load none (.t 188)), rg 190 (.bin .eql (.t 189) (.c (.i .i64 10)))])
 (.cond (.t 190)
 (.seq
 (.drawT [rg 191 (.load (some 3) (.t 8)), rg 192 (.load (some 3) (.t 15)), rg 193 (.call 217 [(.t 191), (.t 192)]), rg 194 (.load (some 3) (.t 11))]
 [rg 195 (.call 212 [(.t 193), (.t 194)]), mv 196 195, gd 197 196 true (.call 463 []), rg 198 (.pick (.t 196) (.t 197) (.c (.b false))), mv 4 198])
 (.pre (.norm false [4]) .ret))
 .skip))
 (.seq
 (.reg [rg 199 (.load (some 3) (.t 8)), rg 200 (.load (some 3) (.t 17)), rg 201 (.call 212 [(.t 199), (.t 200)]), mv 202 201, gd 203 202 true (.call 463 []),
 rg 204 (.pick (.t 202) (.t 203) (.c (.b false))), mv 4 204])
 (.pre (.norm false [4]) .ret)))))))))))))))))))
class CLaw21 (T : Tbl) : Prop where
 h463 : T 463 = some ⟨0, 61, [.t 0], b463, none, false⟩
 h461 : T 461 = some ⟨2, 205, [.t 4], b461, none, false⟩
section
variable {T : Tbl} [CLaw21 T] {d : Option Nat} {st : St} {xs : List AV} {ps : List Opd} {e : Env} {h : Heap} {ol : List Heap}
@[simp] theorem x463 : callX (orc T) T 463 xs d st = cP T 463 false xs d st := callX_pure CLaw21.h463
theorem f463 (xs : List AV) (hn : xs.length = 0) : callF T 463 xs = retF [.t 0] false (evX (orc T) T 0 b463 ⟨argEnv xs, [], 1⟩) := callF_eq CLaw21.h463 hn
theorem f461 (xs : List AV) (hn : xs.length = 2) : callF T 461 xs = retF [.t 4] false (evX (orc T) T 0 b461 ⟨argEnv xs, [], 1⟩) := callF_eq CLaw21.h461 hn
end
section
open Go.RowKit
def opU : AOp → List Nat
 | .call u _ => [u]
 | .ifc k _ => [1000000 + k]
 | .inv _ k u _ _ => [1000000 + k, u]
 | _ => []
def cXs : AX → List Nat
 | .reg l => l.flatMap fun o => opU o.op
 | .draw l => l.flatMap fun o => opU o.ao.op
 | .drawT hd tl => (hd.flatMap fun o => opU o.op) ++ tl.flatMap fun o => opU o.op
 | .drawM hd tl => (hd.flatMap fun o => opU o.op) ++ tl.flatMap fun o => opU o.op
 | .seq a b => cXs a ++ cXs b
 | .cond _ x y => cXs x ++ cXs y
 | .block _ c | .loop c | .note c _ | .pre _ c | .scope c | .lp _ _ c _ => cXs c
 | _ => []
structure Agr (R : Nat → Bool) (T T' : Tbl) (O O' : Orc) : Prop where
 tbl : ∀ u, R u = true → T u = T' u
 call : ∀ u xs hb, R u = true → O.call u xs hb = O'.call u xs hb
 loop : ∀ k c st, (∀ u ∈ cXs c, R u = true) → O.loop k c st = O'.loop k c st
section
variable {R : Nat → Bool} {T T' : Tbl} {O O' : Orc}
theorem callX_agr (h : Agr R T T' O O') {u : Nat} (hu : R u = true) {xs : List AV} {d : Option Nat} {st : St} : callX O T u xs d st = callX O' T' u xs d st := by
 unfold callX
 rw [h.tbl u hu]
 simp only [h.call u _ _ hu]
theorem opX_agr (h : Agr R T T' O O') {op : AOp} (hu : ∀ u ∈ opU op, R u = true) {d : Option Nat} {st : St} : opX O T op d st = opX O' T' op d st := by
 cases op <;> simp only [opX]
 case call u args => exact callX_agr h (hu _ (by simp [opU]))
 case ifc k x => unfold tyNum; rw [h.tbl _ (hu _ (by simp [opU]))]
 case inv nm k u r args =>
  have e1 : tyNum T k = tyNum T' k := by unfold tyNum; rw [h.tbl _ (hu _ (by simp [opU]))]
  have e2 : methsT T k = methsT T' k := by unfold methsT; rw [h.tbl _ (hu _ (by simp [opU]))]
  rw [e1, e2]
  simp only [callX_agr h (hu u (by simp [opU]))]
theorem stepX_agr (h : Agr R T T' O O') {o : AO} (hu : ∀ u ∈ opU o.op, R u = true) {st : St} : stepX O T o st = stepX O' T' o st := by
 unfold stepX gX
 simp only [opX_agr h hu]
theorem runX_agr (h : Agr R T T' O O') : ∀ (l : List AO), (∀ o ∈ l, ∀ u ∈ opU o.op, R u = true) → ∀ st, runX O T l st = runX O' T' l st
 | [], _, st => rfl
 | o :: l, hu, st => by
  simp only [runX]
  rw [stepX_agr h (hu o List.mem_cons_self)]
  congr 1
  funext s
  exact runX_agr h l (fun o ho => hu o (List.mem_cons_of_mem _ ho)) s
theorem opD_agr (h : Agr R T T' O O') {op : AOp} (hu : ∀ u ∈ opU op, R u = true) {e : Env} {hp : Heap} {older : List Heap} : opD O T op e hp older = opD O' T' op e hp older := by
 by_cases hap : ∃ z x0 y, op = .app z x0 y
 ·obtain ⟨z, x0, y, rfl⟩ := hap
  by_cases hc : x0 = .c (.sl [] .nl)
  ·subst hc; rfl
  ·rw [opD_app hc, opD_app hc]
 cases op <;> (try exact absurd ⟨_, _, _, rfl⟩ hap) <;> simp only [opD]
 case call u args =>
  rw [h.tbl _ (hu _ (by simp [opU]))]
  simp only [h.call _ _ _ (hu _ (show u ∈ _ by simp [opU]))]
 case ifc k x => unfold tyNum; rw [h.tbl _ (hu _ (by simp [opU]))]
 case inv nm k u r args =>
  have e1 : tyNum T k = tyNum T' k := by unfold tyNum; rw [h.tbl _ (hu _ (by simp [opU]))]
  have e2 : methsT T k = methsT T' k := by unfold methsT; rw [h.tbl _ (hu _ (by simp [opU]))]
  rw [e1, e2, h.tbl u (hu u (by simp [opU]))]
  simp only [h.call u _ _ (hu u (by simp [opU]))]
theorem qX_agr (h : Agr R T T' O O') {o : AO} (hu : ∀ u ∈ opU o.op, R u = true) {e : Env} {hp : Heap} {older : List Heap} : qX O T o e hp older = qX O' T' o e hp older := by
 unfold qX
 simp only [opD_agr h hu]
theorem drawX_agr (h : Agr R T T' O O') : ∀ (l : List DO), (∀ o ∈ l, ∀ u ∈ opU o.ao.op, R u = true) → ∀ e hp clk older pend, drawX O T l e hp clk older pend = drawX O' T' l e hp clk older pend
 | [], _, e, hp, clk, older, pend => rfl
 | o :: l, hu, e, hp, clk, older, pend => by
  have ih := drawX_agr h l (fun o ho => hu o (List.mem_cons_of_mem _ ho))
  simp only [drawX]
  rw [qX_agr h (hu o List.mem_cons_self)]
  simp only [ih]
theorem headX_agr (h : Agr R T T' O O') (tl : List AO) (ht : ∀ o ∈ tl, ∀ u ∈ opU o.op, R u = true) : ∀ (l : List AO), (∀ o ∈ l, ∀ u ∈ opU o.op, R u = true) → ∀ e hp clk, headX O T tl l e hp clk = headX O' T' tl l e hp clk
 | [], _, e, hp, clk => runX_agr h tl ht _
 | o :: l, hu, e, hp, clk => by
  have ih := headX_agr h tl ht l (fun o ho => hu o (List.mem_cons_of_mem _ ho))
  simp only [headX]
  rw [qX_agr h (hu o List.mem_cons_self)]
  simp only [ih]
theorem callM_agr (h : Agr R T T' O O') {u : Nat} (hu : R u = true) {xs : List AV} {d clk : Nat} : callM O T u xs d clk = callM O' T' u xs d clk := by
 unfold callM
 rw [h.tbl u hu]
 simp only [h.call u _ _ hu]
theorem headM_agr (h : Agr R T T' O O') (tl : List AO) (ht : ∀ o ∈ tl, ∀ u ∈ opU o.op, R u = true) (h0 : Heap) (c0 : Nat) : ∀ (l : List AO), (∀ o ∈ l, ∀ u ∈ opU o.op, R u = true) → ∀ e hp clk, headM O T tl h0 c0 l e hp clk = headM O' T' tl h0 c0 l e hp clk
 | [], _, e, hp, clk => runX_agr h tl ht _
 | o :: l, hu, e, hp, clk => by
  have ih := headM_agr h tl ht h0 c0 l (fun o ho => hu o (List.mem_cons_of_mem _ ho))
  simp only [headM]
  rw [qX_agr h (hu o List.mem_cons_self)]
  simp only [ih]
  cases hm : o.op.maker with
  | true => rfl
  | false =>
   cases hst : o.op.isStore with
   | true => rfl
   | false =>
   cases hl : o.op.lentN with
   | none => rfl
   | some ua =>
    have hua : R ua.1 = true := hu o List.mem_cons_self _ (by rw [lentN_spec hl]; simp [opU])
    simp only [callM_agr h hua]
theorem evX_agr (h : Agr R T T' O O') (k : Nat) : ∀ (c : AX), (∀ u ∈ cXs c, R u = true) → ∀ st, evX O T k c st = evX O' T' k c st
 | .skip, _, st => rfl
 | .reg l, hu, st => by
  simp only [evX]
  rw [runX_agr h l fun o ho u hou => hu u (List.mem_flatMap.2 ⟨o, ho, hou⟩)]
 | .draw l, hu, st => by
  simp only [evX]
  rw [drawX_agr h l fun o ho u hou => hu u (List.mem_flatMap.2 ⟨o, ho, hou⟩)]
 | .drawT hd tl, hu, st => by
  simp only [evX]
  rw [headX_agr h tl (fun o ho u hou => hu u (List.mem_append_right _ (List.mem_flatMap.2 ⟨o, ho, hou⟩))) hd (fun o ho u hou => hu u (List.mem_append_left _ (List.mem_flatMap.2 ⟨o, ho, hou⟩)))]
 | .drawM hd tl, hu, st => by
  simp only [evX]
  rw [headM_agr h tl (fun o ho u hou => hu u (List.mem_append_right _ (List.mem_flatMap.2 ⟨o, ho, hou⟩))) _ _ hd (fun o ho u hou => hu u (List.mem_append_left _ (List.mem_flatMap.2 ⟨o, ho, hou⟩)))]
 | .bad, _, st => rfl
 | .prim f, _, st => rfl
 | .seq a b, hu, st => by
  simp only [evX]
  rw [evX_agr h k a fun u hm => hu u (List.mem_append_left _ hm)]
  congr 1
  funext r
  rw [evX_agr h k b fun u hm => hu u (List.mem_append_right _ hm)]
 | .cond c x y, hu, st => by
  simp only [evX]
  rw [evX_agr h k x fun u hm => hu u (List.mem_append_left _ hm), evX_agr h k y fun u hm => hu u (List.mem_append_right _ hm)]
 | .block id c, hu, st => by
  simp only [evX]
  rw [evX_agr h k c hu]
 | .loop c, hu, st => h.loop k c st hu
 | .exit id, _, st => rfl
 | .ret, _, st => rfl
 | .note c g, hu, st => by
  simp only [evX]
  rw [evX_agr h k c hu]
 | .pre g c, hu, st => by
  simp only [evX]
  congr 1
  funext s
  exact evX_agr h k c hu s
 | .scope c, hu, st => by
  simp only [evX]
  exact evX_agr h k c hu st
 | .lp id g c g2, hu, st => by
  simp only [evX, h.loop k c _ hu]
theorem nextO_agr (hc : ∀ u af, R u = true → T u = some af → ∀ v ∈ cXs af.body, R v = true) (h : Agr R T T' O O') : Agr R T T' (nextO T O) (nextO T' O') where
 tbl := h.tbl
 call u xs hb hu := by
  simp only [nextO]
  rw [← h.tbl u hu]
  cases ht : T u with
  | none => rfl
  | some af =>
   simp only
   rw [evX_agr h hb.length af.body (hc u af hu ht)]
 loop k c st hu := by
  simp only [nextO]
  rw [evX_agr h k c hu]
  congr 1
  funext r
  rw [h.loop k c _ hu]
theorem orcN_agr (ht : ∀ u, R u = true → T u = T' u) (hc : ∀ u af, R u = true → T u = some af → ∀ v ∈ cXs af.body, R v = true) : ∀ n, Agr R T T' (orcN T n) (orcN T' n)
 | 0 => ⟨ht, fun _ _ _ _ => rfl, fun _ _ _ _ => rfl⟩
 | n + 1 => nextO_agr hc (orcN_agr ht hc n)
theorem orc_agr (ht : ∀ u, R u = true → T u = T' u) (hc : ∀ u af, R u = true → T u = some af → ∀ v ∈ cXs af.body, R v = true) : Agr R T T' (orc T) (orc T') := by
 refine ⟨ht, fun u xs hb hu => ?_, fun k c st hu => ?_⟩
 ·simp only [orc]
  congr 1
  funext n
  exact (orcN_agr ht hc n).call u xs hb hu
 ·simp only [orc]
  congr 1
  funext n
  exact (orcN_agr ht hc n).loop k c st hu
end
theorem mem_of_lookup {l : List (Nat × AFx)} {u : Nat} {af : AFx} (h : l.lookup u = some af) : (u, af) ∈ l := by
 induction l with
 | nil => cases h
 | cons q l ih =>
  obtain ⟨q1, q2⟩ := q
  simp only [List.lookup_cons] at h
  split at h
  ·rename_i he
   have := eq_of_beq he
   subst this
   cases h
   exact List.mem_cons_self
  ·exact List.mem_cons_of_mem _ (ih h)
structure Part (l l' : List (Nat × AFx)) : Prop where
 sub : ∀ p ∈ l', l.lookup p.1 = some p.2
 clo : (l'.all fun p => (cXs p.2.body).all fun v => (l'.lookup v).isSome || (l.lookup v).isNone) = true
theorem Part.agr {l l' : List (Nat × AFx)} (h : Part l l') : Agr (fun u => (l'.lookup u).isSome || (l.lookup u).isNone) (fun u => l.lookup u) (fun u => l'.lookup u) (orc fun u => l.lookup u) (orc fun u => l'.lookup u) := by
 refine orc_agr (fun v hv => ?_) (fun v a hv hva w hw => ?_)
 ·cases hv2 : l'.lookup v with
  | none =>
   simp only [hv2] at hv
   cases hv3 : l.lookup v with
   | none => rfl
   | some a => rw [hv3] at hv; cases hv
  | some a => exact h.sub _ (mem_of_lookup hv2)
 ·cases hv2 : l'.lookup v with
  | none => simp only [hv2, hva] at hv; cases hv
  | some b =>
   have hb := mem_of_lookup hv2
   have h1 := h.sub _ hb
   simp only at hva h1
   rw [hva] at h1
   cases h1
   exact List.all_eq_true.1 (List.all_eq_true.1 h.clo _ hb) w hw
theorem Part.ev {l l' : List (Nat × AFx)} (h : Part l l') {c : AX} (hc : ((cXs c).all fun v => (l'.lookup v).isSome) = true) {st : St} {r : Option (Ex × St)}
  (he : evX (orc fun u => l.lookup u) (fun u => l.lookup u) 0 c st = r) : evX (orc fun u => l'.lookup u) (fun u => l'.lookup u) 0 c st = r := by
 rw [← evX_agr h.agr 0 c (fun v hv => by rw [List.all_eq_true.1 hc v hv]; rfl) st]
 exact he
theorem Part.call {l l' : List (Nat × AFx)} (h : Part l l') {u : Nat} (hu : (l'.lookup u).isSome = true) {xs : List AV} {r : Option AV} (he : callF (fun u => l.lookup u) u xs = r) : callF (fun u => l'.lookup u) u xs = r := by
 rw [← he]
 unfold callF
 rw [h.agr.call u xs [] (by rw [hu]; rfl)]
end
end Go.Ab