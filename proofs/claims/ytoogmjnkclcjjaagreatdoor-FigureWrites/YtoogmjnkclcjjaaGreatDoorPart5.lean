/-
  A calculus of values, boxes and code, and what functions of the program compute, proved in it.
  Conditions: none beyond those that the theorems state. (Part 5: GcWhole, Ax9, GcCommon, GcFrac, GcFrac2, NmFig, GcStr, GcSplit, GcPow, GcFig, NmLex, GcJoin, GcRow, GcRow2, GcRef02, GpRef02, GcRef04, GpRef04, GcRef05, GpRef05, GpRef05d, GcRef07, GcRef06, GpRef07, GcRef08, GcRef09, GcRef10, GcRef11, GcRef11b, GcLaw09, GcLaw11, GcLaw10, GcLenD, Ax10.)
-/
import Derived.Test.YtoogmjnkclcjjaaGreatDoorPart4
import Derived.Lib.IndexAny
import Derived.Lib.Bytealg

set_option linter.unusedSectionVars false
set_option linter.unusedVariables false
set_option linter.unusedSimpArgs false
set_option linter.unnecessarySimpa false

section
namespace Go.Ab
def b55 : AX :=
 (.seq
 (.reg [⟨(some 4), none, .alloc [(.b false), (.sl [] .nl)]⟩])
 (.seq
 (.reg [⟨(some 5), none, .mov (.t 0)⟩,
 ⟨(some 6), none, .mov (.t 5)⟩,
 ⟨(some 7), (some (6, true)), .mov (.t 1)⟩,
 ⟨(some 8), (some (6, true)), .len (.t 7)⟩,
 ⟨(some 9), (some (6, true)), .bin .gtr (.t 8) (.c (.i .i64 0))⟩,
 ⟨(some 10), none, .pick (.t 6) (.t 9) (.c (.b false))⟩,
 ⟨(some 11), none, .mov (.t 1)⟩,
 ⟨(some 12), none, .build [(.b false), (.sl [] .nl)] [(0, 1, (.t 10)), (1, 1, (.t 11))]⟩,
 ⟨none, none, .store 2 (.t 4) (.t 12)⟩])
 (.pre (.norm false [4]) .ret)))
def b38 : AX :=
 (.seq
 (.reg [⟨(some 1), none, .xop (.box 2) [(.t 0)]⟩,
 ⟨(some 2), none, .alloc [(.b false), (.sl [] .nl)]⟩])
 (.seq
 (.drawT [⟨(some 3), none, .fad 0 (.t 1)⟩,
 ⟨(some 4), none, .load none (.t 3)⟩,
 ⟨(some 5), none, .fad 1 (.t 1)⟩,
 ⟨(some 6), none, .load none (.t 5)⟩,
 ⟨(some 7), none, .call 71 [(.t 6)]⟩]
 [⟨(some 8), none, .call 55 [(.t 4), (.t 7)]⟩,
 ⟨none, none, .store 2 (.t 2) (.t 8)⟩])
 (.pre (.norm false [2]) .ret)))
def b40 : AX :=
 (.seq
 (.reg [⟨(some 1), none, .xop (.box 2) [(.t 0)]⟩,
 ⟨(some 2), none, .alloc [(.b false), (.sl [] .nl)]⟩])
 (.seq
 (.drawT [⟨(some 3), none, .fad 0 (.t 1)⟩,
 ⟨(some 4), none, .load none (.t 3)⟩,
 ⟨(some 5), none, .un .not (.t 4)⟩,
 ⟨(some 6), none, .fad 1 (.t 1)⟩,
 ⟨(some 7), none, .load none (.t 6)⟩,
 ⟨(some 8), none, .call 71 [(.t 7)]⟩]
 [⟨(some 9), none, .call 55 [(.t 5), (.t 8)]⟩,
 ⟨none, none, .store 2 (.t 2) (.t 9)⟩])
 (.pre (.norm false [2]) .ret)))
def b23 : AX :=
 (.seq
 (.reg [⟨(some 2), none, .xop (.box 2) [(.t 0)]⟩,
 ⟨(some 3), none, .xop (.box 2) [(.t 1)]⟩,
 ⟨(some 4), none, .alloc [(.b false), (.sl [] .nl)]⟩])
 (.seq
 (.seq
 (.reg [⟨(some 7), none, .fad 0 (.t 2)⟩,
 ⟨(some 8), none, .load none (.t 7)⟩,
 ⟨(some 9), none, .fad 0 (.t 3)⟩,
 ⟨(some 10), none, .load none (.t 9)⟩,
 ⟨(some 11), none, .eqb false (.t 8) (.t 10)⟩])
 (.cond (.t 11)
 (.seq
 (.drawT [⟨(some 12), none, .fad 0 (.t 2)⟩,
 ⟨(some 13), none, .load none (.t 12)⟩,
 ⟨(some 14), none, .fad 1 (.t 2)⟩,
 ⟨(some 15), none, .load none (.t 14)⟩,
 ⟨(some 16), none, .fad 1 (.t 3)⟩,
 ⟨(some 17), none, .load none (.t 16)⟩,
 ⟨(some 18), none, .bsl 1 [(.sl [] .nl)] 2 [(0, (.t 15)), (1, (.t 17))]⟩,
 ⟨(some 19), none, .call 56 [(.t 18)]⟩]
 [⟨(some 20), none, .call 55 [(.t 13), (.t 19)]⟩,
 ⟨none, none, .store 2 (.t 4) (.t 20)⟩])
 (.pre (.norm false [4]) .ret))
 .skip))
 (.seq
 (.reg [⟨(some 22), none, .fad 1 (.t 2)⟩,
 ⟨(some 23), none, .load none (.t 22)⟩,
 ⟨(some 24), none, .fad 1 (.t 3)⟩,
 ⟨(some 25), none, .load none (.t 24)⟩,
 ⟨(some 26), none, .call 57 [(.t 23), (.t 25)]⟩,
 ⟨(some 21), none, .mov (.t 26)⟩,
 ⟨(some 27), none, .ext (.t 21) 0⟩,
 ⟨(some 28), none, .ext (.t 21) 1⟩,
 ⟨(some 5), none, .mov (.t 27)⟩,
 ⟨(some 6), none, .mov (.t 28)⟩])
 (.seq
 (.seq
 (.reg [⟨(some 29), none, .mov (.t 6)⟩,
 ⟨(some 30), none, .bin .lss (.t 29) (.c (.i .i64 0))⟩])
 (.cond (.t 30)
 (.seq
 (.reg [⟨(some 31), none, .fad 0 (.t 3)⟩,
 ⟨(some 32), none, .load none (.t 31)⟩,
 ⟨(some 33), none, .mov (.t 5)⟩,
 ⟨(some 34), none, .call 55 [(.t 32), (.t 33)]⟩,
 ⟨none, none, .store 2 (.t 4) (.t 34)⟩])
 (.pre (.norm false [4]) .ret))
 .skip))
 (.seq
 (.reg [⟨(some 35), none, .fad 0 (.t 2)⟩,
 ⟨(some 36), none, .load none (.t 35)⟩,
 ⟨(some 37), none, .mov (.t 5)⟩,
 ⟨(some 38), none, .call 55 [(.t 36), (.t 37)]⟩,
 ⟨none, none, .store 2 (.t 4) (.t 38)⟩])
 (.pre (.norm false [4]) .ret))))))
def b25 : AX :=
 (.seq
 (.reg [⟨(some 2), none, .xop (.box 2) [(.t 0)]⟩,
 ⟨(some 3), none, .xop (.box 2) [(.t 1)]⟩,
 ⟨(some 4), none, .alloc [(.b false), (.sl [] .nl)]⟩])
 (.seq
 (.drawT [⟨(some 5), none, .load (some 2) (.t 2)⟩,
 ⟨(some 6), none, .load (some 2) (.t 3)⟩,
 ⟨(some 7), none, .call 40 [(.t 6)]⟩]
 [⟨(some 8), none, .call 23 [(.t 5), (.t 7)]⟩,
 ⟨none, none, .store 2 (.t 4) (.t 8)⟩])
 (.pre (.norm false [4]) .ret)))
def b27 : AX :=
 (.seq
 (.reg [⟨(some 2), none, .xop (.box 2) [(.t 0)]⟩,
 ⟨(some 3), none, .xop (.box 2) [(.t 1)]⟩,
 ⟨(some 4), none, .alloc [(.b false), (.sl [] .nl)]⟩])
 (.seq
 (.drawT [⟨(some 5), none, .fad 0 (.t 2)⟩,
 ⟨(some 6), none, .load none (.t 5)⟩,
 ⟨(some 7), none, .fad 0 (.t 3)⟩,
 ⟨(some 8), none, .load none (.t 7)⟩,
 ⟨(some 9), none, .eqb true (.t 6) (.t 8)⟩,
 ⟨(some 10), none, .fad 1 (.t 2)⟩,
 ⟨(some 11), none, .load none (.t 10)⟩,
 ⟨(some 12), none, .fad 1 (.t 3)⟩,
 ⟨(some 13), none, .load none (.t 12)⟩,
 ⟨(some 14), none, .call 60 [(.t 11), (.t 13)]⟩]
 [⟨(some 15), none, .call 55 [(.t 9), (.t 14)]⟩,
 ⟨none, none, .store 2 (.t 4) (.t 15)⟩])
 (.pre (.norm false [4]) .ret)))
def b37 : AX :=
 (.seq
 (.reg [⟨(some 1), none, .xop (.box 2) [(.t 0)]⟩,
 ⟨(some 2), none, .mov (.c (.i .i64 0))⟩])
 (.seq
 (.block 0
 (.seq
 (.reg [⟨(some 4), none, .fad 1 (.t 1)⟩,
 ⟨(some 5), none, .load none (.t 4)⟩,
 ⟨(some 6), none, .call 70 [(.t 5)]⟩,
 ⟨(some 3), none, .mov (.t 6)⟩])
 (.cond (.t 3)
 (.seq
 (.reg [⟨(some 2), none, .mov (.c (.i .i64 0))⟩])
 (.pre (.norm false [2]) .ret))
 (.seq
 (.reg [⟨(some 8), none, .fad 0 (.t 1)⟩,
 ⟨(some 9), none, .load none (.t 8)⟩,
 ⟨(some 7), none, .mov (.t 9)⟩])
 (.cond (.t 7)
 (.seq
 (.reg [⟨(some 2), none, .mov (.c (.i .i64 (-1)))⟩])
 (.pre (.norm false [2]) .ret))
 .skip)))))
 (.seq
 (.reg [⟨(some 2), none, .mov (.c (.i .i64 1))⟩])
 (.pre (.norm false [2]) .ret))))
def b41 : AX :=
 (.seq
 (.reg [⟨(some 2), none, .alloc [(.b false), (.sl [] .nl)]⟩])
 (.seq
 (.seq
 (.reg [⟨(some 3), none, .mov (.t 0)⟩,
 ⟨(some 4), none, .bin .lss (.t 3) (.c (.i .i64 0))⟩])
 (.cond (.t 4)
 (.seq
 (.reg [⟨(some 5), none, .mov (.t 0)⟩,
 ⟨(some 6), none, .conv .u64 (.t 5)⟩,
 ⟨(some 7), none, .un .neg (.t 6)⟩,
 ⟨(some 8), none, .call 72 [(.t 7)]⟩,
 ⟨(some 9), none, .call 55 [(.c (.b true)), (.t 8)]⟩,
 ⟨none, none, .store 2 (.t 2) (.t 9)⟩])
 (.pre (.norm false [2]) .ret))
 .skip))
 (.seq
 (.reg [⟨(some 10), none, .mov (.t 0)⟩,
 ⟨(some 11), none, .conv .u64 (.t 10)⟩,
 ⟨(some 12), none, .call 72 [(.t 11)]⟩,
 ⟨(some 13), none, .call 55 [(.c (.b false)), (.t 12)]⟩,
 ⟨none, none, .store 2 (.t 2) (.t 13)⟩])
 (.pre (.norm false [2]) .ret))))
def b36 : AX :=
 (.seq
 (.reg [⟨(some 2), none, .xop (.box 2) [(.t 0)]⟩,
 ⟨(some 3), none, .xop (.box 2) [(.t 1)]⟩,
 ⟨(some 4), none, .mov (.c (.i .i64 0))⟩])
 (.seq
 (.reg [⟨(some 5), none, .load (some 2) (.t 2)⟩,
 ⟨(some 6), none, .load (some 2) (.t 3)⟩,
 ⟨(some 7), none, .call 25 [(.t 5), (.t 6)]⟩,
 ⟨(some 8), none, .call 37 [(.t 7)]⟩,
 ⟨(some 4), none, .mov (.t 8)⟩])
 (.pre (.norm false [4]) .ret)))
def b29 : AX :=
 (.seq
 (.reg [⟨(some 2), none, .xop (.box 2) [(.t 0)]⟩,
 ⟨(some 3), none, .xop (.box 2) [(.t 1)]⟩,
 ⟨(some 4), none, .alloc [(.b false), (.sl [] .nl)]⟩,
 ⟨(some 5), none, .alloc [(.b false), (.sl [] .nl)]⟩,
 ⟨(some 6), none, .mov (.c (.b false))⟩])
 (.seq
 (.reg [⟨(some 10), none, .fad 1 (.t 2)⟩,
 ⟨(some 11), none, .load none (.t 10)⟩,
 ⟨(some 12), none, .fad 1 (.t 3)⟩,
 ⟨(some 13), none, .load none (.t 12)⟩,
 ⟨(some 14), none, .call 62 [(.t 11), (.t 13)]⟩,
 ⟨(some 9), none, .mov (.t 14)⟩,
 ⟨(some 15), none, .ext (.t 9) 0⟩,
 ⟨(some 16), none, .ext (.t 9) 1⟩,
 ⟨(some 17), none, .ext (.t 9) 2⟩,
 ⟨(some 7), none, .mov (.t 15)⟩,
 ⟨(some 8), none, .mov (.t 16)⟩,
 ⟨(some 6), none, .mov (.t 17)⟩])
 (.seq
 (.seq
 (.reg [⟨(some 18), none, .mov (.t 6)⟩,
 ⟨(some 19), none, .un .not (.t 18)⟩])
 (.cond (.t 19)
 (.seq
 (.reg [⟨(some 20), none, .build [(.b false), (.sl [] .nl)] []⟩,
 ⟨(some 21), none, .build [(.b false), (.sl [] .nl)] []⟩,
 ⟨none, none, .store 2 (.t 4) (.t 20)⟩,
 ⟨none, none, .store 2 (.t 5) (.t 21)⟩,
 ⟨(some 6), none, .mov (.c (.b false))⟩])
 (.pre (.norm false [4, 5, 6]) .ret))
 .skip))
 (.seq
 (.reg [⟨(some 22), none, .fad 0 (.t 2)⟩,
 ⟨(some 23), none, .load none (.t 22)⟩,
 ⟨(some 24), none, .fad 0 (.t 3)⟩,
 ⟨(some 25), none, .load none (.t 24)⟩,
 ⟨(some 26), none, .eqb true (.t 23) (.t 25)⟩,
 ⟨(some 27), none, .mov (.t 7)⟩,
 ⟨(some 28), none, .call 55 [(.t 26), (.t 27)]⟩,
 ⟨none, none, .store 2 (.t 4) (.t 28)⟩])
 (.seq
 (.drawT [⟨(some 29), none, .load (some 2) (.t 2)⟩,
 ⟨(some 30), none, .load (some 2) (.t 4)⟩,
 ⟨(some 31), none, .load (some 2) (.t 3)⟩,
 ⟨(some 32), none, .call 27 [(.t 30), (.t 31)]⟩]
 [⟨(some 33), none, .call 25 [(.t 29), (.t 32)]⟩,
 ⟨none, none, .store 2 (.t 5) (.t 33)⟩])
 (.seq
 (.seq
 (.drawT [⟨(some 34), none, .load (some 2) (.t 5)⟩,
 ⟨(some 35), none, .call 37 [(.t 34)]⟩,
 ⟨(some 36), none, .load (some 2) (.t 3)⟩]
 [⟨(some 37), none, .call 37 [(.t 36)]⟩,
 ⟨(some 38), none, .bin .mul (.t 35) (.t 37)⟩,
 ⟨(some 39), none, .bin .lss (.t 38) (.c (.i .i64 0))⟩])
 (.cond (.t 39)
 (.seq
 (.drawT [⟨(some 40), none, .load (some 2) (.t 4)⟩,
 ⟨(some 41), none, .call 41 [(.c (.i .i64 1))]⟩]
 [⟨(some 42), none, .call 25 [(.t 40), (.t 41)]⟩,
 ⟨none, none, .store 2 (.t 4) (.t 42)⟩])
 (.reg [⟨(some 43), none, .load (some 2) (.t 5)⟩,
 ⟨(some 44), none, .load (some 2) (.t 3)⟩,
 ⟨(some 45), none, .call 23 [(.t 43), (.t 44)]⟩,
 ⟨none, none, .store 2 (.t 5) (.t 45)⟩]))
 .skip))
 (.seq
 (.draw [⟨⟨(some 46), none, .load (some 2) (.t 4)⟩, 0, 0⟩,
 ⟨⟨(some 47), none, .load (some 2) (.t 5)⟩, 0, 1⟩,
 ⟨⟨none, none, .store 2 (.t 4) (.t 46)⟩, 0, 1⟩,
 ⟨⟨none, none, .store 2 (.t 5) (.t 47)⟩, 1, 2⟩,
 ⟨⟨(some 6), none, .mov (.c (.b true))⟩, 2, 2⟩])
 (.pre (.norm false [4, 5, 6]) .ret))))))))
def b34 : AX :=
 (.seq
 (.reg [⟨(some 1), none, .xop (.box 2) [(.t 0)]⟩,
 ⟨(some 2), none, .mov (.c (.s []))⟩])
 (.seq
 (.reg [⟨(some 4), none, .fad 1 (.t 1)⟩,
 ⟨(some 5), none, .load none (.t 4)⟩,
 ⟨(some 6), none, .call 68 [(.t 5)]⟩,
 ⟨(some 3), none, .mov (.t 6)⟩])
 (.seq
 (.seq
 (.reg [⟨(some 7), none, .load (some 2) (.t 1)⟩,
 ⟨(some 8), none, .call 37 [(.t 7)]⟩,
 ⟨(some 9), none, .bin .lss (.t 8) (.c (.i .i64 0))⟩])
 (.cond (.t 9)
 (.seq
 (.reg [⟨(some 10), none, .mov (.t 3)⟩,
 ⟨(some 11), none, .bin .add (.c (.s [45])) (.t 10)⟩,
 ⟨(some 2), none, .mov (.t 11)⟩])
 (.pre (.norm false [2]) .ret))
 .skip))
 (.seq
 (.reg [⟨(some 12), none, .mov (.t 3)⟩,
 ⟨(some 2), none, .mov (.t 12)⟩])
 (.pre (.norm false [2]) .ret)))))
def b32 : AX :=
 (.seq
 (.reg [⟨(some 2), none, .alloc [(.b false), (.sl [] .nl)]⟩,
 ⟨(some 3), none, .alloc [(.i .i64 0), (.i .i64 0), (.i .i64 0), (.i .i64 0)]⟩])
 (.seq
 (.reg [⟨(some 9), none, .mov (.t 0)⟩,
 ⟨(some 10), none, .call 64 [(.t 9), (.c (.s [45]))]⟩,
 ⟨(some 8), none, .mov (.t 10)⟩,
 ⟨(some 11), none, .ext (.t 8) 0⟩,
 ⟨(some 12), none, .ext (.t 8) 1⟩,
 ⟨(some 4), none, .mov (.t 11)⟩,
 ⟨(some 5), none, .mov (.t 12)⟩])
 (.seq
 (.reg [⟨(some 14), none, .mov (.t 4)⟩,
 ⟨(some 15), none, .call 65 [(.t 14)]⟩,
 ⟨(some 13), none, .mov (.t 15)⟩,
 ⟨(some 16), none, .ext (.t 13) 0⟩,
 ⟨(some 17), none, .ext (.t 13) 1⟩,
 ⟨(some 7), none, .alloc [(.i .i64 0), (.i .i64 0), (.i .i64 0), (.i .i64 0)]⟩,
 ⟨(some 6), none, .mov (.t 16)⟩,
 ⟨none, none, .store 4 (.t 7) (.t 17)⟩])
 (.seq
 (.seq
 (.reg [⟨(some 18), none, .load (some 4) (.t 7)⟩,
 ⟨(some 19), none, .build [(.i .i64 0), (.i .i64 0), (.i .i64 0), (.i .i64 0)] []⟩,
 ⟨(some 20), none, .eqs true [(0, .int), (1, .int), (2, .int), (3, .int)] (.t 18) (.t 19)⟩])
 (.cond (.t 20)
 (.seq
 (.reg [⟨(some 21), none, .fad 3 (.t 7)⟩,
 ⟨(some 22), none, .load none (.t 21)⟩,
 ⟨(some 23), none, .mov (.t 0)⟩,
 ⟨(some 24), none, .lens (.t 23)⟩,
 ⟨(some 25), none, .mov (.t 4)⟩,
 ⟨(some 26), none, .lens (.t 25)⟩,
 ⟨(some 27), none, .bin .sub (.t 24) (.t 26)⟩,
 ⟨(some 28), none, .bin .add (.t 22) (.t 27)⟩,
 ⟨(some 29), none, .fad 3 (.t 7)⟩,
 ⟨none, none, .store 1 (.t 29) (.t 28)⟩])
 (.seq
 (.draw [⟨⟨(some 30), none, .build [(.b false), (.sl [] .nl)] []⟩, 0, 0⟩,
 ⟨⟨(some 31), none, .load (some 4) (.t 7)⟩, 0, 1⟩,
 ⟨⟨none, none, .store 2 (.t 2) (.t 30)⟩, 0, 1⟩,
 ⟨⟨none, none, .store 4 (.t 3) (.t 31)⟩, 1, 2⟩])
 (.pre (.norm false [2, 3]) .ret)))
 .skip))
 (.seq
 (.reg [⟨(some 32), none, .mov (.t 5)⟩,
 ⟨(some 33), none, .mov (.t 6)⟩,
 ⟨(some 34), none, .call 55 [(.t 32), (.t 33)]⟩,
 ⟨(some 35), none, .build [(.i .i64 0), (.i .i64 0), (.i .i64 0), (.i .i64 0)] []⟩,
 ⟨none, none, .store 2 (.t 2) (.t 34)⟩,
 ⟨none, none, .store 4 (.t 3) (.t 35)⟩])
 (.pre (.norm false [2, 3]) .ret))))))
class CWhole (T : Tbl) : Prop where
 h55 : T 55 = some ⟨2, 13, [.cell 4 (some 2)], b55, none, false⟩
 h38 : T 38 = some ⟨1, 9, [.cell 2 (some 2)], b38, none, false⟩
 h40 : T 40 = some ⟨1, 10, [.cell 2 (some 2)], b40, none, false⟩
 h23 : T 23 = some ⟨2, 39, [.cell 4 (some 2)], b23, none, false⟩
 h25 : T 25 = some ⟨2, 9, [.cell 4 (some 2)], b25, none, false⟩
 h27 : T 27 = some ⟨2, 16, [.cell 4 (some 2)], b27, none, false⟩
 h37 : T 37 = some ⟨1, 10, [.t 2], b37, none, false⟩
 h41 : T 41 = some ⟨1, 14, [.cell 2 (some 2)], b41, none, false⟩
 h36 : T 36 = some ⟨2, 9, [.t 4], b36, none, false⟩
 h29 : T 29 = some ⟨2, 48, [.cell 4 (some 2), .cell 5 (some 2), .t 6], b29, none, false⟩
 h34 : T 34 = some ⟨1, 13, [.t 2], b34, none, false⟩
 h32 : T 32 = some ⟨1, 36, [.cell 2 (some 2), .cell 3 (some 4)], b32, none, false⟩
section
variable {T : Tbl} [CWhole T] {d : Option Nat} {st : St}
@[simp] theorem x55 (xs : List AV) : callX (orc T) T 55 xs d st = bL (frzL st.heap xs) fun ys => cR (callF T 55 (ys.map (wkIf false))) xs d st := callX_pure CWhole.h55
theorem f55 (xs : List AV) (hn : xs.length = 2) : callF T 55 xs = retF [.cell 4 (some 2)] false (evX (orc T) T 0 b55 ⟨argEnv xs, [], 1⟩) := callF_eq CWhole.h55 hn
@[simp] theorem x38 (xs : List AV) : callX (orc T) T 38 xs d st = bL (frzL st.heap xs) fun ys => cR (callF T 38 (ys.map (wkIf false))) xs d st := callX_pure CWhole.h38
theorem f38 (xs : List AV) (hn : xs.length = 1) : callF T 38 xs = retF [.cell 2 (some 2)] false (evX (orc T) T 0 b38 ⟨argEnv xs, [], 1⟩) := callF_eq CWhole.h38 hn
@[simp] theorem y40 {e : Env} {h : Heap} {older : List Heap} (args : List Opd) : opD (orc T) T (.call 40 args) e h older = dR (callF T 40 ((args.map (ev e.get)).map (wkIf false))) (args.map (ev e.get)) := opD_call CWhole.h40
theorem f40 (xs : List AV) (hn : xs.length = 1) : callF T 40 xs = retF [.cell 2 (some 2)] false (evX (orc T) T 0 b40 ⟨argEnv xs, [], 1⟩) := callF_eq CWhole.h40 hn
@[simp] theorem x23 (xs : List AV) : callX (orc T) T 23 xs d st = bL (frzL st.heap xs) fun ys => cR (callF T 23 (ys.map (wkIf false))) xs d st := callX_pure CWhole.h23
@[simp] theorem y23 {e : Env} {h : Heap} {older : List Heap} (args : List Opd) : opD (orc T) T (.call 23 args) e h older = dR (callF T 23 ((args.map (ev e.get)).map (wkIf false))) (args.map (ev e.get)) := opD_call CWhole.h23
theorem f23 (xs : List AV) (hn : xs.length = 2) : callF T 23 xs = retF [.cell 4 (some 2)] false (evX (orc T) T 0 b23 ⟨argEnv xs, [], 1⟩) := callF_eq CWhole.h23 hn
@[simp] theorem x25 (xs : List AV) : callX (orc T) T 25 xs d st = bL (frzL st.heap xs) fun ys => cR (callF T 25 (ys.map (wkIf false))) xs d st := callX_pure CWhole.h25
theorem f25 (xs : List AV) (hn : xs.length = 2) : callF T 25 xs = retF [.cell 4 (some 2)] false (evX (orc T) T 0 b25 ⟨argEnv xs, [], 1⟩) := callF_eq CWhole.h25 hn
@[simp] theorem x27 (xs : List AV) : callX (orc T) T 27 xs d st = bL (frzL st.heap xs) fun ys => cR (callF T 27 (ys.map (wkIf false))) xs d st := callX_pure CWhole.h27
@[simp] theorem y27 {e : Env} {h : Heap} {older : List Heap} (args : List Opd) : opD (orc T) T (.call 27 args) e h older = dR (callF T 27 ((args.map (ev e.get)).map (wkIf false))) (args.map (ev e.get)) := opD_call CWhole.h27
theorem f27 (xs : List AV) (hn : xs.length = 2) : callF T 27 xs = retF [.cell 4 (some 2)] false (evX (orc T) T 0 b27 ⟨argEnv xs, [], 1⟩) := callF_eq CWhole.h27 hn
@[simp] theorem x37 (xs : List AV) : callX (orc T) T 37 xs d st = bL (frzL st.heap xs) fun ys => cR (callF T 37 (ys.map (wkIf false))) xs d st := callX_pure CWhole.h37
@[simp] theorem y37 {e : Env} {h : Heap} {older : List Heap} (args : List Opd) : opD (orc T) T (.call 37 args) e h older = dR (callF T 37 ((args.map (ev e.get)).map (wkIf false))) (args.map (ev e.get)) := opD_call CWhole.h37
theorem f37 (xs : List AV) (hn : xs.length = 1) : callF T 37 xs = retF [.t 2] false (evX (orc T) T 0 b37 ⟨argEnv xs, [], 1⟩) := callF_eq CWhole.h37 hn
@[simp] theorem x41 (xs : List AV) : callX (orc T) T 41 xs d st = bL (frzL st.heap xs) fun ys => cR (callF T 41 (ys.map (wkIf false))) xs d st := callX_pure CWhole.h41
@[simp] theorem y41 {e : Env} {h : Heap} {older : List Heap} (args : List Opd) : opD (orc T) T (.call 41 args) e h older = dR (callF T 41 ((args.map (ev e.get)).map (wkIf false))) (args.map (ev e.get)) := opD_call CWhole.h41
theorem f41 (xs : List AV) (hn : xs.length = 1) : callF T 41 xs = retF [.cell 2 (some 2)] false (evX (orc T) T 0 b41 ⟨argEnv xs, [], 1⟩) := callF_eq CWhole.h41 hn
@[simp] theorem x36 (xs : List AV) : callX (orc T) T 36 xs d st = bL (frzL st.heap xs) fun ys => cR (callF T 36 (ys.map (wkIf false))) xs d st := callX_pure CWhole.h36
@[simp] theorem x29 (xs : List AV) : callX (orc T) T 29 xs d st = bL (frzL st.heap xs) fun ys => cR (callF T 29 (ys.map (wkIf false))) xs d st := callX_pure CWhole.h29
theorem f29 (xs : List AV) (hn : xs.length = 2) : callF T 29 xs = retF [.cell 4 (some 2), .cell 5 (some 2), .t 6] false (evX (orc T) T 0 b29 ⟨argEnv xs, [], 1⟩) := callF_eq CWhole.h29 hn
@[simp] theorem x34 (xs : List AV) : callX (orc T) T 34 xs d st = bL (frzL st.heap xs) fun ys => cR (callF T 34 (ys.map (wkIf false))) xs d st := callX_pure CWhole.h34
theorem f34 (xs : List AV) (hn : xs.length = 1) : callF T 34 xs = retF [.t 2] false (evX (orc T) T 0 b34 ⟨argEnv xs, [], 1⟩) := callF_eq CWhole.h34 hn
@[simp] theorem x32 (xs : List AV) : callX (orc T) T 32 xs d st = bL (frzL st.heap xs) fun ys => cR (callF T 32 (ys.map (wkIf false))) xs d st := callX_pure CWhole.h32
theorem f32 (xs : List AV) (hn : xs.length = 1) : callF T 32 xs = retF [.cell 2 (some 2), .cell 3 (some 4)] false (evX (orc T) T 0 b32 ⟨argEnv xs, [], 1⟩) := callF_eq CWhole.h32 hn
end
end Go.Ab
end

section
namespace Go.Ab
open Go.RowKit
abbrev mv (d s : Nat) : AO := ⟨some d, none, .mov (.t s)⟩
abbrev rg (d : Nat) (op : AOp) : AO := ⟨some d, none, op⟩
abbrev gd (d t : Nat) (b : Bool) (op : AOp) : AO := ⟨some d, some (t, b), op⟩
abbrev so (op : AOp) : AO := ⟨none, none, op⟩
section
variable (T : Tbl) (u : Nat) (ex : Bool) (ms : List Bool) (xs : List AV) (d : Option Nat) (st : St) (ps : List Opd) (e : Env)
@[simp] noncomputable def cP : Option St := bL (frzL st.heap xs) fun ys => cR (callF T u (ys.map (wkIf ex))) xs d st
@[simp] noncomputable def cL : Option St := bL (frzM st.heap ms xs) fun ys => lentX ys (shareIds (refsM ms xs) st.heap) (reach (shareIds (refsM ms xs) st.heap) 40 (rootsM ms xs) []) T u ex d st
@[simp] noncomputable def dP : Option AV := dR (callF T u ((ps.map (ev e.get)).map (wkIf ex))) (ps.map (ev e.get))
end
end Go.Ab
end

section
namespace Go.Ab
def l198_0 : AX :=
 (.note
 (.seq
 (.seq
 (.reg [mv 5 1, rg 6 (.bin .neq (.t 5) (.c (u64 0)))])
 (.cond (.t 6)
 .skip
 (.exit 0)))
 (.block 1
 (.drawT [mv 7 1, mv 8 0, mv 9 1, rg 10 (.bin .rem (.t 8) (.t 9)), mv 0 7]
 [mv 1 10])))
 (.norm false [0, 1]))
def b198 : AX :=
 (.seq
 (.reg [rg 4 (.mov (.c (u64 0)))])
 (.seq
 (.lp 0 (.norm false [0, 1]) l198_0 (.norm false [0]))
 (.seq
 (.reg [mv 11 0, mv 4 11])
 (.pre (.norm false [4]) .ret))))
def l199_0 : AX :=
 (.note
 (.seq
 (.seq
 (.reg [mv 19 1, rg 20 (.len (.t 19)), rg 21 (.bin .gtr (.t 20) (.c (.i .i64 2)))])
 (.cond (.t 21)
 .skip
 (.exit 0)))
 (.block 1
 (.seq
 (.reg [mv 23 0, mv 24 1, rg 25 (.call 62 [(.t 23), (.t 24)]), mv 22 25, rg 26 (.ext (.t 22) 0), rg 27 (.ext (.t 22) 1), rg 28 (.ext (.t 22) 2), mv 5 26,
 mv 6 27, mv 7 28])
 (.reg [mv 29 1, mv 30 6, mv 0 29, mv 1 30]))))
 (.norm false [0, 1]))
def b199 : AX :=
 (.seq
 (.reg [rg 4 (.mov (.c (.sl [] .nl)))])
 (.seq
 (.reg [mv 15 0, rg 16 (.call 71 [(.t 15)]), mv 17 1, rg 18 (.call 71 [(.t 17)]), mv 0 16, mv 1 18])
 (.seq
 (.lp 0 (.norm false [0, 1]) l199_0 (.norm false [0, 1]))
 (.seq
 (.seq
 (.reg [mv 31 1, rg 32 (.len (.t 31)), rg 33 (.bin .eql (.t 32) (.c (.i .i64 0)))])
 (.cond (.t 33)
 (.seq
 (.reg [mv 34 0, mv 4 34])
 (.pre (.norm false [4]) .ret))
 .skip))
 (.seq
 (.reg [mv 36 0, mv 37 1, rg 38 (.call 62 [(.t 36), (.t 37)]), mv 35 38, rg 39 (.ext (.t 35) 0), rg 40 (.ext (.t 35) 1), rg 41 (.ext (.t 35) 2), mv 8 39,
 mv 9 40, mv 10 41])
 (.seq
 (.reg [mv 43 1, rg 44 (.call 73 [(.t 43)]), mv 42 44, rg 45 (.ext (.t 42) 0), rg 46 (.ext (.t 42) 1), mv 11 45, mv 12 46])
 (.seq
 (.reg [mv 48 9, rg 49 (.call 73 [(.t 48)]), mv 47 49, rg 50 (.ext (.t 47) 0), rg 51 (.ext (.t 47) 1), mv 13 50, mv 14 51])
 (.seq
 (.reg [mv 52 11, mv 53 13, rg 54 (.call 198 [(.t 52), (.t 53)]), rg 55 (.call 72 [(.t 54)]), mv 4 55])
 (.pre (.norm false [4]) .ret)))))))))
def b200 : AX :=
 (.seq
 (.reg [rg 2 (.mov (.c (.b false)))])
 (.seq
 (.reg [mv 3 0, rg 4 (.len (.t 3)), rg 5 (.bin .eql (.t 4) (.c (.i .i64 1))), mv 6 5, gd 7 6 true (.mov (.t 0)), gd 8 6 true (.iad 1 (.t 7) (.c (.i .i64 0))),
 gd 9 6 true (.load none (.t 8)), gd 10 6 true (.bin .eql (.t 9) (.c (u32 1))), rg 11 (.pick (.t 6) (.t 10) (.c (.b false))), mv 2 11])
 (.pre (.norm false [2]) .ret)))
def b201 : AX :=
 (.seq
 (.reg [rg 4 (.mov (.c (.sl [] .nl))), rg 5 (.mov (.c (.sl [] .nl)))])
 (.seq
 (.reg [mv 7 0, mv 8 1, rg 9 (.call 199 [(.t 7), (.t 8)]), mv 6 9])
 (.seq
 (.block 0
 (.seq
 (.reg [mv 11 6, rg 12 (.len (.t 11)), rg 13 (.bin .eql (.t 12) (.c (.i .i64 0))), mv 10 13])
 (.cond (.t 10)
 (.seq
 (.reg [rg 4 (.mov (.c (.sl [] .nl))), rg 5 (.mov (.c (.sl [] .nl)))])
 (.pre (.norm false [4, 5]) .ret))
 (.seq
 (.reg [mv 15 6, rg 16 (.call 200 [(.t 15)]), mv 14 16])
 (.cond (.t 14)
 (.seq
 (.reg [mv 17 0, rg 18 (.call 71 [(.t 17)]), mv 19 1, rg 20 (.call 71 [(.t 19)]), mv 4 18, mv 5 20])
 (.pre (.norm false [4, 5]) .ret))
 .skip)))))
 (.seq
 (.reg [mv 22 0, mv 23 6, rg 24 (.call 62 [(.t 22), (.t 23)]), mv 21 24, rg 25 (.ext (.t 21) 0), rg 26 (.ext (.t 21) 1), rg 27 (.ext (.t 21) 2), mv 4 25])
 (.seq
 (.reg [mv 29 1, mv 30 6, rg 31 (.call 62 [(.t 29), (.t 30)]), mv 28 31, rg 32 (.ext (.t 28) 0), rg 33 (.ext (.t 28) 1), rg 34 (.ext (.t 28) 2), mv 5 32])
 (.seq
 (.reg [mv 35 4, mv 36 5, mv 4 35, mv 5 36])
 (.pre (.norm false [4, 5]) .ret)))))))
class CCommon (T : Tbl) : Prop where
 h198 : T 198 = some ⟨2, 12, [.t 4], b198, none, false⟩
 h199 : T 199 = some ⟨2, 56, [.t 4], b199, none, false⟩
 h200 : T 200 = some ⟨1, 12, [.t 2], b200, none, false⟩
 h201 : T 201 = some ⟨2, 37, [.t 4, .t 5], b201, none, false⟩
section
variable {T : Tbl} [CCommon T] {d : Option Nat} {st : St} {xs : List AV} {ps : List Opd} {e : Env} {h : Heap} {ol : List Heap}
@[simp] theorem x198 : callX (orc T) T 198 xs d st = cP T 198 false xs d st := callX_pure CCommon.h198
theorem f198 (xs : List AV) (hn : xs.length = 2) : callF T 198 xs = retF [.t 4] false (evX (orc T) T 0 b198 ⟨argEnv xs, [], 1⟩) := callF_eq CCommon.h198 hn
@[simp] theorem x199 : callX (orc T) T 199 xs d st = cP T 199 false xs d st := callX_pure CCommon.h199
theorem f199 (xs : List AV) (hn : xs.length = 2) : callF T 199 xs = retF [.t 4] false (evX (orc T) T 0 b199 ⟨argEnv xs, [], 1⟩) := callF_eq CCommon.h199 hn
@[simp] theorem x200 : callX (orc T) T 200 xs d st = cP T 200 false xs d st := callX_pure CCommon.h200
theorem f200 (xs : List AV) (hn : xs.length = 1) : callF T 200 xs = retF [.t 2] false (evX (orc T) T 0 b200 ⟨argEnv xs, [], 1⟩) := callF_eq CCommon.h200 hn
@[simp] theorem x201 : callX (orc T) T 201 xs d st = cP T 201 false xs d st := callX_pure CCommon.h201
theorem f201 (xs : List AV) (hn : xs.length = 2) : callF T 201 xs = retF [.t 4, .t 5] false (evX (orc T) T 0 b201 ⟨argEnv xs, [], 1⟩) := callF_eq CCommon.h201 hn
end
end Go.Ab
end

section
namespace Go.Ab
def b202 : AX :=
 (.seq
 (.reg [rg 2 (.xop (.box 2) [(.t 0)]), rg 4 (.alloc [(.b false), (.sl [] .nl), (.sl [] .nl)])])
 (.seq
 (.reg [rg 8 (.fad 1 (.t 2)), rg 9 (.load none (.t 8)), mv 10 1, rg 11 (.call 201 [(.t 9), (.t 10)]), mv 7 11, rg 12 (.ext (.t 7) 0), rg 13 (.ext (.t 7) 1),
 mv 5 12, mv 6 13])
 (.seq
 (.reg [rg 14 (.fad 0 (.t 2)), rg 15 (.load none (.t 14)), mv 16 5, rg 17 (.build [(.b false), (.sl [] .nl)] [(0, 1, (.t 15)), (1, 1, (.t 16))]),
 rg 18 (.call 38 [(.t 17)]), mv 19 6, rg 20 (.build [(.b false), (.sl [] .nl), (.sl [] .nl)] [(0, 2, (.t 18)), (2, 1, (.t 19))]),
 so (.store 3 (.t 4) (.t 20))])
 (.pre (.norm false [4]) .ret))))
def b203 : AX :=
 (.seq
 (.reg [rg 1 (.xop (.box 3) [(.t 0)]), rg 2 (.alloc [(.b false), (.sl [] .nl)]), rg 3 (.mov (.c (.sl [] .nl)))])
 (.seq
 (.seq
 (.reg [rg 4 (.fad 2 (.t 1)), rg 5 (.load none (.t 4)), rg 6 (.call 70 [(.t 5)])])
 (.cond (.t 6)
 (.seq
 (.reg [rg 7 (.build [(.b false), (.sl [] .nl)] []), rg 8 (.call 72 [(.c (u64 1))]), so (.store 2 (.t 2) (.t 7)), mv 3 8])
 (.pre (.norm false [2, 3]) .ret))
 .skip))
 (.seq
 (.draw [⟨rg 9 (.fad 0 (.t 1)), 0, 0⟩, ⟨rg 10 (.load (some 2) (.t 9)), 0, 0⟩, ⟨rg 11 (.fad 2 (.t 1)), 0, 1⟩, ⟨rg 12 (.load none (.t 11)), 0, 1⟩,
 ⟨so (.store 2 (.t 2) (.t 10)), 0, 1⟩, ⟨mv 3 12, 1, 1⟩])
 (.pre (.norm false [2, 3]) .ret))))
def b205 : AX :=
 (.seq
 (.reg [rg 2 (.alloc [(.b false), (.sl [] .nl), (.sl [] .nl)])])
 (.seq
 (.reg [mv 3 0, rg 4 (.call 41 [(.t 3)]), rg 5 (.call 72 [(.c (u64 1))]),
 rg 6 (.build [(.b false), (.sl [] .nl), (.sl [] .nl)] [(0, 2, (.t 4)), (2, 1, (.t 5))]), so (.store 3 (.t 2) (.t 6))])
 (.pre (.norm false [2]) .ret)))
def b207 : AX :=
 (.seq
 (.reg [rg 1 (.xop (.box 3) [(.t 0)]), rg 2 (.alloc [(.b false), (.sl [] .nl), (.sl [] .nl)])])
 (.seq
 (.reg [rg 3 (.load (some 3) (.t 1)), rg 4 (.call 203 [(.t 3)]), rg 5 (.ext (.t 4) 0), rg 6 (.ext (.t 4) 1), rg 7 (.call 202 [(.t 5), (.t 6)]),
 so (.store 3 (.t 2) (.t 7))])
 (.pre (.norm false [2]) .ret)))
def b209 : AX :=
 (.seq
 (.reg [rg 1 (.xop (.box 3) [(.t 0)]), rg 2 (.mov (.c (.i .i64 0)))])
 (.seq
 (.reg [rg 6 (.load (some 3) (.t 1)), rg 7 (.call 203 [(.t 6)]), mv 5 7, rg 8 (.ext (.t 5) 0), rg 9 (.ext (.t 5) 1), rg 3 (.alloc [(.b false), (.sl [] .nl)]),
 so (.store 2 (.t 3) (.t 8)), mv 4 9])
 (.seq
 (.reg [rg 10 (.load (some 2) (.t 3)), rg 11 (.call 37 [(.t 10)]), mv 2 11])
 (.pre (.norm false [2]) .ret))))
def b210 : AX :=
 (.seq
 (.reg [rg 2 (.xop (.box 2) [(.t 0)]), rg 4 (.alloc [(.b false), (.sl [] .nl)])])
 (.seq
 (.reg [rg 5 (.load (some 2) (.t 2)), mv 6 1, rg 7 (.build [(.b false), (.sl [] .nl)] [(1, 1, (.t 6))]), rg 8 (.call 27 [(.t 5), (.t 7)]),
 so (.store 2 (.t 4) (.t 8))])
 (.pre (.norm false [4]) .ret)))
def b212 : AX :=
 (.seq
 (.reg [rg 2 (.xop (.box 3) [(.t 0)]), rg 3 (.xop (.box 3) [(.t 1)]), rg 4 (.mov (.c (.b false)))])
 (.seq
 (.reg [rg 5 (.load (some 3) (.t 2)), rg 6 (.load (some 3) (.t 3)), rg 7 (.call 211 [(.t 5), (.t 6)]), rg 8 (.bin .eql (.t 7) (.c (.i .i64 0))), mv 4 8])
 (.pre (.norm false [4]) .ret)))
def b215 : AX :=
 (.seq
 (.reg [rg 2 (.xop (.box 3) [(.t 0)]), rg 3 (.xop (.box 3) [(.t 1)]), rg 4 (.alloc [(.b false), (.sl [] .nl), (.sl [] .nl)])])
 (.seq
 (.reg [rg 10 (.load (some 3) (.t 2)), rg 11 (.call 203 [(.t 10)]), mv 9 11, rg 12 (.ext (.t 9) 0), rg 13 (.ext (.t 9) 1),
 rg 5 (.alloc [(.b false), (.sl [] .nl)]), so (.store 2 (.t 5) (.t 12)), mv 6 13])
 (.seq
 (.reg [rg 15 (.load (some 3) (.t 3)), rg 16 (.call 203 [(.t 15)]), mv 14 16, rg 17 (.ext (.t 14) 0), rg 18 (.ext (.t 14) 1),
 rg 7 (.alloc [(.b false), (.sl [] .nl)]), so (.store 2 (.t 7) (.t 17)), mv 8 18])
 (.seq
 (.drawT [rg 19 (.load (some 2) (.t 5)), mv 20 8, rg 21 (.call 210 [(.t 19), (.t 20)]), rg 22 (.load (some 2) (.t 7)), mv 23 6,
 rg 24 (.call 210 [(.t 22), (.t 23)]), rg 25 (.call 23 [(.t 21), (.t 24)]), mv 26 6, mv 27 8]
 [rg 28 (.call 60 [(.t 26), (.t 27)]), rg 29 (.call 202 [(.t 25), (.t 28)]), so (.store 3 (.t 4) (.t 29))])
 (.pre (.norm false [4]) .ret)))))
def b217 : AX :=
 (.seq
 (.reg [rg 2 (.xop (.box 3) [(.t 0)]), rg 3 (.xop (.box 3) [(.t 1)]), rg 4 (.alloc [(.b false), (.sl [] .nl), (.sl [] .nl)])])
 (.seq
 (.reg [rg 10 (.load (some 3) (.t 2)), rg 11 (.call 203 [(.t 10)]), mv 9 11, rg 12 (.ext (.t 9) 0), rg 13 (.ext (.t 9) 1),
 rg 5 (.alloc [(.b false), (.sl [] .nl)]), so (.store 2 (.t 5) (.t 12)), mv 6 13])
 (.seq
 (.reg [rg 15 (.load (some 3) (.t 3)), rg 16 (.call 203 [(.t 15)]), mv 14 16, rg 17 (.ext (.t 14) 0), rg 18 (.ext (.t 14) 1),
 rg 7 (.alloc [(.b false), (.sl [] .nl)]), so (.store 2 (.t 7) (.t 17)), mv 8 18])
 (.seq
 (.reg [rg 19 (.load (some 2) (.t 5)), rg 20 (.load (some 2) (.t 7)), rg 21 (.call 27 [(.t 19), (.t 20)]), mv 22 6, mv 23 8, rg 24 (.call 60 [(.t 22), (.t 23)]),
 rg 25 (.call 202 [(.t 21), (.t 24)]), so (.store 3 (.t 4) (.t 25))])
 (.pre (.norm false [4]) .ret)))))
def b218 : AX :=
 (.seq
 (.reg [rg 2 (.xop (.box 3) [(.t 0)]), rg 3 (.xop (.box 3) [(.t 1)]), rg 4 (.alloc [(.b false), (.sl [] .nl), (.sl [] .nl)]), rg 5 (.mov (.c (.b false)))])
 (.seq
 (.reg [rg 12 (.load (some 3) (.t 2)), rg 13 (.call 203 [(.t 12)]), mv 11 13, rg 14 (.ext (.t 11) 0), rg 15 (.ext (.t 11) 1),
 rg 6 (.alloc [(.b false), (.sl [] .nl)]), so (.store 2 (.t 6) (.t 14)), mv 7 15])
 (.seq
 (.reg [rg 17 (.load (some 3) (.t 3)), rg 18 (.call 203 [(.t 17)]), mv 16 18, rg 19 (.ext (.t 16) 0), rg 20 (.ext (.t 16) 1),
 rg 8 (.alloc [(.b false), (.sl [] .nl)]), so (.store 2 (.t 8) (.t 19)), mv 9 20])
 (.seq
 (.seq
 (.reg [rg 21 (.load (some 2) (.t 8)), rg 22 (.call 37 [(.t 21)]), rg 23 (.bin .eql (.t 22) (.c (.i .i64 0)))])
 (.cond (.t 23)
 (.seq
 (.reg [rg 24 (.call 205 [(.c (.i .i64 0))]), so (.store 3 (.t 4) (.t 24)), rg 5 (.mov (.c (.b false)))])
 (.pre (.norm false [4, 5]) .ret))
 .skip))
 (.seq
 (.reg [rg 25 (.load (some 2) (.t 6)), mv 26 9, rg 27 (.call 210 [(.t 25), (.t 26)]), rg 10 (.alloc [(.b false), (.sl [] .nl)]), so (.store 2 (.t 10) (.t 27))])
 (.seq
 (.reg [rg 28 (.fad 0 (.t 10)), rg 29 (.load none (.t 28)), rg 30 (.fad 0 (.t 8)), rg 31 (.load none (.t 30)), rg 32 (.eqb true (.t 29) (.t 31)),
 rg 33 (.fad 0 (.t 10)), so (.store 1 (.t 33) (.t 32))])
 (.seq
 (.drawT [rg 34 (.load (some 2) (.t 10)), mv 35 7, rg 36 (.fad 1 (.t 8)), rg 37 (.load none (.t 36)), rg 38 (.call 60 [(.t 35), (.t 37)])]
 [rg 39 (.call 202 [(.t 34), (.t 38)]), so (.store 3 (.t 4) (.t 39)), rg 5 (.mov (.c (.b true)))])
 (.pre (.norm false [4, 5]) .ret))))))))
class CFrac (T : Tbl) : Prop where
 h202 : T 202 = some ⟨2, 21, [.cell 4 (some 3)], b202, none, false⟩
 h203 : T 203 = some ⟨1, 13, [.cell 2 (some 2), .t 3], b203, none, false⟩
 h205 : T 205 = some ⟨1, 7, [.cell 2 (some 3)], b205, none, false⟩
 h207 : T 207 = some ⟨1, 8, [.cell 2 (some 3)], b207, none, false⟩
 h209 : T 209 = some ⟨1, 12, [.t 2], b209, none, false⟩
 h210 : T 210 = some ⟨2, 9, [.cell 4 (some 2)], b210, none, false⟩
 h212 : T 212 = some ⟨2, 9, [.t 4], b212, none, false⟩
 h215 : T 215 = some ⟨2, 30, [.cell 4 (some 3)], b215, none, false⟩
 h217 : T 217 = some ⟨2, 26, [.cell 4 (some 3)], b217, none, false⟩
 h218 : T 218 = some ⟨2, 40, [.cell 4 (some 3), .t 5], b218, none, false⟩
section
variable {T : Tbl} [CFrac T] {d : Option Nat} {st : St} {xs : List AV} {ps : List Opd} {e : Env} {h : Heap} {ol : List Heap}
@[simp] theorem x202 : callX (orc T) T 202 xs d st = cP T 202 false xs d st := callX_pure CFrac.h202
theorem f202 (xs : List AV) (hn : xs.length = 2) : callF T 202 xs = retF [.cell 4 (some 3)] false (evX (orc T) T 0 b202 ⟨argEnv xs, [], 1⟩) := callF_eq CFrac.h202 hn
@[simp] theorem x203 : callX (orc T) T 203 xs d st = cP T 203 false xs d st := callX_pure CFrac.h203
theorem f203 (xs : List AV) (hn : xs.length = 1) : callF T 203 xs = retF [.cell 2 (some 2), .t 3] false (evX (orc T) T 0 b203 ⟨argEnv xs, [], 1⟩) := callF_eq CFrac.h203 hn
@[simp] theorem x205 : callX (orc T) T 205 xs d st = cP T 205 false xs d st := callX_pure CFrac.h205
@[simp] theorem y205 : opD (orc T) T (.call 205 ps) e h ol = dP T 205 false ps e := opD_call CFrac.h205
theorem f205 (xs : List AV) (hn : xs.length = 1) : callF T 205 xs = retF [.cell 2 (some 3)] false (evX (orc T) T 0 b205 ⟨argEnv xs, [], 1⟩) := callF_eq CFrac.h205 hn
@[simp] theorem x207 : callX (orc T) T 207 xs d st = cP T 207 false xs d st := callX_pure CFrac.h207
theorem f207 (xs : List AV) (hn : xs.length = 1) : callF T 207 xs = retF [.cell 2 (some 3)] false (evX (orc T) T 0 b207 ⟨argEnv xs, [], 1⟩) := callF_eq CFrac.h207 hn
@[simp] theorem x209 : callX (orc T) T 209 xs d st = cP T 209 false xs d st := callX_pure CFrac.h209
theorem f209 (xs : List AV) (hn : xs.length = 1) : callF T 209 xs = retF [.t 2] false (evX (orc T) T 0 b209 ⟨argEnv xs, [], 1⟩) := callF_eq CFrac.h209 hn
@[simp] theorem x210 : callX (orc T) T 210 xs d st = cP T 210 false xs d st := callX_pure CFrac.h210
@[simp] theorem y210 : opD (orc T) T (.call 210 ps) e h ol = dP T 210 false ps e := opD_call CFrac.h210
theorem f210 (xs : List AV) (hn : xs.length = 2) : callF T 210 xs = retF [.cell 4 (some 2)] false (evX (orc T) T 0 b210 ⟨argEnv xs, [], 1⟩) := callF_eq CFrac.h210 hn
theorem f212 (xs : List AV) (hn : xs.length = 2) : callF T 212 xs = retF [.t 4] false (evX (orc T) T 0 b212 ⟨argEnv xs, [], 1⟩) := callF_eq CFrac.h212 hn
@[simp] theorem y215 : opD (orc T) T (.call 215 ps) e h ol = dP T 215 false ps e := opD_call CFrac.h215
theorem f215 (xs : List AV) (hn : xs.length = 2) : callF T 215 xs = retF [.cell 4 (some 3)] false (evX (orc T) T 0 b215 ⟨argEnv xs, [], 1⟩) := callF_eq CFrac.h215 hn
@[simp] theorem y217 : opD (orc T) T (.call 217 ps) e h ol = dP T 217 false ps e := opD_call CFrac.h217
theorem f217 (xs : List AV) (hn : xs.length = 2) : callF T 217 xs = retF [.cell 4 (some 3)] false (evX (orc T) T 0 b217 ⟨argEnv xs, [], 1⟩) := callF_eq CFrac.h217 hn
@[simp] theorem x218 : callX (orc T) T 218 xs d st = cP T 218 false xs d st := callX_pure CFrac.h218
theorem f218 (xs : List AV) (hn : xs.length = 2) : callF T 218 xs = retF [.cell 4 (some 3), .t 5] false (evX (orc T) T 0 b218 ⟨argEnv xs, [], 1⟩) := callF_eq CFrac.h218 hn
end
end Go.Ab
end

section
namespace Go.Ab
def b204 : AX :=
 (.seq
 (.reg [rg 2 (.xop (.box 2) [(.t 0)]), rg 4 (.alloc [(.b false), (.sl [] .nl), (.sl [] .nl)]), rg 5 (.mov (.c (.b false)))])
 (.seq
 (.seq
 (.reg [mv 6 1, rg 7 (.call 70 [(.t 6)])])
 (.cond (.t 7)
 (.seq
 (.reg [rg 8 (.call 205 [(.c (.i .i64 0))]), so (.store 3 (.t 4) (.t 8)), rg 5 (.mov (.c (.b false)))])
 (.pre (.norm false [4, 5]) .ret))
 .skip))
 (.seq
 (.reg [rg 9 (.load (some 2) (.t 2)), mv 10 1, rg 11 (.call 202 [(.t 9), (.t 10)]), so (.store 3 (.t 4) (.t 11)), rg 5 (.mov (.c (.b true)))])
 (.pre (.norm false [4, 5]) .ret))))
def b206 : AX :=
 (.seq
 (.reg [rg 4 (.alloc [(.b false), (.sl [] .nl), (.sl [] .nl)]), rg 5 (.mov (.c (.b false)))])
 (.seq
 (.reg [mv 6 0, rg 7 (.call 205 [(.t 6)]), mv 8 1, rg 9 (.call 205 [(.t 8)]), rg 10 (.call 218 [(.t 7), (.t 9)]), rg 11 (.ext (.t 10) 0), rg 12 (.ext (.t 10) 1),
 so (.store 3 (.t 4) (.t 11)), mv 5 12])
 (.pre (.norm false [4, 5]) .ret)))
def b214 : AX :=
 (.seq
 (.reg [rg 1 (.xop (.box 3) [(.t 0)]), rg 2 (.alloc [(.b false), (.sl [] .nl), (.sl [] .nl)])])
 (.seq
 (.reg [rg 4 (.load (some 3) (.t 1)), rg 5 (.call 207 [(.t 4)]), rg 3 (.alloc [(.b false), (.sl [] .nl), (.sl [] .nl)]), so (.store 3 (.t 3) (.t 5))])
 (.seq
 (.reg [rg 6 (.fad 0 (.t 3)), rg 7 (.fad 0 (.t 6)), so (.store 1 (.t 7) (.c (.b false)))])
 (.seq
 (.reg [rg 8 (.load (some 3) (.t 3)), so (.store 3 (.t 2) (.t 8))])
 (.pre (.norm false [2]) .ret)))))
def b222 : AX :=
 (.seq
 (.reg [rg 1 (.xop (.box 3) [(.t 0)]), rg 2 (.alloc [(.b false), (.sl [] .nl)])])
 (.seq
 (.reg [rg 9 (.load (some 3) (.t 1)), rg 10 (.call 203 [(.t 9)]), mv 8 10, rg 11 (.ext (.t 8) 0), rg 12 (.ext (.t 8) 1),
 rg 3 (.alloc [(.b false), (.sl [] .nl)]), so (.store 2 (.t 3) (.t 11)), mv 4 12])
 (.seq
 (.reg [rg 14 (.load (some 2) (.t 3)), mv 15 4, rg 16 (.build [(.b false), (.sl [] .nl)] [(1, 1, (.t 15))]), rg 17 (.call 29 [(.t 14), (.t 16)]), mv 13 17,
 rg 18 (.ext (.t 13) 0), rg 19 (.ext (.t 13) 1), rg 20 (.ext (.t 13) 2), rg 5 (.alloc [(.b false), (.sl [] .nl)]),
 rg 6 (.alloc [(.b false), (.sl [] .nl)]), so (.store 2 (.t 5) (.t 18)), so (.store 2 (.t 6) (.t 19)), mv 7 20])
 (.seq
 (.reg [rg 21 (.load (some 2) (.t 5)), so (.store 2 (.t 2) (.t 21))])
 (.pre (.norm false [2]) .ret)))))
class CFrac2 (T : Tbl) : Prop where
 h204 : T 204 = some ⟨2, 12, [.cell 4 (some 3), .t 5], b204, none, false⟩
 h206 : T 206 = some ⟨2, 13, [.cell 4 (some 3), .t 5], b206, none, false⟩
 h214 : T 214 = some ⟨1, 9, [.cell 2 (some 3)], b214, none, false⟩
 h222 : T 222 = some ⟨1, 22, [.cell 2 (some 2)], b222, none, false⟩
section
variable {T : Tbl} [CFrac2 T] {d : Option Nat} {st : St} {xs : List AV} {ps : List Opd} {e : Env} {h : Heap} {ol : List Heap}
@[simp] theorem x204 : callX (orc T) T 204 xs d st = cP T 204 false xs d st := callX_pure CFrac2.h204
@[simp] theorem y204 : opD (orc T) T (.call 204 ps) e h ol = dP T 204 false ps e := opD_call CFrac2.h204
theorem f204 (xs : List AV) (hn : xs.length = 2) : callF T 204 xs = retF [.cell 4 (some 3), .t 5] false (evX (orc T) T 0 b204 ⟨argEnv xs, [], 1⟩) := callF_eq CFrac2.h204 hn
@[simp] theorem x206 : callX (orc T) T 206 xs d st = cP T 206 false xs d st := callX_pure CFrac2.h206
theorem f206 (xs : List AV) (hn : xs.length = 2) : callF T 206 xs = retF [.cell 4 (some 3), .t 5] false (evX (orc T) T 0 b206 ⟨argEnv xs, [], 1⟩) := callF_eq CFrac2.h206 hn
@[simp] theorem y214 : opD (orc T) T (.call 214 ps) e h ol = dP T 214 false ps e := opD_call CFrac2.h214
theorem f214 (xs : List AV) (hn : xs.length = 1) : callF T 214 xs = retF [.cell 2 (some 3)] false (evX (orc T) T 0 b214 ⟨argEnv xs, [], 1⟩) := callF_eq CFrac2.h214 hn
@[simp] theorem y222 : opD (orc T) T (.call 222 ps) e h ol = dP T 222 false ps e := opD_call CFrac2.h222
theorem f222 (xs : List AV) (hn : xs.length = 1) : callF T 222 xs = retF [.cell 2 (some 2)] false (evX (orc T) T 0 b222 ⟨argEnv xs, [], 1⟩) := callF_eq CFrac2.h222 hn
end
end Go.Ab
end

section
namespace Go.Ab
def prim344 : List AV → Option AV
 | [.s s, .s [47, 46]] => if s.length ≤ 1000000 then some (.i .i64 (Lib.indexAny s [47, 46])) else none
 | _ => none
def prim194 : List AV → Option AV
 | [.s s, .s [c]] => some (.i .i64 (Lib.indexByte s c))
 | _ => none
def prim361 : List AV → Option AV
 | [.s s, .s [c]] => some (.i .i64 (Lib.countByte s c))
 | _ => none
def prim343 : List AV → Option AV
 | [.s [48], .i .i64 n] => if 0 ≤ n ∧ n ≤ 64 then some (.s (List.replicate n.toNat 48)) else none
 | _ => none
end Go.Ab
end

section
namespace Go.Ab
class CStr (T : Tbl) : Prop where
 h343 : T 343 = some ⟨0, 0, [], .prim prim343, none, false⟩
 h344 : T 344 = some ⟨0, 0, [], .prim prim344, none, false⟩
section
variable {T : Tbl} [CStr T] {d : Option Nat} {st : St} {xs : List AV} {ps : List Opd} {e : Env} {h : Heap} {ol : List Heap}
@[simp] theorem x343 : callX (orc T) T 343 xs d st = cP T 343 false xs d st := callX_pure CStr.h343
theorem p343 (xs : List AV) : callF T 343 xs = prim343 xs := callF_prim CStr.h343
@[simp] theorem x344 : callX (orc T) T 344 xs d st = cP T 344 false xs d st := callX_pure CStr.h344
theorem p344 (xs : List AV) : callF T 344 xs = prim344 xs := callF_prim CStr.h344
end
end Go.Ab
end

section
namespace Go.Ab
def b345 : AX :=
 (.seq
 (.reg [rg 4 (.mov (.c (.b false)))])
 (.seq
 (.reg [mv 5 0, mv 6 1, rg 7 (.call 123 [(.t 5), (.t 6)]), mv 4 7])
 (.pre (.norm false [4]) .ret)))
class CSplit (T : Tbl) : Prop where
 h345 : T 345 = some ⟨2, 8, [.t 4], b345, none, false⟩
section
variable {T : Tbl} [CSplit T] {d : Option Nat} {st : St} {xs : List AV} {ps : List Opd} {e : Env} {h : Heap} {ol : List Heap}
@[simp] theorem y345 : opD (orc T) T (.call 345 ps) e h ol = dP T 345 false ps e := opD_call CSplit.h345
theorem f345 (xs : List AV) (hn : xs.length = 2) : callF T 345 xs = retF [.t 4] false (evX (orc T) T 0 b345 ⟨argEnv xs, [], 1⟩) := callF_eq CSplit.h345 hn
end
end Go.Ab
end

section
namespace Go.Ab
def l258_0 : AX :=
 (.note
 (.seq
 (.seq
 (.reg [mv 36 8, rg 37 (.bin .geq (.t 36) (.c (.i .i64 0)))])
 (.cond (.t 37)
 .skip
 (.exit 0)))
 (.seq
 (.block 1
 (.seq
 (.reg [mv 40 7, rg 41 (.call 357 [(.t 40)]), mv 7 41])
 (.seq
 (.reg [mv 42 1, mv 43 8, rg 44 (.bin .shr (.t 42) (.t 43)), rg 45 (.bin .and (.t 44) (.c (.i .i64 1))), rg 46 (.bin .eql (.t 45) (.c (.i .i64 1)))])
 (.cond (.t 46)
 (.reg [mv 47 7, mv 48 0, rg 49 (.call 60 [(.t 47), (.t 48)]), mv 7 49])
 .skip))))
 (.reg [mv 38 8, rg 39 (.bin .sub (.t 38) (.c (.i .i64 1))), mv 8 39])))
 (.norm false [0, 1, 7, 8]))
def b258 : AX :=
 (.seq
 (.reg [rg 4 (.mov (.c (.sl [] .nl))), rg 5 (.mov (.c (.b false)))])
 (.seq
 (.reg [mv 9 0, rg 10 (.call 356 [(.t 9)]), mv 6 10])
 (.seq
 (.seq
 (.reg [mv 11 1, rg 12 (.bin .lss (.t 11) (.c (.i .i64 0))), mv 13 12, gd 14 13 false (.mov (.t 6)), gd 15 13 false (.bin .gtr (.t 14) (.c (.i .i64 1))),
 gd 16 13 false (.mov (.t 15)), gd 17 16 true (.mov (.t 1)), gd 18 16 true (.mov (.t 6)), gd 19 16 true (.bin .quo (.c (.i .i64 65536)) (.t 18)),
 gd 20 16 true (.bin .gtr (.t 17) (.t 19)), gd 21 13 false (.pick (.t 16) (.t 20) (.c (.b false))), rg 22 (.pick (.t 13) (.c (.b true)) (.t 21))])
 (.cond (.t 22)
 (.seq
 (.reg [rg 4 (.mov (.c (.sl [] .nl))), rg 5 (.mov (.c (.b false)))])
 (.pre (.norm false [4, 5]) .ret))
 .skip))
 (.seq
 (.reg [rg 23 (.call 72 [(.c (u64 1))]), mv 7 23])
 (.seq
 (.seq
 (.reg [mv 24 6, rg 25 (.bin .lss (.t 24) (.c (.i .i64 2)))])
 (.cond (.t 25)
 (.seq
 (.seq
 (.reg [mv 26 1, rg 27 (.bin .gtr (.t 26) (.c (.i .i64 0)))])
 (.cond (.t 27)
 (.reg [mv 28 0, rg 29 (.call 71 [(.t 28)]), mv 7 29])
 .skip))
 (.seq
 (.reg [mv 30 7, mv 4 30, rg 5 (.mov (.c (.b true)))])
 (.pre (.norm false [4, 5]) .ret)))
 .skip))
 (.seq
 (.seq
 (.reg [mv 31 1, rg 32 (.conv .u64 (.t 31)), rg 33 (.call 72 [(.t 32)]), rg 34 (.call 356 [(.t 33)]), rg 35 (.bin .sub (.t 34) (.c (.i .i64 1))), mv 8 35])
 (.lp 0 (.norm false [0, 1, 7, 8]) l258_0 (.norm false [7])))
 (.seq
 (.reg [mv 50 7, mv 4 50, rg 5 (.mov (.c (.b true)))])
 (.pre (.norm false [4, 5]) .ret))))))))
def b356 : AX :=
 (.seq
 (.reg [rg 2 (.mov (.c (.i .i64 0)))])
 (.seq
 (.reg [mv 4 0, rg 5 (.call 71 [(.t 4)]), mv 0 5])
 (.seq
 (.reg [mv 6 0, rg 7 (.len (.t 6)), mv 3 7])
 (.seq
 (.seq
 (.reg [mv 8 3, rg 9 (.bin .eql (.t 8) (.c (.i .i64 0)))])
 (.cond (.t 9)
 (.seq
 (.reg [rg 2 (.mov (.c (.i .i64 0)))])
 (.pre (.norm false [2]) .ret))
 .skip))
 (.seq
 (.reg [mv 10 3, rg 11 (.bin .sub (.t 10) (.c (.i .i64 1))), rg 12 (.bin .mul (.c (.i .i64 32)) (.t 11)), mv 13 0, mv 14 3,
 rg 15 (.bin .sub (.t 14) (.c (.i .i64 1))), rg 16 (.iad 1 (.t 13) (.t 15)), rg 17 (.load none (.t 16)), rg 18 (.call 91 [(.t 17)]),
 rg 19 (.bin .add (.t 12) (.t 18)), mv 2 19])
 (.pre (.norm false [2]) .ret))))))
def l357_0 : AX :=
 (.note
 (.seq
 (.reg [rg 18 (.bin .lss (.t 17) (.t 16))])
 (.seq
 (.cond (.t 18)
 .skip
 (.exit 0))
 (.seq
 (.block 1
 (.seq
 (.reg [mv 19 17, rg 20 (.iad 1 (.t 15) (.t 17)), rg 21 (.load none (.t 20)), mv 4 19, mv 5 21])
 (.reg [mv 22 3, mv 23 4, rg 24 (.bin .mul (.c (.i .i64 2)) (.t 23)), rg 25 (.bin .add (.t 24) (.c (.i .i64 1))), mv 26 0, mv 27 4,
 rg 28 (.bin .add (.t 27) (.c (.i .i64 1))), rg 29 (.slc 1 (.t 26) (some (.t 28)) none none), mv 30 5,
 rg 31 (.call 89 [(.t 22), (.t 25), (.t 29), (.t 30), (.c (u32 0))])])))
 (.reg [rg 32 (.bin .add (.t 17) (.c (.i .i64 1))), mv 17 32]))))
 (.norm false [0, 3, 15, 16, 17]))
def l357_1 : AX :=
 (.note
 (.seq
 (.reg [rg 42 (.bin .lss (.t 41) (.t 40))])
 (.seq
 (.cond (.t 42)
 .skip
 (.exit 2))
 (.seq
 (.block 3
 (.seq
 (.reg [mv 43 41, rg 44 (.iad 1 (.t 39) (.t 41)), rg 45 (.load none (.t 44)), mv 8 43, mv 9 45])
 (.reg [mv 47 7, mv 48 8, rg 49 (.bin .mul (.c (.i .i64 2)) (.t 48)), rg 50 (.bin .add (.t 49) (.c (.i .i64 1))), mv 51 7, mv 52 8,
 rg 53 (.bin .mul (.c (.i .i64 2)) (.t 52)), mv 54 9, mv 55 9, rg 56 (.call 117 [(.t 54), (.t 55), (.c (u32 0)), (.c (u32 0))]), mv 46 56,
 rg 57 (.ext (.t 46) 0), rg 58 (.ext (.t 46) 1), rg 59 (.iad 1 (.t 47) (.t 50)), so (.store 1 (.t 59) (.t 57)), rg 60 (.iad 1 (.t 51) (.t 53)),
 so (.store 1 (.t 60) (.t 58))])))
 (.reg [rg 61 (.bin .add (.t 41) (.c (.i .i64 1))), mv 41 61]))))
 (.norm false [6, 7, 39, 40, 41]))
def b357 : AX :=
 (.seq
 (.reg [rg 2 (.mov (.c (.sl [] .nl)))])
 (.seq
 (.reg [mv 10 0, rg 11 (.len (.t 10)), rg 12 (.bin .mul (.c (.i .i64 2)) (.t 11)), rg 13 (.bin .add (.t 12) (.c (.i .i64 1))),
 rg 14 (.mks 1 [(u32 0)] (.t 13) (.t 13)), mv 3 14])
 (.seq
 (.seq
 (.reg [mv 15 0, rg 16 (.len (.t 15)), rg 17 (.mov (.c (.i .i64 0)))])
 (.lp 0 (.norm false [0, 3, 15, 16, 17]) l357_0 (.norm false [0, 3])))
 (.seq
 (.reg [mv 33 3, rg 34 (.call 92 [(.t 33), (.c (.i .i64 1))]), mv 6 34])
 (.seq
 (.reg [mv 35 0, rg 36 (.len (.t 35)), rg 37 (.bin .mul (.c (.i .i64 2)) (.t 36)), rg 38 (.mks 1 [(u32 0)] (.t 37) (.t 37)), mv 7 38])
 (.seq
 (.seq
 (.reg [mv 39 0, rg 40 (.len (.t 39)), rg 41 (.mov (.c (.i .i64 0)))])
 (.lp 2 (.norm false [6, 7, 39, 40, 41]) l357_1 (.norm false [6, 7])))
 (.seq
 (.reg [mv 62 6, mv 63 7, rg 64 (.bsl 1 [(.sl [] .nl)] 2 [(0, (.t 62)), (1, (.t 63))]), rg 65 (.call 56 [(.t 64)]), mv 2 65])
 (.pre (.norm false [2]) .ret))))))))
class CPow (T : Tbl) : Prop where
 h258 : T 258 = some ⟨2, 51, [.t 4, .t 5], b258, none, false⟩
 h356 : T 356 = some ⟨1, 20, [.t 2], b356, none, false⟩
 h357 : T 357 = some ⟨1, 66, [.t 2], b357, none, false⟩
section
variable {T : Tbl} [CPow T] {d : Option Nat} {st : St} {xs : List AV} {ps : List Opd} {e : Env} {h : Heap} {ol : List Heap}
@[simp] theorem x258 : callX (orc T) T 258 xs d st = cP T 258 false xs d st := callX_pure CPow.h258
theorem f258 (xs : List AV) (hn : xs.length = 2) : callF T 258 xs = retF [.t 4, .t 5] false (evX (orc T) T 0 b258 ⟨argEnv xs, [], 1⟩) := callF_eq CPow.h258 hn
@[simp] theorem x356 : callX (orc T) T 356 xs d st = cP T 356 false xs d st := callX_pure CPow.h356
theorem f356 (xs : List AV) (hn : xs.length = 1) : callF T 356 xs = retF [.t 2] false (evX (orc T) T 0 b356 ⟨argEnv xs, [], 1⟩) := callF_eq CPow.h356 hn
@[simp] theorem x357 : callX (orc T) T 357 xs d st = cP T 357 false xs d st := callX_pure CPow.h357
theorem f357 (xs : List AV) (hn : xs.length = 1) : callF T 357 xs = retF [.t 2] false (evX (orc T) T 0 b357 ⟨argEnv xs, [], 1⟩) := callF_eq CPow.h357 hn
end
end Go.Ab
end

section
namespace Go.Ab
def b252 : AX :=
 (.seq
 (.reg [rg 2 (.mov (.c (.sl [] .nl)))])
 (.seq
 (.reg [rg 6 (.call 72 [(.c (u64 10))]), mv 7 0, rg 8 (.call 258 [(.t 6), (.t 7)]), mv 5 8, rg 9 (.ext (.t 5) 0), rg 10 (.ext (.t 5) 1), mv 3 9, mv 4 10])
 (.seq
 (.reg [mv 11 3, mv 2 11])
 (.pre (.norm false [2]) .ret))))
def b253 : AX :=
 (.seq
 (.reg [rg 4 (.mov (.c (.sl [] .nl))), rg 5 (.alloc [(.i .i64 0), (.i .i64 0), (.i .i64 0), (.i .i64 0)])])
 (.seq
 (.reg [mv 9 0, mv 10 1, rg 11 (.slstr (.t 9) (some (.t 10)) none), rg 12 (.call 65 [(.t 11)]), mv 8 12, rg 13 (.ext (.t 8) 0), rg 14 (.ext (.t 8) 1),
 rg 7 (.alloc [(.i .i64 0), (.i .i64 0), (.i .i64 0), (.i .i64 0)]), mv 6 13, so (.store 4 (.t 7) (.t 14))])
 (.seq
 (.seq
 (.reg [rg 15 (.load (some 4) (.t 7)), rg 16 (.build [(.i .i64 0), (.i .i64 0), (.i .i64 0), (.i .i64 0)] []),
 rg 17 (.eqs true [(0, .int), (1, .int), (2, .int), (3, .int)] (.t 15) (.t 16))])
 (.cond (.t 17)
 (.reg [rg 18 (.fad 3 (.t 7)), rg 19 (.load none (.t 18)), mv 20 1, rg 21 (.bin .add (.t 19) (.t 20)), rg 22 (.fad 3 (.t 7)), so (.store 1 (.t 22) (.t 21))])
 .skip))
 (.seq
 (.drawT [mv 23 6, rg 24 (.load (some 4) (.t 7)), mv 4 23]
 [so (.store 4 (.t 5) (.t 24))])
 (.pre (.norm false [4, 5]) .ret)))))
def b254 : AX :=
 (.seq
 (.reg [rg 3 (.xop (.box 2) [(.t 0)]), rg 6 (.alloc [(.b false), (.sl [] .nl), (.sl [] .nl)]),
 rg 7 (.alloc [(.i .i64 0), (.i .i64 0), (.i .i64 0), (.i .i64 0)])])
 (.seq
 (.reg [mv 13 1, mv 14 2, rg 15 (.call 253 [(.t 13), (.t 14)]), mv 12 15, rg 16 (.ext (.t 12) 0), rg 17 (.ext (.t 12) 1),
 rg 9 (.alloc [(.i .i64 0), (.i .i64 0), (.i .i64 0), (.i .i64 0)]), mv 8 16, so (.store 4 (.t 9) (.t 17))])
 (.seq
 (.seq
 (.reg [rg 18 (.load (some 4) (.t 9)), rg 19 (.build [(.i .i64 0), (.i .i64 0), (.i .i64 0), (.i .i64 0)] []),
 rg 20 (.eqs true [(0, .int), (1, .int), (2, .int), (3, .int)] (.t 18) (.t 19))])
 (.cond (.t 20)
 (.seq
 (.draw [⟨rg 21 (.call 205 [(.c (.i .i64 0))]), 0, 0⟩, ⟨rg 22 (.load (some 4) (.t 9)), 0, 1⟩, ⟨so (.store 3 (.t 6) (.t 21)), 0, 1⟩,
 ⟨so (.store 4 (.t 7) (.t 22)), 1, 2⟩])
 (.pre (.norm false [6, 7]) .ret))
 .skip))
 (.seq
 (.reg [rg 24 (.load (some 2) (.t 3)), mv 25 8, rg 26 (.call 204 [(.t 24), (.t 25)]), mv 23 26, rg 27 (.ext (.t 23) 0), rg 28 (.ext (.t 23) 1),
 rg 10 (.alloc [(.b false), (.sl [] .nl), (.sl [] .nl)]), so (.store 3 (.t 10) (.t 27)), mv 11 28])
 (.seq
 (.seq
 (.reg [mv 29 11, rg 30 (.un .not (.t 29))])
 (.cond (.t 30)
 (.seq
 (.reg [rg 31 (.load (some 3) (.t 10)), mv 32 2, rg 33 (.build [(.i .i64 0), (.i .i64 0), (.i .i64 0), (.i .i64 0)] [(0, 1, (.c (.i .i64 2))), (3, 1, (.t 32))]),
 so (.store 3 (.t 6) (.t 31)), so (.store 4 (.t 7) (.t 33))])
 (.pre (.norm false [6, 7]) .ret))
 .skip))
 (.seq
 (.reg [rg 34 (.load (some 3) (.t 10)), rg 35 (.build [(.i .i64 0), (.i .i64 0), (.i .i64 0), (.i .i64 0)] []), so (.store 3 (.t 6) (.t 34)),
 so (.store 4 (.t 7) (.t 35))])
 (.pre (.norm false [6, 7]) .ret)))))))
def b255 : AX :=
 (.seq
 (.reg [rg 4 (.xop (.box 2) [(.t 0)]), rg 8 (.alloc [(.b false), (.sl [] .nl), (.sl [] .nl)]),
 rg 9 (.alloc [(.i .i64 0), (.i .i64 0), (.i .i64 0), (.i .i64 0)])])
 (.seq
 (.reg [mv 17 2, mv 18 3, rg 19 (.call 253 [(.t 17), (.t 18)]), mv 16 19, rg 20 (.ext (.t 16) 0), rg 21 (.ext (.t 16) 1),
 rg 11 (.alloc [(.i .i64 0), (.i .i64 0), (.i .i64 0), (.i .i64 0)]), mv 10 20, so (.store 4 (.t 11) (.t 21))])
 (.seq
 (.seq
 (.reg [rg 22 (.load (some 4) (.t 11)), rg 23 (.build [(.i .i64 0), (.i .i64 0), (.i .i64 0), (.i .i64 0)] []),
 rg 24 (.eqs true [(0, .int), (1, .int), (2, .int), (3, .int)] (.t 22) (.t 23))])
 (.cond (.t 24)
 (.seq
 (.draw [⟨rg 25 (.call 205 [(.c (.i .i64 0))]), 0, 0⟩, ⟨rg 26 (.load (some 4) (.t 11)), 0, 1⟩, ⟨so (.store 3 (.t 8) (.t 25)), 0, 1⟩,
 ⟨so (.store 4 (.t 9) (.t 26)), 1, 2⟩])
 (.pre (.norm false [8, 9]) .ret))
 .skip))
 (.seq
 (.reg [mv 27 2, rg 28 (.lens (.t 27)), mv 29 3, rg 30 (.bin .sub (.t 28) (.t 29)), rg 31 (.call 252 [(.t 30)]), mv 12 31])
 (.seq
 (.reg [rg 32 (.fad 1 (.t 4)), rg 33 (.load none (.t 32)), mv 34 12, rg 35 (.call 60 [(.t 33), (.t 34)]), mv 36 10,
 rg 37 (.bsl 1 [(.sl [] .nl)] 2 [(0, (.t 35)), (1, (.t 36))]), rg 38 (.call 56 [(.t 37)]), mv 13 38])
 (.seq
 (.reg [mv 40 1, mv 41 13, rg 42 (.build [(.b false), (.sl [] .nl)] [(0, 1, (.t 40)), (1, 1, (.t 41))]), mv 43 12, rg 44 (.call 204 [(.t 42), (.t 43)]),
 mv 39 44, rg 45 (.ext (.t 39) 0), rg 46 (.ext (.t 39) 1), rg 14 (.alloc [(.b false), (.sl [] .nl), (.sl [] .nl)]), so (.store 3 (.t 14) (.t 45)),
 mv 15 46])
 (.seq
 (.reg [rg 47 (.load (some 3) (.t 14)), rg 48 (.build [(.i .i64 0), (.i .i64 0), (.i .i64 0), (.i .i64 0)] []), so (.store 3 (.t 8) (.t 47)),
 so (.store 4 (.t 9) (.t 48))])
 (.pre (.norm false [8, 9]) .ret))))))))
def b256 : AX :=
 (.seq
 (.reg [rg 2 (.alloc [(.b false), (.sl [] .nl), (.sl [] .nl)]), rg 3 (.alloc [(.i .i64 0), (.i .i64 0), (.i .i64 0), (.i .i64 0)])])
 (.seq
 (.reg [mv 10 0, rg 11 (.call 344 [(.t 10), (.c (.s [47, 46]))]), mv 4 11])
 (.seq
 (.reg [mv 12 0, mv 5 12])
 (.seq
 (.seq
 (.reg [mv 13 4, rg 14 (.bin .geq (.t 13) (.c (.i .i64 0)))])
 (.cond (.t 14)
 (.reg [mv 15 0, mv 16 4, rg 17 (.slstr (.t 15) none (some (.t 16))), mv 5 17])
 .skip))
 (.seq
 (.reg [mv 19 5, rg 20 (.call 32 [(.t 19)]), mv 18 20, rg 21 (.ext (.t 18) 0), rg 22 (.ext (.t 18) 1), rg 6 (.alloc [(.b false), (.sl [] .nl)]),
 rg 7 (.alloc [(.i .i64 0), (.i .i64 0), (.i .i64 0), (.i .i64 0)]), so (.store 2 (.t 6) (.t 21)), so (.store 4 (.t 7) (.t 22))])
 (.seq
 (.block 0
 (.seq
 (.reg [rg 24 (.load (some 4) (.t 7)), rg 25 (.build [(.i .i64 0), (.i .i64 0), (.i .i64 0), (.i .i64 0)] []),
 rg 26 (.eqs true [(0, .int), (1, .int), (2, .int), (3, .int)] (.t 24) (.t 25)), mv 23 26])
 (.cond (.t 23)
 (.seq
 (.draw [⟨rg 27 (.call 205 [(.c (.i .i64 0))]), 0, 0⟩, ⟨rg 28 (.load (some 4) (.t 7)), 0, 1⟩, ⟨so (.store 3 (.t 2) (.t 27)), 0, 1⟩,
 ⟨so (.store 4 (.t 3) (.t 28)), 1, 2⟩])
 (.pre (.norm false [2, 3]) .ret))
 (.seq
 (.reg [mv 30 4, rg 31 (.bin .lss (.t 30) (.c (.i .i64 0))), mv 29 31])
 (.cond (.t 29)
 (.seq
 (.draw [⟨rg 33 (.load (some 2) (.t 6)), 0, 1⟩, ⟨rg 34 (.call 72 [(.c (u64 1))]), 0, 1⟩, ⟨rg 35 (.call 204 [(.t 33), (.t 34)]), 0, 1⟩, ⟨mv 32 35, 0, 1⟩,
 ⟨rg 36 (.ext (.t 32) 0), 0, 1⟩, ⟨rg 37 (.ext (.t 32) 1), 0, 2⟩, ⟨rg 8 (.alloc [(.b false), (.sl [] .nl), (.sl [] .nl)]), 0, 1⟩,
 ⟨so (.store 3 (.t 8) (.t 36)), 1, 2⟩, ⟨mv 9 37, 2, 2⟩])
 (.seq
 (.reg [rg 38 (.load (some 3) (.t 8)), rg 39 (.build [(.i .i64 0), (.i .i64 0), (.i .i64 0), (.i .i64 0)] []), so (.store 3 (.t 2) (.t 38)),
 so (.store 4 (.t 3) (.t 39))])
 (.pre (.norm false [2, 3]) .ret)))
 (.seq
 (.reg [mv 41 0, mv 42 4, rg 43 (.ixs (.t 41) (.t 42)), rg 44 (.bin .eql (.t 43) (.c (u8 47))), mv 40 44])
 (.cond (.t 40)
 (.seq
 (.reg [rg 45 (.load (some 2) (.t 6)), mv 46 0, mv 47 4, rg 48 (.bin .add (.t 47) (.c (.i .i64 1))), rg 49 (.call 254 [(.t 45), (.t 46), (.t 48)]),
 rg 50 (.ext (.t 49) 0), rg 51 (.ext (.t 49) 1), so (.store 3 (.t 2) (.t 50)), so (.store 4 (.t 3) (.t 51))])
 (.pre (.norm false [2, 3]) .ret))
 .skip)))))))
 (.seq
 (.drawT [rg 52 (.load (some 2) (.t 6)), mv 53 0, rg 54 (.call 345 [(.t 53), (.c (.s [45]))]), mv 55 0, mv 56 4, rg 57 (.bin .add (.t 56) (.c (.i .i64 1))),
 rg 58 (.call 255 [(.t 52), (.t 54), (.t 55), (.t 57)]), rg 59 (.ext (.t 58) 0), rg 60 (.ext (.t 58) 1)]
 [so (.store 3 (.t 2) (.t 59)), so (.store 4 (.t 3) (.t 60))])
 (.pre (.norm false [2, 3]) .ret))))))))
def b257 : AX :=
 (.seq
 (.reg [rg 2 (.xop (.box 3) [(.t 0)]), rg 4 (.mov (.c (.s [])))])
 (.seq
 (.reg [mv 16 1, rg 17 (.mm true [(.t 16), (.c (.i .i64 0))]), rg 18 (.mm false [(.t 17), (.c (.i .i64 60))]), mv 1 18])
 (.seq
 (.reg [mv 19 1, rg 20 (.call 252 [(.t 19)]), rg 21 (.build [(.b false), (.sl [] .nl)] [(1, 1, (.t 20))]), rg 5 (.alloc [(.b false), (.sl [] .nl)]),
 so (.store 2 (.t 5) (.t 21))])
 (.seq
 (.draw [⟨rg 23 (.load (some 2) (.t 5)), 0, 1⟩, ⟨rg 24 (.call 72 [(.c (u64 1))]), 0, 1⟩, ⟨rg 25 (.call 204 [(.t 23), (.t 24)]), 0, 1⟩, ⟨mv 22 25, 0, 1⟩,
 ⟨rg 26 (.ext (.t 22) 0), 0, 1⟩, ⟨rg 27 (.ext (.t 22) 1), 0, 2⟩, ⟨rg 6 (.alloc [(.b false), (.sl [] .nl), (.sl [] .nl)]), 0, 1⟩,
 ⟨so (.store 3 (.t 6) (.t 26)), 1, 2⟩, ⟨mv 7 27, 2, 2⟩])
 (.seq
 (.reg [rg 29 (.call 206 [(.c (.i .i64 1)), (.c (.i .i64 2))]), mv 28 29, rg 30 (.ext (.t 28) 0), rg 31 (.ext (.t 28) 1),
 rg 8 (.alloc [(.b false), (.sl [] .nl), (.sl [] .nl)]), so (.store 3 (.t 8) (.t 30)), mv 9 31])
 (.seq
 (.draw [⟨rg 32 (.load (some 3) (.t 2)), 0, 1⟩, ⟨rg 33 (.call 214 [(.t 32)]), 0, 1⟩, ⟨rg 34 (.load (some 3) (.t 6)), 0, 1⟩,
 ⟨rg 35 (.call 217 [(.t 33), (.t 34)]), 0, 1⟩, ⟨rg 36 (.load (some 3) (.t 8)), 0, 1⟩, ⟨rg 37 (.call 215 [(.t 35), (.t 36)]), 0, 1⟩,
 ⟨rg 38 (.call 222 [(.t 37)]), 0, 1⟩, ⟨rg 10 (.alloc [(.b false), (.sl [] .nl)]), 0, 1⟩, ⟨so (.store 2 (.t 10) (.t 38)), 1, 2⟩])
 (.seq
 (.reg [rg 40 (.load (some 2) (.t 10)), rg 41 (.load (some 2) (.t 5)), rg 42 (.call 29 [(.t 40), (.t 41)]), mv 39 42, rg 43 (.ext (.t 39) 0),
 rg 44 (.ext (.t 39) 1), rg 45 (.ext (.t 39) 2), rg 11 (.alloc [(.b false), (.sl [] .nl)]), rg 12 (.alloc [(.b false), (.sl [] .nl)]),
 so (.store 2 (.t 11) (.t 43)), so (.store 2 (.t 12) (.t 44)), mv 13 45])
 (.seq
 (.reg [rg 46 (.load (some 2) (.t 11)), rg 47 (.call 34 [(.t 46)]), mv 14 47])
 (.seq
 (.seq
 (.reg [mv 48 1, rg 49 (.bin .gtr (.t 48) (.c (.i .i64 0)))])
 (.cond (.t 49)
 (.seq
 (.reg [rg 50 (.load (some 2) (.t 12)), rg 51 (.call 34 [(.t 50)]), mv 15 51])
 (.reg [mv 52 14, mv 53 1, mv 54 15, rg 55 (.lens (.t 54)), rg 56 (.bin .sub (.t 53) (.t 55)), rg 57 (.call 343 [(.c (.s [48])), (.t 56)]),
 rg 58 (.bin .add (.c (.s [46])) (.t 57)), mv 59 15, rg 60 (.bin .add (.t 58) (.t 59)), rg 61 (.bin .add (.t 52) (.t 60)), mv 14 61]))
 .skip))
 (.seq
 (.seq
 (.reg [rg 62 (.load (some 3) (.t 2)), rg 63 (.call 209 [(.t 62)]), rg 64 (.bin .lss (.t 63) (.c (.i .i64 0))), mv 65 64, gd 66 65 true (.load (some 2) (.t 10)),
 gd 67 65 true (.call 37 [(.t 66)]), gd 68 65 true (.bin .neq (.t 67) (.c (.i .i64 0))), rg 69 (.pick (.t 65) (.t 68) (.c (.b false)))])
 (.cond (.t 69)
 (.reg [mv 70 14, rg 71 (.bin .add (.c (.s [45])) (.t 70)), mv 14 71])
 .skip))
 (.seq
 (.reg [mv 72 14, mv 4 72])
 (.pre (.norm false [4]) .ret))))))))))))
class CFig (T : Tbl) : Prop where
 h252 : T 252 = some ⟨1, 12, [.t 2], b252, none, false⟩
 h253 : T 253 = some ⟨2, 25, [.t 4, .cell 5 (some 4)], b253, none, false⟩
 h254 : T 254 = some ⟨3, 36, [.cell 6 (some 3), .cell 7 (some 4)], b254, none, false⟩
 h255 : T 255 = some ⟨4, 49, [.cell 8 (some 3), .cell 9 (some 4)], b255, none, false⟩
 h256 : T 256 = some ⟨1, 61, [.cell 2 (some 3), .cell 3 (some 4)], b256, none, false⟩
 h257 : T 257 = some ⟨2, 73, [.t 4], b257, none, false⟩
section
variable {T : Tbl} [CFig T] {d : Option Nat} {st : St} {xs : List AV} {ps : List Opd} {e : Env} {h : Heap} {ol : List Heap}
@[simp] theorem x252 : callX (orc T) T 252 xs d st = cP T 252 false xs d st := callX_pure CFig.h252
theorem f252 (xs : List AV) (hn : xs.length = 1) : callF T 252 xs = retF [.t 2] false (evX (orc T) T 0 b252 ⟨argEnv xs, [], 1⟩) := callF_eq CFig.h252 hn
@[simp] theorem x253 : callX (orc T) T 253 xs d st = cP T 253 false xs d st := callX_pure CFig.h253
theorem f253 (xs : List AV) (hn : xs.length = 2) : callF T 253 xs = retF [.t 4, .cell 5 (some 4)] false (evX (orc T) T 0 b253 ⟨argEnv xs, [], 1⟩) := callF_eq CFig.h253 hn
@[simp] theorem x254 : callX (orc T) T 254 xs d st = cP T 254 false xs d st := callX_pure CFig.h254
theorem f254 (xs : List AV) (hn : xs.length = 3) : callF T 254 xs = retF [.cell 6 (some 3), .cell 7 (some 4)] false (evX (orc T) T 0 b254 ⟨argEnv xs, [], 1⟩) := callF_eq CFig.h254 hn
@[simp] theorem y255 : opD (orc T) T (.call 255 ps) e h ol = dP T 255 false ps e := opD_call CFig.h255
theorem f255 (xs : List AV) (hn : xs.length = 4) : callF T 255 xs = retF [.cell 8 (some 3), .cell 9 (some 4)] false (evX (orc T) T 0 b255 ⟨argEnv xs, [], 1⟩) := callF_eq CFig.h255 hn
@[simp] theorem x256 : callX (orc T) T 256 xs d st = cP T 256 false xs d st := callX_pure CFig.h256
theorem f256 (xs : List AV) (hn : xs.length = 1) : callF T 256 xs = retF [.cell 2 (some 3), .cell 3 (some 4)] false (evX (orc T) T 0 b256 ⟨argEnv xs, [], 1⟩) := callF_eq CFig.h256 hn
@[simp] theorem x257 : callX (orc T) T 257 xs d st = cP T 257 false xs d st := callX_pure CFig.h257
@[simp] theorem y257 : opD (orc T) T (.call 257 ps) e h ol = dP T 257 false ps e := opD_call CFig.h257
theorem f257 (xs : List AV) (hn : xs.length = 2) : callF T 257 xs = retF [.t 4] false (evX (orc T) T 0 b257 ⟨argEnv xs, [], 1⟩) := callF_eq CFig.h257 hn
end
end Go.Ab
end

section
namespace Go.Ab
def isD (c : UInt8) : Bool := decide (48 ≤ c.toNat) && decide (c.toNat ≤ 57)
def isL (c : UInt8) : Bool := decide (97 ≤ c.toNat) && decide (c.toNat ≤ 122) || decide (65 ≤ c.toNat) && decide (c.toNat ≤ 90) || decide (c.toNat = 95)
def signB : List UInt8 := [43, 45, 42, 47, 94, 40, 41, 91, 93, 44, 59, 61]
def isS (c : UInt8) : Bool := signB.contains c
def kindN (c : UInt8) : Nat := if isD c then 1 else if isL c then 2 else if isS c then 3 else 0
def moreN (k : Nat) (c : UInt8) : Bool := decide (k = 1) && isD c || decide (k = 2) && (isL c || isD c)
def mostN (k : Nat) : Nat := if k = 1 then 60 else if k = 2 then 12 else 1
def isB (c : UInt8) : Bool := decide (c = 32) || decide (c = 9) || decide (c = 10) || decide (c = 13)
abbrev Wd := Nat × List UInt8 × Nat
def skipC : Bool → List UInt8 → Nat
 | _, [] => 0
 | note, c :: r =>
  let note' := if c = 35 then true else if c = 10 then false else note
  if (note' || isB c) = true then 1 + skipC note' r else 0
def firstN (k : Nat) (r : List UInt8) : Nat := 1 + (r.takeWhile (moreN k)).length
def scanL (l : List UInt8) (i : Nat) (acc : List Wd) : Except Nat (List Wd) :=
 match l with
 | [] => .ok acc
 | c :: r =>
  if kindN c = 0 then .error i
  else if mostN (kindN c) < firstN (kindN c) r then .error (i + mostN (kindN c))
  else scanL ((r.drop (firstN (kindN c) r - 1)).drop (skipC false (r.drop (firstN (kindN c) r - 1)))) (i + firstN (kindN c) r + skipC false (r.drop (firstN (kindN c) r - 1)))
   (acc ++ [(kindN c, (c :: r).take (firstN (kindN c) r), i)])
termination_by l.length
decreasing_by simp; omega
def stepWd (c : UInt8) (i : Nat) (acc : List Wd) : List Wd :=
 match acc.getLast? with
 | some (k, t, a) => if a + t.length = i ∧ moreN k c = true then acc.dropLast ++ [(k, t ++ [c], a)] else acc ++ [(kindN c, [c], i)]
 | none => acc ++ [(kindN c, [c], i)]
def badWd (acc : List Wd) : Bool :=
 match acc.getLast? with
 | some (k, t, _) => decide (k = 0) || decide (mostN k < t.length)
 | none => false
def refL : List UInt8 → Nat → Bool → List Wd → Except Nat (List Wd)
 | [], _, _, acc => .ok acc
 | c :: r, i, note, acc =>
  let note' := if c = 35 then true else if c = 10 then false else note
  if (note' || isB c) = true then refL r (i + 1) note' acc
  else if badWd (stepWd c i acc) = true then .error i
  else refL r (i + 1) note' (stepWd c i acc)
def Fresh (acc : List Wd) (i : Nat) (l : List UInt8) : Prop := ∀ k t a, acc.getLast? = some (k, t, a) → a + t.length = i → ∀ c r, l = c :: r → moreN k c = false
def prim187 : List AV → Option AV
 | [.i .u8 n] => if 0 ≤ n ∧ n < 256 then some (.b (isS (UInt8.ofNat n.toNat))) else none
 | _ => none
def prim184 : List AV → Option AV
 | [.s l, .s [10]] => if l.length ≤ 1000000 then some (.tup [.s (l.takeWhile (· != 10)), .s ((l.dropWhile (· != 10)).drop 1), .b (l.contains 10)]) else none
 | _ => none
def textOf : List AV → Option (List UInt8)
 | [.s l] => if l.length ≤ 10000 then some l else none
 | _ => none
def prim183 : List AV → Option AV
 | [.sl els .an, .s sep] => if els.length ≤ 1000 ∧ sep.length ≤ 100 then (els.mapM textOf).map fun ts => .s (List.intercalate sep ts) else none
 | _ => none
def rowsT (l : List (List UInt8)) : List (List AV) := l.map fun s => [.s s]
@[simp] theorem rowsT_length (l : List (List UInt8)) : (rowsT l).length = l.length := by simp [rowsT]
@[simp] theorem rowsT_wk (l : List (List UInt8)) : wkL (rowsT l) = rowsT l := by
 induction l with
 | nil => rfl
 | cons x l ih => simpa [rowsT, wkL, wkR] using ih
end Go.Ab
end

section
namespace Go.Ab
class CJoin (T : Tbl) : Prop where
end Go.Ab
end

section
namespace Go.Ab
def b251 : AX :=
 (.seq
 (.reg [rg 1 (.xop (.box 3) [(.t 0)]), rg 2 (.mov (.c (.s [])))])
 (.seq
 (.reg [rg 4 (.load (some 3) (.t 1)), rg 5 (.call 207 [(.t 4)]), so (.store 3 (.t 1) (.t 5))])
 (.seq
 (.reg [rg 6 (.fad 0 (.t 1)), rg 7 (.load (some 2) (.t 6)), rg 8 (.call 34 [(.t 7)]), mv 3 8])
 (.seq
 (.seq
 (.drawT [rg 9 (.fad 2 (.t 1)), rg 10 (.load none (.t 9)), rg 11 (.call 72 [(.c (u64 1))])]
 [rg 12 (.call 87 [(.t 10), (.t 11)]), rg 13 (.bin .neq (.t 12) (.c (.i .i64 0)))])
 (.cond (.t 13)
 (.reg [mv 14 3, rg 15 (.fad 2 (.t 1)), rg 16 (.load none (.t 15)), rg 17 (.call 68 [(.t 16)]), rg 18 (.bin .add (.c (.s [47])) (.t 17)),
 rg 19 (.bin .add (.t 14) (.t 18)), mv 3 19])
 .skip))
 (.seq
 (.reg [mv 20 3, mv 2 20])
 (.pre (.norm false [2]) .ret))))))
def l263_0 : AX :=
 (.note
 (.seq
 (.reg [rg 12 (.bin .lss (.t 11) (.t 10))])
 (.seq
 (.cond (.t 12)
 .skip
 (.exit 0))
 (.seq
 (.block 1
 (.seq
 (.reg [mv 13 11, mv 4 13])
 (.reg [mv 14 3, mv 15 4, rg 16 (.call 205 [(.c (.i .i64 0))]), rg 17 (.iad 3 (.t 14) (.t 15)), so (.store 3 (.t 17) (.t 16))])))
 (.reg [rg 18 (.bin .add (.t 11) (.c (.i .i64 1))), mv 11 18]))))
 (.norm false [3, 10, 11]))
def b263 : AX :=
 (.seq
 (.reg [rg 2 (.mov (.c (.sl [] .nl)))])
 (.seq
 (.reg [mv 5 0, rg 6 (.mm true [(.t 5), (.c (.i .i64 0))]), rg 7 (.mm false [(.t 6), (.c (.i .i64 300))]), mv 0 7])
 (.seq
 (.reg [mv 8 0, rg 9 (.mks 3 [(.b false), (.sl [] .nl), (.sl [] .nl)] (.t 8) (.t 8)), mv 3 9])
 (.seq
 (.seq
 (.reg [mv 10 0, rg 11 (.mov (.c (.i .i64 0)))])
 (.lp 0 (.norm false [3, 10, 11]) l263_0 (.norm false [3])))
 (.seq
 (.reg [mv 19 3, mv 2 19])
 (.pre (.norm false [2]) .ret))))))
def b264 : AX :=
 (.seq
 (.reg [rg 4 (.mov (.c (.sl [] .nl)))])
 (.seq
 (.reg [mv 6 0, rg 7 (.call 2263 [(.t 6)]), mv 5 7])
 (.seq
 (.seq
 (.reg [mv 8 1, rg 9 (.bin .geq (.t 8) (.c (.i .i64 0))), mv 10 9, gd 11 10 true (.mov (.t 1)), gd 12 10 true (.mov (.t 5)), gd 13 10 true (.len (.t 12)),
 gd 14 10 true (.bin .lss (.t 11) (.t 13)), rg 15 (.pick (.t 10) (.t 14) (.c (.b false)))])
 (.cond (.t 15)
 (.reg [mv 16 5, mv 17 1, rg 18 (.call 205 [(.c (.i .i64 1))]), rg 19 (.iad 3 (.t 16) (.t 17)), so (.store 3 (.t 19) (.t 18))])
 .skip))
 (.seq
 (.reg [mv 20 5, mv 4 20])
 (.pre (.norm false [4]) .ret)))))
def l266_0 : AX :=
 (.note
 (.seq
 (.reg [rg 9 (.bin .lss (.t 8) (.t 7))])
 (.seq
 (.cond (.t 9)
 .skip
 (.exit 0))
 (.seq
 (.block 1
 (.seq
 (.reg [rg 10 (.iad 3 (.t 6) (.t 8)), rg 11 (.load (some 3) (.t 10)), rg 5 (.alloc [(.b false), (.sl [] .nl), (.sl [] .nl)]), so (.store 3 (.t 5) (.t 11))])
 (.reg [mv 12 3, rg 13 (.load (some 3) (.t 5)), rg 14 (.call 207 [(.t 13)]), rg 15 (.bsl 3 [(.b false), (.sl [] .nl), (.sl [] .nl)] 1 [(0, (.t 14))]),
 rg 16 (.app 3 (.t 12) (.t 15)), mv 3 16])))
 (.reg [rg 17 (.bin .add (.t 8) (.c (.i .i64 1))), mv 8 17]))))
 (.norm false [3, 6, 7, 8]))
def b266 : AX :=
 (.seq
 (.reg [rg 2 (.mov (.c (.sl [] .nl)))])
 (.seq
 (.note (.reg [rg 3 (.mov (.c (.sl [] .nl)))]) (.nil 3 3))
 (.seq
 (.seq
 (.reg [mv 6 0, rg 7 (.len (.t 6)), rg 8 (.mov (.c (.i .i64 0)))])
 (.lp 0 (.norm false [3, 6, 7, 8]) l266_0 (.norm false [3])))
 (.seq
 (.reg [mv 18 3, mv 2 18])
 (.pre (.norm false [2]) .ret)))))
class CRow (T : Tbl) : Prop where
 h251 : T 251 = some ⟨1, 21, [.t 2], b251, none, false⟩
 h263 : T 263 = some ⟨1, 20, [.t 2], b263, none, false⟩
 h264 : T 264 = some ⟨2, 21, [.t 4], b264, none, false⟩
 h266 : T 266 = some ⟨1, 19, [.t 2], b266, none, false⟩
section
variable {T : Tbl} [CRow T] {d : Option Nat} {st : St} {xs : List AV} {ps : List Opd} {e : Env} {h : Heap} {ol : List Heap}
@[simp] theorem x251 : callX (orc T) T 251 xs d st = cP T 251 false xs d st := callX_pure CRow.h251
@[simp] theorem y251 : opD (orc T) T (.call 251 ps) e h ol = dP T 251 false ps e := opD_call CRow.h251
theorem f251 (xs : List AV) (hn : xs.length = 1) : callF T 251 xs = retF [.t 2] false (evX (orc T) T 0 b251 ⟨argEnv xs, [], 1⟩) := callF_eq CRow.h251 hn
theorem f263 (xs : List AV) (hn : xs.length = 1) : callF T 263 xs = retF [.t 2] false (evX (orc T) T 0 b263 ⟨argEnv xs, [], 1⟩) := callF_eq CRow.h263 hn
theorem f264 (xs : List AV) (hn : xs.length = 2) : callF T 264 xs = retF [.t 4] false (evX (orc T) T 0 b264 ⟨argEnv xs, [], 1⟩) := callF_eq CRow.h264 hn
theorem f266 (xs : List AV) (hn : xs.length = 1) : callF T 266 xs = retF [.t 2] false (evX (orc T) T 0 b266 ⟨argEnv xs, [], 1⟩) := callF_eq CRow.h266 hn
end
end Go.Ab
end

section
namespace Go.Ab
class CRow2 (T : Tbl) : Prop where
end Go.Ab
end

section
namespace Go.Ab
def l43_0 : AX :=
 (.note
 (.seq
 (.seq
 (.reg [⟨(some 6), none, .mov (.t 3)⟩,
 ⟨(some 7), none, .bin .gtr (.t 6) (.c (.i .i64 0))⟩,
 ⟨(some 8), none, .mov (.t 7)⟩,
 ⟨(some 9), (some (8, true)), .mov (.t 0)⟩,
 ⟨(some 10), (some (8, true)), .mov (.t 3)⟩,
 ⟨(some 11), (some (8, true)), .bin .sub (.t 10) (.c (.i .i64 1))⟩,
 ⟨(some 12), (some (8, true)), .iad 1 (.t 9) (.t 11)⟩,
 ⟨(some 13), (some (8, true)), .load none (.t 12)⟩,
 ⟨(some 14), (some (8, true)), .bin .eql (.t 13) (.c (u32 0))⟩,
 ⟨(some 15), none, .pick (.t 8) (.t 14) (.c (.b false))⟩])
 (.cond (.t 15)
 .skip
 (.exit 0)))
 (.block 1
 (.reg [⟨(some 16), none, .mov (.t 3)⟩,
 ⟨(some 17), none, .bin .sub (.t 16) (.c (.i .i64 1))⟩,
 ⟨(some 3), none, .mov (.t 17)⟩])))
 (.norm false [0, 3]))
def b43 : AX :=
 (.seq
 (.reg [⟨(some 2), none, .mov (.c (.sl [] .nl))⟩])
 (.seq
 (.reg [⟨(some 4), none, .mov (.t 0)⟩,
 ⟨(some 5), none, .len (.t 4)⟩,
 ⟨(some 3), none, .mov (.t 5)⟩])
 (.seq
 (.lp 0 (.norm false [0, 3]) l43_0 (.norm false [0, 3]))
 (.seq
 (.reg [⟨(some 18), none, .bsl 1 [(u32 0)] 0 []⟩,
 ⟨(some 19), none, .mov (.t 0)⟩,
 ⟨(some 20), none, .mov (.t 3)⟩,
 ⟨(some 21), none, .slc 1 (.t 19) none (some (.t 20)) none⟩,
 ⟨(some 22), none, .app 1 (.t 18) (.t 21)⟩,
 ⟨(some 2), none, .mov (.t 22)⟩])
 (.pre (.norm false [2]) .ret)))))
def b84 : AX :=
 (.seq
 (.reg [⟨(some 4), none, .mov (.c (u32 0))⟩])
 (.seq
 (.seq
 (.reg [⟨(some 5), none, .mov (.t 1)⟩,
 ⟨(some 6), none, .mov (.t 0)⟩,
 ⟨(some 7), none, .len (.t 6)⟩,
 ⟨(some 8), none, .bin .lss (.t 5) (.t 7)⟩])
 (.cond (.t 8)
 (.seq
 (.reg [⟨(some 9), none, .mov (.t 0)⟩,
 ⟨(some 10), none, .mov (.t 1)⟩,
 ⟨(some 11), none, .iad 1 (.t 9) (.t 10)⟩,
 ⟨(some 12), none, .load none (.t 11)⟩,
 ⟨(some 4), none, .mov (.t 12)⟩])
 (.pre (.norm false [4]) .ret))
 .skip))
 (.seq
 (.reg [⟨(some 4), none, .mov (.c (u32 0))⟩])
 (.pre (.norm false [4]) .ret))))
def l52_0 : AX :=
 (.note
 (.seq
 (.seq
 (.reg [⟨(some 14), none, .mov (.t 5)⟩,
 ⟨(some 15), none, .bin .geq (.t 14) (.c (.i .i64 0))⟩])
 (.cond (.t 15)
 .skip
 (.exit 0)))
 (.seq
 (.block 1
 (.seq
 (.reg [⟨(some 18), none, .mov (.t 0)⟩,
 ⟨(some 19), none, .mov (.t 5)⟩,
 ⟨(some 20), none, .call 84 [(.t 18), (.t 19)]⟩,
 ⟨(some 6), none, .mov (.t 20)⟩])
 (.seq
 (.reg [⟨(some 21), none, .mov (.t 1)⟩,
 ⟨(some 22), none, .mov (.t 5)⟩,
 ⟨(some 23), none, .call 84 [(.t 21), (.t 22)]⟩,
 ⟨(some 7), none, .mov (.t 23)⟩])
 (.seq
 (.seq
 (.reg [⟨(some 24), none, .mov (.t 6)⟩,
 ⟨(some 25), none, .mov (.t 7)⟩,
 ⟨(some 26), none, .bin .lss (.t 24) (.t 25)⟩])
 (.cond (.t 26)
 (.seq
 (.reg [⟨(some 4), none, .mov (.c (.i .i64 (-1)))⟩])
 (.pre (.norm false [4]) .ret))
 .skip))
 (.seq
 (.reg [⟨(some 27), none, .mov (.t 6)⟩,
 ⟨(some 28), none, .mov (.t 7)⟩,
 ⟨(some 29), none, .bin .gtr (.t 27) (.t 28)⟩])
 (.cond (.t 29)
 (.seq
 (.reg [⟨(some 4), none, .mov (.c (.i .i64 1))⟩])
 (.pre (.norm false [4]) .ret))
 .skip))))))
 (.reg [⟨(some 16), none, .mov (.t 5)⟩,
 ⟨(some 17), none, .bin .sub (.t 16) (.c (.i .i64 1))⟩,
 ⟨(some 5), none, .mov (.t 17)⟩])))
 (.norm false [0, 1, 5]))
def b52 : AX :=
 (.seq
 (.reg [⟨(some 4), none, .mov (.c (.i .i64 0))⟩])
 (.seq
 (.seq
 (.reg [⟨(some 8), none, .mov (.t 0)⟩,
 ⟨(some 9), none, .len (.t 8)⟩,
 ⟨(some 10), none, .mov (.t 1)⟩,
 ⟨(some 11), none, .len (.t 10)⟩,
 ⟨(some 12), none, .mm true [(.t 9), (.t 11)]⟩,
 ⟨(some 13), none, .bin .sub (.t 12) (.c (.i .i64 1))⟩,
 ⟨(some 5), none, .mov (.t 13)⟩])
 (.lp 0 (.norm false [0, 1, 5]) l52_0 (.norm false [])))
 (.seq
 (.reg [⟨(some 4), none, .mov (.c (.i .i64 0))⟩])
 (.pre (.norm false [4]) .ret))))
def l58_0 : AX :=
 (.note
 (.seq
 (.seq
 (.reg [⟨(some 17), none, .mov (.t 8)⟩,
 ⟨(some 18), none, .mov (.t 5)⟩,
 ⟨(some 19), none, .bin .lss (.t 17) (.t 18)⟩])
 (.cond (.t 19)
 .skip
 (.exit 0)))
 (.seq
 (.block 1
 (.seq
 (.reg [⟨(some 22), none, .mov (.t 7)⟩,
 ⟨(some 23), none, .mov (.t 0)⟩,
 ⟨(some 24), none, .mov (.t 8)⟩,
 ⟨(some 25), none, .call 84 [(.t 23), (.t 24)]⟩,
 ⟨(some 26), none, .conv .u64 (.t 25)⟩,
 ⟨(some 27), none, .mov (.t 1)⟩,
 ⟨(some 28), none, .mov (.t 8)⟩,
 ⟨(some 29), none, .call 84 [(.t 27), (.t 28)]⟩,
 ⟨(some 30), none, .conv .u64 (.t 29)⟩,
 ⟨(some 31), none, .bin .add (.t 26) (.t 30)⟩,
 ⟨(some 32), none, .bin .add (.t 22) (.t 31)⟩,
 ⟨(some 7), none, .mov (.t 32)⟩])
 (.seq
 (.reg [⟨(some 33), none, .mov (.t 6)⟩,
 ⟨(some 34), none, .mov (.t 8)⟩,
 ⟨(some 35), none, .mov (.t 7)⟩,
 ⟨(some 36), none, .bin .rem (.t 35) (.c (u64 4294967296))⟩,
 ⟨(some 37), none, .conv .u32 (.t 36)⟩,
 ⟨(some 38), none, .iad 1 (.t 33) (.t 34)⟩,
 ⟨none, none, .store 1 (.t 38) (.t 37)⟩])
 (.reg [⟨(some 39), none, .mov (.t 7)⟩,
 ⟨(some 40), none, .bin .quo (.t 39) (.c (u64 4294967296))⟩,
 ⟨(some 7), none, .mov (.t 40)⟩]))))
 (.reg [⟨(some 20), none, .mov (.t 8)⟩,
 ⟨(some 21), none, .bin .add (.t 20) (.c (.i .i64 1))⟩,
 ⟨(some 8), none, .mov (.t 21)⟩])))
 (.norm false [0, 1, 5, 6, 7, 8]))
def b58 : AX :=
 (.seq
 (.reg [⟨(some 4), none, .mov (.c (.sl [] .nl))⟩])
 (.seq
 (.reg [⟨(some 9), none, .mov (.t 0)⟩,
 ⟨(some 10), none, .len (.t 9)⟩,
 ⟨(some 11), none, .mov (.t 1)⟩,
 ⟨(some 12), none, .len (.t 11)⟩,
 ⟨(some 13), none, .mm true [(.t 10), (.t 12)]⟩,
 ⟨(some 14), none, .bin .add (.t 13) (.c (.i .i64 1))⟩,
 ⟨(some 5), none, .mov (.t 14)⟩])
 (.seq
 (.reg [⟨(some 15), none, .mov (.t 5)⟩,
 ⟨(some 16), none, .mks 1 [(u32 0)] (.t 15) (.t 15)⟩,
 ⟨(some 6), none, .mov (.t 16)⟩])
 (.seq
 (.reg [⟨(some 7), none, .mov (.c (u64 0))⟩])
 (.seq
 (.seq
 (.reg [⟨(some 8), none, .mov (.c (.i .i64 0))⟩])
 (.lp 0 (.norm false [0, 1, 5, 6, 7, 8]) l58_0 (.norm false [6])))
 (.seq
 (.reg [⟨(some 41), none, .mov (.t 6)⟩,
 ⟨(some 42), none, .call 43 [(.t 41)]⟩,
 ⟨(some 4), none, .mov (.t 42)⟩])
 (.pre (.norm false [4]) .ret)))))))
def l59_0 : AX :=
 (.note
 (.seq
 (.seq
 (.reg [⟨(some 18), none, .mov (.t 8)⟩,
 ⟨(some 19), none, .mov (.t 5)⟩,
 ⟨(some 20), none, .bin .lss (.t 18) (.t 19)⟩])
 (.cond (.t 20)
 .skip
 (.exit 0)))
 (.seq
 (.block 1
 (.seq
 (.reg [⟨(some 23), none, .mov (.t 0)⟩,
 ⟨(some 24), none, .mov (.t 8)⟩,
 ⟨(some 25), none, .call 84 [(.t 23), (.t 24)]⟩,
 ⟨(some 26), none, .conv .u64 (.t 25)⟩,
 ⟨(some 9), none, .mov (.t 26)⟩])
 (.seq
 (.reg [⟨(some 27), none, .mov (.t 1)⟩,
 ⟨(some 28), none, .mov (.t 8)⟩,
 ⟨(some 29), none, .call 84 [(.t 27), (.t 28)]⟩,
 ⟨(some 30), none, .conv .u64 (.t 29)⟩,
 ⟨(some 31), none, .mov (.t 7)⟩,
 ⟨(some 32), none, .bin .add (.t 30) (.t 31)⟩,
 ⟨(some 10), none, .mov (.t 32)⟩])
 (.seq
 (.reg [⟨(some 7), none, .mov (.c (u64 0))⟩])
 (.seq
 (.seq
 (.reg [⟨(some 33), none, .mov (.t 9)⟩,
 ⟨(some 34), none, .mov (.t 10)⟩,
 ⟨(some 35), none, .bin .lss (.t 33) (.t 34)⟩])
 (.cond (.t 35)
 (.seq
 (.reg [⟨(some 36), none, .mov (.t 9)⟩,
 ⟨(some 37), none, .bin .add (.t 36) (.c (u64 4294967296))⟩,
 ⟨(some 9), none, .mov (.t 37)⟩])
 (.reg [⟨(some 7), none, .mov (.c (u64 1))⟩]))
 .skip))
 (.reg [⟨(some 38), none, .mov (.t 6)⟩,
 ⟨(some 39), none, .mov (.t 8)⟩,
 ⟨(some 40), none, .mov (.t 9)⟩,
 ⟨(some 41), none, .mov (.t 10)⟩,
 ⟨(some 42), none, .bin .sub (.t 40) (.t 41)⟩,
 ⟨(some 43), none, .conv .u32 (.t 42)⟩,
 ⟨(some 44), none, .iad 1 (.t 38) (.t 39)⟩,
 ⟨none, none, .store 1 (.t 44) (.t 43)⟩]))))))
 (.reg [⟨(some 21), none, .mov (.t 8)⟩,
 ⟨(some 22), none, .bin .add (.t 21) (.c (.i .i64 1))⟩,
 ⟨(some 8), none, .mov (.t 22)⟩])))
 (.norm false [0, 1, 5, 6, 7, 8]))
def b59 : AX :=
 (.seq
 (.reg [⟨(some 4), none, .mov (.c (.sl [] .nl))⟩])
 (.seq
 (.reg [⟨(some 11), none, .mov (.t 0)⟩,
 ⟨(some 12), none, .len (.t 11)⟩,
 ⟨(some 13), none, .mov (.t 1)⟩,
 ⟨(some 14), none, .len (.t 13)⟩,
 ⟨(some 15), none, .mm true [(.t 12), (.t 14)]⟩,
 ⟨(some 5), none, .mov (.t 15)⟩])
 (.seq
 (.reg [⟨(some 16), none, .mov (.t 5)⟩,
 ⟨(some 17), none, .mks 1 [(u32 0)] (.t 16) (.t 16)⟩,
 ⟨(some 6), none, .mov (.t 17)⟩])
 (.seq
 (.reg [⟨(some 7), none, .mov (.c (u64 0))⟩])
 (.seq
 (.seq
 (.reg [⟨(some 8), none, .mov (.c (.i .i64 0))⟩])
 (.lp 0 (.norm false [0, 1, 5, 6, 7, 8]) l59_0 (.norm false [6])))
 (.seq
 (.reg [⟨(some 45), none, .mov (.t 6)⟩,
 ⟨(some 46), none, .call 43 [(.t 45)]⟩,
 ⟨(some 4), none, .mov (.t 46)⟩])
 (.pre (.norm false [4]) .ret)))))))
class CRef02 (T : Tbl) : Prop where
 h43 : T 43 = some ⟨1, 23, [.t 2], b43, none, false⟩
 h84 : T 84 = some ⟨2, 13, [.t 4], b84, none, false⟩
 h52 : T 52 = some ⟨2, 30, [.t 4], b52, none, false⟩
 h58 : T 58 = some ⟨2, 43, [.t 4], b58, none, false⟩
 h59 : T 59 = some ⟨2, 47, [.t 4], b59, none, false⟩
section
variable {T : Tbl} [CRef02 T] {d : Option Nat} {st : St}
@[simp] theorem x43 (xs : List AV) : callX (orc T) T 43 xs d st = bL (frzL st.heap xs) fun ys => cR (callF T 43 (ys.map (wkIf false))) xs d st := callX_pure CRef02.h43
theorem f43 (xs : List AV) (hn : xs.length = 1) : callF T 43 xs = retF [.t 2] false (evX (orc T) T 0 b43 ⟨argEnv xs, [], 1⟩) := callF_eq CRef02.h43 hn
@[simp] theorem x84 (xs : List AV) : callX (orc T) T 84 xs d st = bL (frzL st.heap xs) fun ys => cR (callF T 84 (ys.map (wkIf false))) xs d st := callX_pure CRef02.h84
theorem f84 (xs : List AV) (hn : xs.length = 2) : callF T 84 xs = retF [.t 4] false (evX (orc T) T 0 b84 ⟨argEnv xs, [], 1⟩) := callF_eq CRef02.h84 hn
@[simp] theorem x52 (xs : List AV) : callX (orc T) T 52 xs d st = bL (frzL st.heap xs) fun ys => cR (callF T 52 (ys.map (wkIf false))) xs d st := callX_pure CRef02.h52
theorem f52 (xs : List AV) (hn : xs.length = 2) : callF T 52 xs = retF [.t 4] false (evX (orc T) T 0 b52 ⟨argEnv xs, [], 1⟩) := callF_eq CRef02.h52 hn
@[simp] theorem x58 (xs : List AV) : callX (orc T) T 58 xs d st = bL (frzL st.heap xs) fun ys => cR (callF T 58 (ys.map (wkIf false))) xs d st := callX_pure CRef02.h58
@[simp] theorem y58 {e : Env} {h : Heap} {older : List Heap} (args : List Opd) : opD (orc T) T (.call 58 args) e h older = dR (callF T 58 ((args.map (ev e.get)).map (wkIf false))) (args.map (ev e.get)) := opD_call CRef02.h58
theorem f58 (xs : List AV) (hn : xs.length = 2) : callF T 58 xs = retF [.t 4] false (evX (orc T) T 0 b58 ⟨argEnv xs, [], 1⟩) := callF_eq CRef02.h58 hn
@[simp] theorem y59 {e : Env} {h : Heap} {older : List Heap} (args : List Opd) : opD (orc T) T (.call 59 args) e h older = dR (callF T 59 ((args.map (ev e.get)).map (wkIf false))) (args.map (ev e.get)) := opD_call CRef02.h59
theorem f59 (xs : List AV) (hn : xs.length = 2) : callF T 59 xs = retF [.t 4] false (evX (orc T) T 0 b59 ⟨argEnv xs, [], 1⟩) := callF_eq CRef02.h59 hn
end
end Go.Ab
end

section
namespace Go.Ab
section
variable {T : Tbl}
theorem ref02_norm_loop (a : List UInt32) (hl : a.length < 9223372036854775808) {n : Nat} (hn : n ≤ a.length) (h0 : ∀ (i : Nat) (x : UInt32), n ≤ i → a[i]? = some x → x.toNat = 0) (h1 : ∀ x : UInt32, 0 < n → a[n - 1]? = some x → x.toNat ≠ 0) :
  ∀ m : Nat, (n ≤ m ∧ m ≤ a.length) → loopN T 0 0 (.norm false [0, 3]) l43_0 ⟨[(0, .sl (u32s a) .an), (3, .i .i64 (m : Int))], [], 2⟩ = some (.n, ⟨[(0, .sl (u32s a) .an), (3, .i .i64 (n : Int))], [], 2⟩) := by
 refine loopN_eq (fun m : Nat => ⟨[(0, .sl (u32s a) .an), (3, .i .i64 (m : Int))], [], 2⟩) _ (fun m => m) _ ?_
 rintro m ⟨hm, hma⟩
 by_cases h2 : m = 0
 ·right
  subst h2
  have : n = 0 := by omega
  subst this
  constructor <;> simp [l43_0]
 ·have hw : IntKind.wrap .i64 ((m : Int) - 1) = ((m - 1 : Nat) : Int) := by rw [wrap_i64 _ (by omega)]; omega
  have hm1 : m - 1 < a.length := by omega
  have hg : a[m - 1]? = some (a[m - 1]'hm1) := List.getElem?_eq_getElem hm1
  have hpos : 0 < m := by omega
  by_cases h3 : m = n
  ·right
   subst h3
   have hx := h1 _ hpos hg
   constructor <;> simp [l43_0, hpos, hw, hm1, hx]
  ·left
   refine ⟨m - 1, ⟨by omega, by omega⟩, by show m - 1 < m; omega, ?_, rfl⟩
   have hx := h0 (m - 1) _ (by omega) hg
   simp [l43_0, hpos, hw, hm1, hx]
end
section
variable {T : Tbl} [CRef02 T]
theorem ref02_norm (a : List UInt32) (hl : a.length ≤ 1000000) : callF T 43 [.sl (u32s a) .an] = some (.sl (u32s (ofN (val a))) .an) := by
 obtain ⟨n, h1, h2, h3, h4⟩ := ofN_take a
 have hr := ref02_norm_loop (T := T) a (by omega) h1 h3 h4 a.length ⟨h1, Nat.le_refl _⟩
 have hlen : (ofN (val a)).length = n := by rw [← h2]; simp; omega
 have hb : n ≤ 4294967296 := by omega
 have hb2 : (ofN (val a)).length ≤ 4294967296 := by omega
 rw [f43 _ rfl, b43]
 simp [hr, h1, h2, hlen, hb]
 rw [List.take_of_length_le (by omega)]
def atW (a : List UInt32) (i : Nat) : Nat := (a[i]?.map UInt32.toNat).getD 0
theorem atW_lt (a : List UInt32) (i : Nat) : atW a i < 4294967296 := by
 unfold atW
 cases a[i]? with
 | none => decide
 | some x => exact u32_lt x
theorem val_take_atW (a : List UInt32) (i : Nat) : val (a.take (i + 1)) = val (a.take i) + 4294967296 ^ i * atW a i := by
 unfold atW
 cases h : a[i]? with
 | some x => exact val_take_succ h
 | none =>
  have : a.length ≤ i := by
   rcases Nat.lt_or_ge i a.length with h1 | h1
   ·rw [List.getElem?_eq_getElem h1] at h; cases h
   ·exact h1
  rw [val_take_all (by omega), val_take_all this]
  simp
theorem ref02_at (a : List UInt32) (i : Nat) (_hl : a.length ≤ 1000000) : callF T 84 [.sl (u32s a) .an, .i .i64 i] = some (u32 (atW a i)) := by
 rw [f84 _ rfl, b84]
 unfold atW
 by_cases h : i < a.length
 ·have hg : a[i]? = some (a[i]'h) := List.getElem?_eq_getElem h
  simp [h]
 ·have hg : a[i]? = none := List.getElem?_eq_none (by omega)
  simp [h]
theorem ref02_cmp_loop (a b : List UInt32) (hl : a.length ≤ 1000000) (hl2 : b.length ≤ 1000000) : ∀ m : Nat, m ≤ 1000000 →
  loopN T 0 0 (.norm false []) l52_0 ⟨[(0, .sl (u32s a) .an), (1, .sl (u32s b) .an), (5, .i .i64 ((m : Int) - 1))], [], 2⟩ =
   if val (a.take m) < val (b.take m) then some (.r, ⟨[(4, .i .i64 (-1))], [], 2⟩) else if val (b.take m) < val (a.take m) then some (.r, ⟨[(4, .i .i64 1)], [], 2⟩) else some (.n, ⟨[], [], 2⟩) := by
 refine loopN_eq (fun m : Nat => ⟨[(0, .sl (u32s a) .an), (1, .sl (u32s b) .an), (5, .i .i64 ((m : Int) - 1))], [], 2⟩) _ (fun m => m) _ ?_
 intro m hm
 cases m with
 | zero =>
  right
  constructor <;> simp [l52_0]
 | succ i =>
  have hw : IntKind.wrap .i64 ((i : Int) - 1) = (i : Int) - 1 := wrap_i64 _ (by omega)
  have ca := ref02_at (T := T) a i hl
  have cb := ref02_at (T := T) b i hl2
  have e1 := val_take_atW a i
  have e2 := val_take_atW b i
  have b1 := val_lt (a.take i)
  have b2 := val_lt (b.take i)
  have p1 : 4294967296 ^ (a.take i).length ≤ 4294967296 ^ i := Nat.pow_le_pow_right (by decide) (by simp; omega)
  have p2 : 4294967296 ^ (b.take i).length ≤ 4294967296 ^ i := Nat.pow_le_pow_right (by decide) (by simp; omega)
  rcases Nat.lt_trichotomy (atW a i) (atW b i) with h1 | h1 | h1
  ·right
   have h3 := Nat.mul_le_mul_left (4294967296 ^ i) (show atW a i + 1 ≤ atW b i from h1)
   rw [Nat.mul_add] at h3
   have h2 : val (a.take (i + 1)) < val (b.take (i + 1)) := by omega
   constructor <;> simp [l52_0, ca, cb, h1, h2]
  ·left
   refine ⟨i, by omega, Nat.lt_succ_self i, ?_, ?_⟩
   ·simp [l52_0, ca, cb, h1, hw]
   ·rw [e1, e2, h1]
    have e3 : (val (a.take i) + 4294967296 ^ i * atW b i < val (b.take i) + 4294967296 ^ i * atW b i) = (val (a.take i) < val (b.take i)) := by
     apply propext; omega
    have e4 : (val (b.take i) + 4294967296 ^ i * atW b i < val (a.take i) + 4294967296 ^ i * atW b i) = (val (b.take i) < val (a.take i)) := by
     apply propext; omega
    simp only [e3, e4]
  ·right
   have h3 := Nat.mul_le_mul_left (4294967296 ^ i) (show atW b i + 1 ≤ atW a i from h1)
   rw [Nat.mul_add] at h3
   have h2 : val (b.take (i + 1)) < val (a.take (i + 1)) := by omega
   have h4 : ¬ val (a.take (i + 1)) < val (b.take (i + 1)) := by omega
   have h5 : ¬ atW a i < atW b i := by omega
   constructor <;> simp [l52_0, ca, cb, h1, h2, h4, h5]
theorem ref02_cmp (a b : List UInt32) (ha : a.length ≤ 1000000) (hb : b.length ≤ 1000000) : callF T 52 [.sl (u32s a) .an, .sl (u32s b) .an] = some (.i .i64 (cmpN (val a) (val b))) := by
 have hc := ref02_cmp_loop (T := T) a b ha hb (max a.length b.length) (by omega)
 rw [List.take_of_length_le (by omega), List.take_of_length_le (by omega)] at hc
 have e : (if (a.length : Int) < b.length then (b.length : Int) else a.length) = ((max a.length b.length : Nat) : Int) := by split <;> omega
 have hw : IntKind.wrap .i64 (((max a.length b.length : Nat) : Int) - 1) = ((max a.length b.length : Nat) : Int) - 1 := wrap_i64 _ (by omega)
 rw [f52 _ rfl, b52]
 simp at e hw hc
 simp [e, hw, hc, cmpN]
 repeat' split
 all_goals simp
end
section
variable {T : Tbl} [CRef02 T]
def stAdd2 (a b : List UInt32) (n : Nat) (y : Nat × Nat × List UInt32) : St :=
 ⟨[(0, .sl (u32s a) .an), (1, .sl (u32s b) .an), (5, .i .i64 n), (6, .bs (.loc 16) 1 1 0 n), (7, u64 y.2.1), (8, .i .i64 y.1)], [(.loc 16, ⟨1, .own, 1, u32s y.2.2⟩)], 3⟩
theorem ref02_add_loop (a b : List UInt32) (n : Nat) (ha : a.length ≤ 1000000) (hb : b.length ≤ 1000000) (hn : n ≤ 1000001) : ∀ y : Nat × Nat × List UInt32,
  (y.1 ≤ n ∧ y.2.1 ≤ 1 ∧ y.2.2.length = n ∧ val (y.2.2.take y.1) + 4294967296 ^ y.1 * y.2.1 = val (a.take y.1) + val (b.take y.1)) →
  ∃ r, (∃ (c : Nat) (out : List UInt32), r = (Ex.n, (⟨[(6, .bs (.loc 16) 1 1 0 n)], [(.loc 16, ⟨1, .own, 1, u32s out⟩)], 3⟩ : St)) ∧
   out.length = n ∧ c ≤ 1 ∧ val out + 4294967296 ^ n * c = val (a.take n) + val (b.take n)) ∧ loopN T 0 0 (.norm false [6]) l58_0 (stAdd2 a b n y) = some r := by
 refine loopN_ex _ _ (fun y => n - y.1) _ ?_
 rintro ⟨i, c, out⟩ ⟨hi, hc, ho, hv⟩
 simp only at hi hc ho hv
 by_cases h0 : i < n
 ·left
  have hoi : i < out.length := by omega
  have hog : out[i]? = some (out[i]'hoi) := List.getElem?_eq_getElem hoi
  have hw : IntKind.wrap .i64 ((i : Int) + 1) = ((i + 1 : Nat) : Int) := wrap_i64 _ (by omega)
  have ca := ref02_at (T := T) a i ha
  have cb := ref02_at (T := T) b i hb
  have la := atW_lt a i
  have lb := atW_lt b i
  have e1 := val_take_atW a i
  have e2 := val_take_atW b i
  have m1 : atW a i % 18446744073709551616 = atW a i := Nat.mod_eq_of_lt (by omega)
  have m2 : atW b i % 18446744073709551616 = atW b i := Nat.mod_eq_of_lt (by omega)
  have m3 : (c + (atW a i + atW b i)) % 18446744073709551616 = c + (atW a i + atW b i) := Nat.mod_eq_of_lt (by omega)
  have m4 : (c + (atW a i + atW b i)) / 4294967296 % 18446744073709551616 = (c + (atW a i + atW b i)) / 4294967296 := Nat.mod_eq_of_lt (by omega)
  refine ⟨(i + 1, (c + (atW a i + atW b i)) / 4294967296, out.set i (w32 (c + (atW a i + atW b i)))), ⟨h0, by simp only; omega, by simp [ho], ?_⟩, by simp only; omega, ?_⟩
  ·simp only
   rw [val_take_set _ hoi, e1, e2, w32_mod, Nat.pow_succ]
   generalize 4294967296 ^ i = p at *
   generalize atW a i = x at *
   generalize atW b i = z at *
   have e := Nat.div_add_mod (c + (x + z)) 4294967296
   have e2 : p * ((c + (x + z)) % 4294967296) + p * 4294967296 * ((c + (x + z)) / 4294967296) = p * (c + (x + z)) := by
    conv => rhs; rw [← e]
    rw [Nat.mul_add, Nat.mul_assoc]
    omega
   rw [Nat.mul_add, Nat.mul_add] at e2
   omega
  ·simp [l58_0, stAdd2, h0, ca, cb, m1, m2, m3, m4, hog, hw]
 ·right
  have : i = n := by omega
  subst this
  rw [List.take_of_length_le (by omega)] at hv
  refine ⟨_, ⟨c, out, rfl, ho, hc, hv⟩, ?_, ?_⟩ <;> simp [l58_0, stAdd2]
theorem carry_out {p q r x y z c : Nat} (h1 : x + p * 4294967296 * c = y + z) (h2 : c ≤ 1) (h3 : y < q) (h4 : z < r) (h5 : q ≤ p) (h6 : r ≤ p) : x = y + z := by
 rcases (show c = 0 ∨ c = 1 by omega) with h | h
 ·subst h
  rw [Nat.mul_zero, Nat.add_zero] at h1
  exact h1
 ·subst h
  rw [Nat.mul_one] at h1
  omega
theorem ref02_add (a b : List UInt32) (ha : a.length ≤ 100000) (hb : b.length ≤ 100000) : callF T 58 [.sl (u32s a) .an, .sl (u32s b) .an] = some (.sl (u32s (ofN (val a + val b))) .an) := by
 obtain ⟨n, hn⟩ : ∃ n, n = max a.length b.length := ⟨_, rfl⟩
 obtain ⟨_, ⟨c, out, rfl, ho, hc, hv⟩, hr⟩ := ref02_add_loop (T := T) a b (n + 1) (by omega) (by omega) (by omega) (0, 0, List.replicate (n + 1) 0) ⟨Nat.zero_le _, Nat.zero_le _, by simp, by simp⟩
 unfold stAdd2 at hr
 simp at hr
 rw [List.take_of_length_le (by omega), List.take_of_length_le (by omega)] at hv
 have e : (if a.length < b.length then (b.length : Int) else a.length) = (n : Int) := by split <;> omega
 have hw : IntKind.wrap .i64 ((n : Int) + 1) = ((n : Int) + 1) := wrap_i64 _ (by omega)
 have hn1 : (0 : Int) ≤ (n : Int) + 1 := by omega
 have hn2 : (n : Int) + 1 ≤ 4294967296 := by omega
 have hn3 : ((n : Int) + 1).toNat = n + 1 := by omega
 have l1 := val_lt a
 have l2 := val_lt b
 have p1 : 4294967296 ^ a.length ≤ 4294967296 ^ n := Nat.pow_le_pow_right (by decide) (by omega)
 have p2 : 4294967296 ^ b.length ≤ 4294967296 ^ n := Nat.pow_le_pow_right (by decide) (by omega)
 have hval : val out = val a + val b := by
  rw [Nat.pow_succ] at hv
  exact carry_out hv hc l1 l2 p1 p2
 have hnm := ref02_norm (T := T) out (by omega)
 rw [hval] at hnm
 have htk : List.take (n + 1) out = out := List.take_of_length_le (by omega)
 rw [f58 _ rfl, b58]
 simp [e, hw, hn1, hn2, hn3, hr, ho, htk, hnm]
def stSub2 (a b : List UInt32) (n : Nat) (y : Nat × Nat × List UInt32) : St :=
 ⟨[(0, .sl (u32s a) .an), (1, .sl (u32s b) .an), (5, .i .i64 n), (6, .bs (.loc 17) 1 1 0 n), (7, u64 y.2.1), (8, .i .i64 y.1)], [(.loc 17, ⟨1, .own, 1, u32s y.2.2⟩)], 3⟩
theorem ref02_sub_loop (a b : List UInt32) (n : Nat) (ha : a.length ≤ 1000000) (hb : b.length ≤ 1000000) (hn : n ≤ 1000001) : ∀ y : Nat × Nat × List UInt32,
  (y.1 ≤ n ∧ y.2.1 ≤ 1 ∧ y.2.2.length = n ∧ val (y.2.2.take y.1) + val (b.take y.1) = val (a.take y.1) + 4294967296 ^ y.1 * y.2.1) →
  ∃ r, (∃ (c : Nat) (out : List UInt32), r = (Ex.n, (⟨[(6, .bs (.loc 17) 1 1 0 n)], [(.loc 17, ⟨1, .own, 1, u32s out⟩)], 3⟩ : St)) ∧
   out.length = n ∧ c ≤ 1 ∧ val out + val (b.take n) = val (a.take n) + 4294967296 ^ n * c) ∧ loopN T 0 0 (.norm false [6]) l59_0 (stSub2 a b n y) = some r := by
 refine loopN_ex _ _ (fun y => n - y.1) _ ?_
 rintro ⟨i, c, out⟩ ⟨hi, hc, ho, hv⟩
 simp only at hi hc ho hv
 by_cases h0 : i < n
 ·left
  have hoi : i < out.length := by omega
  have hog : out[i]? = some (out[i]'hoi) := List.getElem?_eq_getElem hoi
  have hw : IntKind.wrap .i64 ((i : Int) + 1) = ((i + 1 : Nat) : Int) := wrap_i64 _ (by omega)
  have ca := ref02_at (T := T) a i ha
  have cb := ref02_at (T := T) b i hb
  have la := atW_lt a i
  have lb := atW_lt b i
  have e1 := val_take_atW a i
  have e2 := val_take_atW b i
  have m1 : atW a i % 18446744073709551616 = atW a i := Nat.mod_eq_of_lt (by omega)
  have m2 : atW b i % 18446744073709551616 = atW b i := Nat.mod_eq_of_lt (by omega)
  have m3 : (atW b i + c) % 18446744073709551616 = atW b i + c := Nat.mod_eq_of_lt (by omega)
  have m4 : (atW a i + 4294967296) % 18446744073709551616 = atW a i + 4294967296 := Nat.mod_eq_of_lt (by omega)
  have fin : ∀ s d : Nat, d ≤ 1 → s < 4294967296 → s + (atW b i + c) = atW a i + 4294967296 * d →
    val ((out.set i (w32 s)).take (i + 1)) + val (b.take (i + 1)) = val (a.take (i + 1)) + 4294967296 ^ (i + 1) * d := by
   intro s d hd hs h
   rw [val_take_set _ hoi, e1, e2, w32_of_lt hs, Nat.pow_succ]
   generalize 4294967296 ^ i = p at *
   have e3 : p * s + p * (atW b i + c) = p * atW a i + p * 4294967296 * d := by rw [← Nat.mul_add, h, Nat.mul_add, Nat.mul_assoc]
   rw [Nat.mul_add] at e3
   omega
  by_cases h1 : atW a i < atW b i + c
  ·have hs : sub64 (atW a i + 4294967296) (atW b i + c) = atW a i + 4294967296 - (atW b i + c) := sub64_le (by omega) (by omega)
   have m5 : (atW a i + 4294967296 - (atW b i + c)) % 4294967296 = atW a i + 4294967296 - (atW b i + c) := Nat.mod_eq_of_lt (by omega)
   refine ⟨(i + 1, 1, out.set i (w32 (atW a i + 4294967296 - (atW b i + c)))), ⟨h0, Nat.le_refl _, by simp [ho], fin _ 1 (by omega) (by omega) (by omega)⟩, by simp only; omega, ?_⟩
   simp [l59_0, stSub2, h0, ca, cb, m1, m2, m3, m4, h1, hs, hog, hw]
  ·have hs : sub64 (atW a i) (atW b i + c) = atW a i - (atW b i + c) := sub64_le (by omega) (by omega)
   refine ⟨(i + 1, 0, out.set i (w32 (atW a i - (atW b i + c)))), ⟨h0, Nat.zero_le _, by simp [ho], fin _ 0 (by omega) (by omega) (by omega)⟩, by simp only; omega, ?_⟩
   simp [l59_0, stSub2, h0, ca, cb, m1, m2, m3, h1, hs, hog, hw]
 ·right
  have : i = n := by omega
  subst this
  rw [List.take_of_length_le (by omega)] at hv
  refine ⟨_, ⟨c, out, rfl, ho, hc, hv⟩, ?_, ?_⟩ <;> simp [l59_0, stSub2]
theorem ref02_sub (a b : List UInt32) (ha : a.length ≤ 100000) (hb : b.length ≤ 100000) (hab : val b ≤ val a) : callF T 59 [.sl (u32s a) .an, .sl (u32s b) .an] = some (.sl (u32s (ofN (val a - val b))) .an) := by
 obtain ⟨n, hn⟩ : ∃ n, n = max a.length b.length := ⟨_, rfl⟩
 obtain ⟨_, ⟨c, out, rfl, ho, hc, hv⟩, hr⟩ := ref02_sub_loop (T := T) a b n (by omega) (by omega) (by omega) (0, 0, List.replicate n 0) ⟨Nat.zero_le _, Nat.zero_le _, by simp, by simp⟩
 unfold stSub2 at hr
 simp at hr
 rw [List.take_of_length_le (by omega), List.take_of_length_le (by omega)] at hv
 have e : (if a.length < b.length then (b.length : Int) else a.length) = (n : Int) := by split <;> omega
 have hn2 : (n : Int) ≤ 4294967296 := by omega
 have hlo := val_lt out
 rw [ho] at hlo
 have hval : val out = val a - val b := by
  rcases Nat.eq_zero_or_pos c with h1 | h1
  ·subst h1; omega
  ·have : c = 1 := by omega
   subst this
   omega
 have hnm := ref02_norm (T := T) out (by omega)
 rw [hval] at hnm
 have htk : List.take n out = out := List.take_of_length_le (by omega)
 rw [f59 _ rfl, b59]
 simp [e, hn2, hr, ho, htk, hnm]
end
end Go.Ab
end

section
namespace Go.Ab
def l61_0 : AX :=
 (.note
 (.seq
 (.seq
 (.reg [⟨(some 21), none, .mov (.t 8)⟩,
 ⟨(some 22), none, .mov (.t 1)⟩,
 ⟨(some 23), none, .len (.t 22)⟩,
 ⟨(some 24), none, .bin .lss (.t 21) (.t 23)⟩])
 (.cond (.t 24)
 .skip
 (.exit 2)))
 (.seq
 (.block 3
 (.seq
 (.drawT [⟨(some 27), none, .mov (.t 7)⟩,
 ⟨(some 28), none, .mov (.t 0)⟩,
 ⟨(some 29), none, .mov (.t 6)⟩,
 ⟨(some 30), none, .iad 1 (.t 28) (.t 29)⟩,
 ⟨(some 31), none, .load none (.t 30)⟩,
 ⟨(some 32), none, .conv .u64 (.t 31)⟩,
 ⟨(some 33), none, .mov (.t 1)⟩,
 ⟨(some 34), none, .mov (.t 8)⟩,
 ⟨(some 35), none, .iad 1 (.t 33) (.t 34)⟩,
 ⟨(some 36), none, .load none (.t 35)⟩,
 ⟨(some 37), none, .conv .u64 (.t 36)⟩,
 ⟨(some 38), none, .bin .mul (.t 32) (.t 37)⟩,
 ⟨(some 39), none, .mov (.t 5)⟩,
 ⟨(some 40), none, .mov (.t 6)⟩,
 ⟨(some 41), none, .mov (.t 8)⟩,
 ⟨(some 42), none, .bin .add (.t 40) (.t 41)⟩,
 ⟨(some 43), none, .iad 1 (.t 39) (.t 42)⟩,
 ⟨(some 44), none, .load none (.t 43)⟩,
 ⟨(some 45), none, .conv .u64 (.t 44)⟩,
 ⟨(some 46), none, .bin .add (.t 38) (.t 45)⟩]
 [⟨(some 47), none, .bin .add (.t 27) (.t 46)⟩,
 ⟨(some 7), none, .mov (.t 47)⟩])
 (.seq
 (.reg [⟨(some 48), none, .mov (.t 5)⟩,
 ⟨(some 49), none, .mov (.t 6)⟩,
 ⟨(some 50), none, .mov (.t 8)⟩,
 ⟨(some 51), none, .bin .add (.t 49) (.t 50)⟩,
 ⟨(some 52), none, .mov (.t 7)⟩,
 ⟨(some 53), none, .bin .rem (.t 52) (.c (u64 4294967296))⟩,
 ⟨(some 54), none, .conv .u32 (.t 53)⟩,
 ⟨(some 55), none, .iad 1 (.t 48) (.t 51)⟩,
 ⟨none, none, .store 1 (.t 55) (.t 54)⟩])
 (.reg [⟨(some 56), none, .mov (.t 7)⟩,
 ⟨(some 57), none, .bin .quo (.t 56) (.c (u64 4294967296))⟩,
 ⟨(some 7), none, .mov (.t 57)⟩]))))
 (.reg [⟨(some 25), none, .mov (.t 8)⟩,
 ⟨(some 26), none, .bin .add (.t 25) (.c (.i .i64 1))⟩,
 ⟨(some 8), none, .mov (.t 26)⟩])))
 (.norm false [0, 1, 5, 6, 7, 8]))
def l61_1 : AX :=
 (.note
 (.seq
 (.seq
 (.reg [⟨(some 15), none, .mov (.t 6)⟩,
 ⟨(some 16), none, .mov (.t 0)⟩,
 ⟨(some 17), none, .len (.t 16)⟩,
 ⟨(some 18), none, .bin .lss (.t 15) (.t 17)⟩])
 (.cond (.t 18)
 .skip
 (.exit 0)))
 (.seq
 (.block 1
 (.seq
 (.reg [⟨(some 7), none, .mov (.c (u64 0))⟩])
 (.seq
 (.seq
 (.reg [⟨(some 8), none, .mov (.c (.i .i64 0))⟩])
 (.lp 2 (.norm false [0, 1, 5, 6, 7, 8]) l61_0 (.norm false [0, 1, 5, 6, 7])))
 (.reg [⟨(some 58), none, .mov (.t 5)⟩,
 ⟨(some 59), none, .mov (.t 6)⟩,
 ⟨(some 60), none, .mov (.t 1)⟩,
 ⟨(some 61), none, .len (.t 60)⟩,
 ⟨(some 62), none, .bin .add (.t 59) (.t 61)⟩,
 ⟨(some 63), none, .mov (.t 7)⟩,
 ⟨(some 64), none, .conv .u32 (.t 63)⟩,
 ⟨(some 65), none, .iad 1 (.t 58) (.t 62)⟩,
 ⟨none, none, .store 1 (.t 65) (.t 64)⟩]))))
 (.reg [⟨(some 19), none, .mov (.t 6)⟩,
 ⟨(some 20), none, .bin .add (.t 19) (.c (.i .i64 1))⟩,
 ⟨(some 6), none, .mov (.t 20)⟩])))
 (.norm false [0, 1, 5, 6]))
def b61 : AX :=
 (.seq
 (.reg [⟨(some 4), none, .mov (.c (.sl [] .nl))⟩])
 (.seq
 (.reg [⟨(some 9), none, .mov (.t 0)⟩,
 ⟨(some 10), none, .len (.t 9)⟩,
 ⟨(some 11), none, .mov (.t 1)⟩,
 ⟨(some 12), none, .len (.t 11)⟩,
 ⟨(some 13), none, .bin .add (.t 10) (.t 12)⟩,
 ⟨(some 14), none, .mks 1 [(u32 0)] (.t 13) (.t 13)⟩,
 ⟨(some 5), none, .mov (.t 14)⟩])
 (.seq
 (.seq
 (.reg [⟨(some 6), none, .mov (.c (.i .i64 0))⟩])
 (.lp 0 (.norm false [0, 1, 5, 6]) l61_1 (.norm false [5])))
 (.seq
 (.reg [⟨(some 66), none, .mov (.t 5)⟩,
 ⟨(some 67), none, .call 43 [(.t 66)]⟩,
 ⟨(some 4), none, .mov (.t 67)⟩])
 (.pre (.norm false [4]) .ret)))))
class CRef04 (T : Tbl) : Prop extends CRef02 T where
 h61 : T 61 = some ⟨2, 68, [.t 4], b61, none, false⟩
section
variable {T : Tbl} [CRef04 T] {d : Option Nat} {st : St}
@[simp] theorem x61 (xs : List AV) : callX (orc T) T 61 xs d st = bL (frzL st.heap xs) fun ys => cR (callF T 61 (ys.map (wkIf false))) xs d st := callX_pure CRef04.h61
@[simp] theorem y61 {e : Env} {h : Heap} {older : List Heap} (args : List Opd) : opD (orc T) T (.call 61 args) e h older = dR (callF T 61 ((args.map (ev e.get)).map (wkIf false))) (args.map (ev e.get)) := opD_call CRef04.h61
theorem f61 (xs : List AV) (hn : xs.length = 2) : callF T 61 xs = retF [.t 4] false (evX (orc T) T 0 b61 ⟨argEnv xs, [], 1⟩) := callF_eq CRef04.h61 hn
end
end Go.Ab
end

section
namespace Go.Ab
section
variable {T : Tbl} [CRef04 T]
theorem row_step0 {p m w c c' s x y t v : Nat} (h : m + p * c = s + x * t) (e : w + 4294967296 * c' = x * y + v + c) : (m + p * w) + p * 4294967296 * c' = (s + p * v) + x * (t + p * y) :=
 row_step (k := 0) h e
def stIn4 (P S a b : List UInt32) (y : Nat × Nat × List UInt32) : St :=
 ⟨[(0, .sl (u32s a) .an), (1, .sl (u32s b) .an), (5, .bs (.loc 14) 1 1 0 (P.length + S.length)), (6, .i .i64 P.length), (7, u64 y.2.1), (8, .i .i64 y.1)], [(.loc 14, ⟨1, .own, 1, u32s (P ++ (y.2.2 ++ S.drop y.1))⟩)], 3⟩
end
section
variable {T : Tbl}
theorem in4_loop (P S a b : List UInt32) (x : UInt32) (hxa : a[P.length]? = some x) (hS : b.length < S.length) (hl : P.length + S.length ≤ 1000000) : ∀ y : Nat × Nat × List UInt32,
  (y.1 ≤ b.length ∧ y.2.1 < 4294967296 ∧ y.2.2.length = y.1 ∧ val y.2.2 + 4294967296 ^ y.1 * y.2.1 = val (S.take y.1) + x.toNat * val (b.take y.1)) →
  ∃ r, (∃ (c : Nat) (m : List UInt32), r = (Ex.n, (⟨[(0, .sl (u32s a) .an), (1, .sl (u32s b) .an), (5, .bs (.loc 14) 1 1 0 (P.length + S.length)), (6, .i .i64 P.length), (7, u64 c)], [(.loc 14, ⟨1, .own, 1, u32s (P ++ (m ++ S.drop b.length))⟩)], 3⟩ : St)) ∧
   m.length = b.length ∧ c < 4294967296 ∧ val m + 4294967296 ^ b.length * c = val (S.take b.length) + x.toNat * val b) ∧ loopN T 0 2 (.norm false [0, 1, 5, 6, 7]) l61_0 (stIn4 P S a b y) = some r := by
 refine loopN_ex _ _ (fun y => b.length - y.1) _ ?_
 rintro ⟨i, c, m⟩ ⟨hi, hc, hm, hv⟩
 simp only at hi hc hm hv
 have hPa : P.length < a.length := by
  rcases Nat.lt_or_ge P.length a.length with h | h
  ·exact h
  ·rw [List.getElem?_eq_none h] at hxa; cases hxa
 obtain rfl : a[P.length]'hPa = x := by rw [List.getElem?_eq_getElem hPa] at hxa; cases hxa; rfl
 generalize hX : a[P.length]'hPa = x at hv ⊢
 by_cases h0 : i < b.length
 ·left
  have hb : b[i]? = some (b[i]'h0) := List.getElem?_eq_getElem h0
  have hiS : i < S.length := by omega
  have hs : S[i]? = some (S[i]'hiS) := List.getElem?_eq_getElem hiS
  have hg := get_mid (P := P) hm hiS
  have hw : IntKind.wrap .i64 ((i : Int) + 1) = ((i + 1 : Nat) : Int) := wrap_i64 _ (by omega)
  have hw2 : IntKind.wrap .i64 ((P.length : Int) + i) = ((P.length + i : Nat) : Int) := wrap_i64 _ (by omega)
  have hlb := u32_lt (b[i]'h0)
  have hls := u32_lt (S[i]'hiS)
  have hmul := mul_lt (u32_lt x) hlb
  have hset := set_mid (P := P) (w32 (c + (x.toNat * (b[i]'h0).toNat + (S[i]'hiS).toNat))) hm hiS
  have m1 : x.toNat * (b[i]'h0).toNat % 18446744073709551616 = x.toNat * (b[i]'h0).toNat := Nat.mod_eq_of_lt (by omega)
  have m2 : (x.toNat * (b[i]'h0).toNat + (S[i]'hiS).toNat) % 18446744073709551616 = x.toNat * (b[i]'h0).toNat + (S[i]'hiS).toNat := Nat.mod_eq_of_lt (by omega)
  have m3 : (c + (x.toNat * (b[i]'h0).toNat + (S[i]'hiS).toNat)) % 18446744073709551616 = c + (x.toNat * (b[i]'h0).toNat + (S[i]'hiS).toNat) := Nat.mod_eq_of_lt (by omega)
  have m4 : (c + (x.toNat * (b[i]'h0).toNat + (S[i]'hiS).toNat)) / 4294967296 % 18446744073709551616 = (c + (x.toNat * (b[i]'h0).toNat + (S[i]'hiS).toNat)) / 4294967296 := Nat.mod_eq_of_lt (by omega)
  refine ⟨(i + 1, (c + (x.toNat * (b[i]'h0).toNat + (S[i]'hiS).toNat)) / 4294967296, m ++ [w32 (c + (x.toNat * (b[i]'h0).toNat + (S[i]'hiS).toNat))]), ⟨h0, by simp only; omega, by simp [hm], ?_⟩, by simp only; omega, ?_⟩
  ·simp only
   rw [val_append, val_take_succ hb, val_take_succ hs, Nat.pow_succ, hm]
   simp only [val_cons, val_nil, Nat.mul_zero, Nat.add_zero, w32_mod]
   exact row_step0 hv (by have := Nat.div_add_mod (c + (x.toNat * (b[i]'h0).toNat + (S[i]'hiS).toNat)) 4294967296; omega)
  ·simp at hg hset
   simp -implicitDefEqProofs [l61_0, stIn4, h0, hw, hw2, hiS, hg, hset, hPa, hX, m1, m2, m3, m4]
 ·right
  have hib : i = b.length := by omega
  have hv' : val m + 4294967296 ^ b.length * c = val (S.take b.length) + x.toNat * val b := by
   rw [hib, List.take_of_length_le (Nat.le_refl b.length)] at hv
   exact hv
  refine ⟨(Ex.n, ⟨[(0, .sl (u32s a) .an), (1, .sl (u32s b) .an), (5, .bs (.loc 14) 1 1 0 (P.length + S.length)), (6, .i .i64 P.length), (7, u64 c)], [(.loc 14, ⟨1, .own, 1, u32s (P ++ (m ++ S.drop i))⟩)], 3⟩), ⟨c, m, by rw [hib], by rw [hm, hib], hc, hv'⟩, ?_, ?_⟩ <;> simp -implicitDefEqProofs [l61_0, stIn4, h0]
end
section
variable {T : Tbl} [CRef04 T]
def stMul4 (a b : List UInt32) (y : Nat × List UInt32) : St :=
 ⟨[(0, .sl (u32s a) .an), (1, .sl (u32s b) .an), (5, .bs (.loc 14) 1 1 0 (a.length + b.length)), (6, .i .i64 y.1)], [(.loc 14, ⟨1, .own, 1, u32s (y.2 ++ List.replicate (a.length - y.1) 0)⟩)], 3⟩
end
section
variable {T : Tbl}
theorem mul4_loop (a b : List UInt32) (ha : a.length ≤ 100000) (hb : b.length ≤ 100000) : ∀ y : Nat × List UInt32,
  (y.1 ≤ a.length ∧ y.2.length = b.length + y.1 ∧ val y.2 = val (a.take y.1) * val b) →
  ∃ r, (∃ out : List UInt32, r = (Ex.n, (⟨[(5, .bs (.loc 14) 1 1 0 (a.length + b.length))], [(.loc 14, ⟨1, .own, 1, u32s out⟩)], 3⟩ : St)) ∧ out.length = a.length + b.length ∧ val out = val a * val b) ∧
   loopN T 0 0 (.norm false [5]) l61_1 (stMul4 a b y) = some r := by
 refine loopN_ex _ _ (fun y => a.length - y.1) _ ?_
 rintro ⟨i, X⟩ ⟨hi, hX, hv⟩
 simp only at hi hX hv
 by_cases h0 : i < a.length
 ·left
  have hag : a[i]? = some (a[i]'h0) := List.getElem?_eq_getElem h0
  have hw : IntKind.wrap .i64 ((i : Int) + 1) = ((i + 1 : Nat) : Int) := wrap_i64 _ (by omega)
  have e2 : (X.take i).length = i := by simp; omega
  have e3 : (X.drop i ++ List.replicate (a.length - i) 0).length = a.length + b.length - i := by simp; omega
  obtain ⟨_, ⟨c, m, rfl, hm, hc, hvm⟩, hr⟩ := in4_loop (T := T) (X.take i) (X.drop i ++ List.replicate (a.length - i) 0) a b (a[i]'h0) (by rw [e2]; exact hag) (by simp; omega) (by simp; omega) (0, 0, []) ⟨Nat.zero_le _, Nat.zero_lt_succ _, rfl, by simp⟩
  have e1 : X.take i ++ (X.drop i ++ List.replicate (a.length - i) 0) = X ++ List.replicate (a.length - i) 0 := by rw [← List.append_assoc, List.take_append_drop]
  have e4 : i + (a.length + b.length - i) = a.length + b.length := by omega
  have e6 : (X.drop i ++ List.replicate (a.length - i) 0).take b.length = X.drop i := by
   rw [List.take_append_of_le_length (by simp; omega), List.take_of_length_le (by simp; omega)]
  have hSl : b.length < (X.drop i ++ List.replicate (a.length - i) 0).length := by simp; omega
  have hg := get_mid (P := X.take i) (m := m) hm hSl
  have hset := set_mid (P := X.take i) (m := m) (w32 c) hm hSl
  have e5 : (X.drop i ++ List.replicate (a.length - i) 0).drop (b.length + 1) = List.replicate (a.length - (i + 1)) 0 := by
   rw [List.drop_append, List.drop_of_length_le (by simp; omega), List.drop_replicate]
   simp only [List.nil_append, List.length_drop]
   congr 1
   omega
  unfold stIn4 at hr
  simp only [List.nil_append, List.drop_zero] at hr
  rw [e1, e2, e3, e4] at hr
  rw [e2] at hg hset
  rw [e5] at hset
  rw [e6] at hvm
  generalize hQ : X.take i ++ (m ++ (X.drop i ++ List.replicate (a.length - i) 0).drop b.length) = Q at hr hg hset
  have hw2 : IntKind.wrap .i64 ((i : Int) + b.length) = ((i + b.length : Nat) : Int) := wrap_i64 _ (by omega)
  have hlt : ((i : Int) + b.length) < (a.length : Int) + b.length := by omega
  simp at hr hg hset
  refine ⟨(i + 1, X.take i ++ (m ++ [w32 c])), ⟨h0, by simp only [List.length_append, e2, hm, List.length_singleton]; omega, ?_⟩, by simp only; omega, ?_⟩
  ·simp only
   have e7 := val_append (X.take i) (X.drop i)
   rw [List.take_append_drop, e2] at e7
   rw [val_append, e2, val_append, hm]
   simp only [val_cons, val_nil, Nat.mul_zero, Nat.add_zero, w32_of_lt hc]
   rw [hvm, val_take_succ hag, Nat.add_mul, ← hv, e7, Nat.mul_add]
   rw [Nat.mul_assoc]
   omega
  ·simp -implicitDefEqProofs [l61_1, stMul4, h0, hw, hr, hw2, hlt, hg, hset]
 ·right
  have : i = a.length := by omega
  subst this
  rw [List.take_of_length_le (Nat.le_refl _)] at hv
  refine ⟨_, ⟨X ++ List.replicate (a.length - a.length) 0, rfl, by simp; omega, by simp [hv]⟩, ?_, ?_⟩ <;> simp -implicitDefEqProofs [l61_1, stMul4]
end
section
variable {T : Tbl} [CRef04 T]
theorem ref04_mul (a b : List UInt32) (ha : a.length ≤ 100000) (hb : b.length ≤ 100000) : callF T 61 [.sl (u32s a) .an, .sl (u32s b) .an] = some (.sl (u32s (ofN (val a * val b))) .an) := by
 obtain ⟨_, ⟨out, rfl, ho, hv⟩, hr⟩ := mul4_loop (T := T) a b ha hb (0, List.replicate b.length 0) ⟨Nat.zero_le _, by simp, by simp [val_replicate]⟩
 unfold stMul4 at hr
 simp at hr
 have hw1 : IntKind.wrap .i64 ((a.length : Int) + b.length) = (a.length : Int) + b.length := wrap_i64 _ (by omega)
 have hle : (a.length : Int) + b.length ≤ 4294967296 := by omega
 have hn := ref02_norm (T := T) out (by omega)
 rw [hv] at hn
 have htk : List.take (a.length + b.length) out = out := List.take_of_length_le (by omega)
 have he : b.length + a.length = a.length + b.length := by omega
 rw [he] at hr
 rw [f61 _ rfl, b61]
 simp -implicitDefEqProofs [hw1, hle, hr, ho, htk, hn]
end
end Go.Ab
end

section
namespace Go.Ab
def l122_0 : AX :=
 (.note
 (.seq
 (.seq
 (.reg [⟨(some 21), none, .mov (.t 6)⟩,
 ⟨(some 22), none, .mov (.t 1)⟩,
 ⟨(some 23), none, .bin .rem (.t 22) (.c (.i .i64 32))⟩,
 ⟨(some 24), none, .bin .lss (.t 21) (.t 23)⟩])
 (.cond (.t 24)
 .skip
 (.exit 0)))
 (.seq
 (.block 1
 (.reg [⟨(some 27), none, .mov (.t 5)⟩,
 ⟨(some 28), none, .bin .quo (.t 27) (.c (u32 2))⟩,
 ⟨(some 5), none, .mov (.t 28)⟩]))
 (.reg [⟨(some 25), none, .mov (.t 6)⟩,
 ⟨(some 26), none, .bin .add (.t 25) (.c (.i .i64 1))⟩,
 ⟨(some 6), none, .mov (.t 26)⟩])))
 (.norm false [1, 5, 6]))
def b122 : AX :=
 (.seq
 (.reg [⟨(some 4), none, .mov (.c (.b false))⟩])
 (.seq
 (.seq
 (.reg [⟨(some 7), none, .mov (.t 1)⟩,
 ⟨(some 8), none, .bin .lss (.t 7) (.c (.i .i64 0))⟩,
 ⟨(some 9), none, .mov (.t 8)⟩,
 ⟨(some 10), (some (9, false)), .mov (.t 1)⟩,
 ⟨(some 11), (some (9, false)), .bin .quo (.t 10) (.c (.i .i64 32))⟩,
 ⟨(some 12), (some (9, false)), .mov (.t 0)⟩,
 ⟨(some 13), (some (9, false)), .len (.t 12)⟩,
 ⟨(some 14), (some (9, false)), .bin .geq (.t 11) (.t 13)⟩,
 ⟨(some 15), none, .pick (.t 9) (.c (.b true)) (.t 14)⟩])
 (.cond (.t 15)
 (.seq
 (.reg [⟨(some 4), none, .mov (.c (.b false))⟩])
 (.pre (.norm false [4]) .ret))
 .skip))
 (.seq
 (.reg [⟨(some 16), none, .mov (.t 0)⟩,
 ⟨(some 17), none, .mov (.t 1)⟩,
 ⟨(some 18), none, .bin .quo (.t 17) (.c (.i .i64 32))⟩,
 ⟨(some 19), none, .iad 1 (.t 16) (.t 18)⟩,
 ⟨(some 20), none, .load none (.t 19)⟩,
 ⟨(some 5), none, .mov (.t 20)⟩])
 (.seq
 (.seq
 (.reg [⟨(some 6), none, .mov (.c (.i .i64 0))⟩])
 (.lp 0 (.norm false [1, 5, 6]) l122_0 (.norm false [5])))
 (.seq
 (.reg [⟨(some 29), none, .mov (.t 5)⟩,
 ⟨(some 30), none, .bin .rem (.t 29) (.c (u32 2))⟩,
 ⟨(some 31), none, .bin .eql (.t 30) (.c (u32 1))⟩,
 ⟨(some 4), none, .mov (.t 31)⟩])
 (.pre (.norm false [4]) .ret))))))
def l95_0 : AX :=
 (.note
 (.seq
 (.seq
 (.reg [⟨(some 7), none, .mov (.t 3)⟩,
 ⟨(some 8), none, .bin .gtr (.t 7) (.c (.i .i64 0))⟩,
 ⟨(some 9), none, .mov (.t 8)⟩,
 ⟨(some 10), (some (9, true)), .mov (.t 0)⟩,
 ⟨(some 11), (some (9, true)), .mov (.t 3)⟩,
 ⟨(some 12), (some (9, true)), .bin .sub (.t 11) (.c (.i .i64 1))⟩,
 ⟨(some 13), (some (9, true)), .call 122 [(.t 10), (.t 12)]⟩,
 ⟨(some 14), (some (9, true)), .un .not (.t 13)⟩,
 ⟨(some 15), none, .pick (.t 9) (.t 14) (.c (.b false))⟩])
 (.cond (.t 15)
 .skip
 (.exit 0)))
 (.block 1
 (.reg [⟨(some 16), none, .mov (.t 3)⟩,
 ⟨(some 17), none, .bin .sub (.t 16) (.c (.i .i64 1))⟩,
 ⟨(some 3), none, .mov (.t 17)⟩])))
 (.norm false [0, 3]))
def b95 : AX :=
 (.seq
 (.reg [⟨(some 2), none, .mov (.c (.i .i64 0))⟩])
 (.seq
 (.reg [⟨(some 4), none, .mov (.t 0)⟩,
 ⟨(some 5), none, .len (.t 4)⟩,
 ⟨(some 6), none, .bin .mul (.c (.i .i64 32)) (.t 5)⟩,
 ⟨(some 3), none, .mov (.t 6)⟩])
 (.seq
 (.lp 0 (.norm false [0, 3]) l95_0 (.norm false [3]))
 (.seq
 (.reg [⟨(some 18), none, .mov (.t 3)⟩,
 ⟨(some 2), none, .mov (.t 18)⟩])
 (.pre (.norm false [2]) .ret)))))
def l96_0 : AX :=
 (.note
 (.seq
 (.seq
 (.reg [⟨(some 8), none, .mov (.t 5)⟩,
 ⟨(some 9), none, .mov (.t 0)⟩,
 ⟨(some 10), none, .len (.t 9)⟩,
 ⟨(some 11), none, .bin .lss (.t 8) (.t 10)⟩])
 (.cond (.t 11)
 .skip
 (.exit 0)))
 (.seq
 (.block 1
 (.seq
 (.reg [⟨(some 14), none, .mov (.t 0)⟩,
 ⟨(some 15), none, .mov (.t 5)⟩,
 ⟨(some 16), none, .iad 1 (.t 14) (.t 15)⟩,
 ⟨(some 17), none, .load none (.t 16)⟩,
 ⟨(some 18), none, .bin .quo (.t 17) (.c (u32 2147483648))⟩,
 ⟨(some 6), none, .mov (.t 18)⟩])
 (.seq
 (.reg [⟨(some 19), none, .mov (.t 0)⟩,
 ⟨(some 20), none, .mov (.t 5)⟩,
 ⟨(some 21), none, .mov (.t 0)⟩,
 ⟨(some 22), none, .mov (.t 5)⟩,
 ⟨(some 23), none, .iad 1 (.t 21) (.t 22)⟩,
 ⟨(some 24), none, .load none (.t 23)⟩,
 ⟨(some 25), none, .bin .mul (.t 24) (.c (u32 2))⟩,
 ⟨(some 26), none, .mov (.t 4)⟩,
 ⟨(some 27), none, .bin .add (.t 25) (.t 26)⟩,
 ⟨(some 28), none, .iad 1 (.t 19) (.t 20)⟩,
 ⟨none, none, .store 1 (.t 28) (.t 27)⟩])
 (.reg [⟨(some 29), none, .mov (.t 6)⟩,
 ⟨(some 4), none, .mov (.t 29)⟩]))))
 (.reg [⟨(some 12), none, .mov (.t 5)⟩,
 ⟨(some 13), none, .bin .add (.t 12) (.c (.i .i64 1))⟩,
 ⟨(some 5), none, .mov (.t 13)⟩])))
 (.norm false [0, 4, 5]))
def b96 : AX :=
 (.seq
 (.reg [⟨(some 4), none, .mov (.c (u32 0))⟩])
 (.seq
 (.seq
 (.reg [⟨(some 7), none, .mov (.t 1)⟩])
 (.cond (.t 7)
 (.reg [⟨(some 4), none, .mov (.c (u32 1))⟩])
 .skip))
 (.seq
 (.reg [⟨(some 5), none, .mov (.c (.i .i64 0))⟩])
 (.lp 0 (.norm false [0, 4, 5]) l96_0 (.norm false [])))))
def l97_0 : AX :=
 (.note
 (.seq
 (.seq
 (.reg [⟨(some 8), none, .mov (.t 5)⟩,
 ⟨(some 9), none, .mov (.t 0)⟩,
 ⟨(some 10), none, .len (.t 9)⟩,
 ⟨(some 11), none, .bin .lss (.t 8) (.t 10)⟩])
 (.cond (.t 11)
 .skip
 (.exit 0)))
 (.seq
 (.block 1
 (.seq
 (.reg [⟨(some 14), none, .mov (.t 0)⟩,
 ⟨(some 15), none, .mov (.t 5)⟩,
 ⟨(some 16), none, .iad 1 (.t 14) (.t 15)⟩,
 ⟨(some 17), none, .load none (.t 16)⟩,
 ⟨(some 18), none, .conv .u64 (.t 17)⟩,
 ⟨(some 6), none, .mov (.t 18)⟩])
 (.seq
 (.reg [⟨(some 19), none, .mov (.t 1)⟩,
 ⟨(some 20), none, .mov (.t 5)⟩,
 ⟨(some 21), none, .call 84 [(.t 19), (.t 20)]⟩,
 ⟨(some 22), none, .conv .u64 (.t 21)⟩,
 ⟨(some 23), none, .mov (.t 4)⟩,
 ⟨(some 24), none, .bin .add (.t 22) (.t 23)⟩,
 ⟨(some 7), none, .mov (.t 24)⟩])
 (.seq
 (.reg [⟨(some 4), none, .mov (.c (u64 0))⟩])
 (.seq
 (.seq
 (.reg [⟨(some 25), none, .mov (.t 6)⟩,
 ⟨(some 26), none, .mov (.t 7)⟩,
 ⟨(some 27), none, .bin .lss (.t 25) (.t 26)⟩])
 (.cond (.t 27)
 (.seq
 (.reg [⟨(some 28), none, .mov (.t 6)⟩,
 ⟨(some 29), none, .bin .add (.t 28) (.c (u64 4294967296))⟩,
 ⟨(some 6), none, .mov (.t 29)⟩])
 (.reg [⟨(some 4), none, .mov (.c (u64 1))⟩]))
 .skip))
 (.reg [⟨(some 30), none, .mov (.t 0)⟩,
 ⟨(some 31), none, .mov (.t 5)⟩,
 ⟨(some 32), none, .mov (.t 6)⟩,
 ⟨(some 33), none, .mov (.t 7)⟩,
 ⟨(some 34), none, .bin .sub (.t 32) (.t 33)⟩,
 ⟨(some 35), none, .conv .u32 (.t 34)⟩,
 ⟨(some 36), none, .iad 1 (.t 30) (.t 31)⟩,
 ⟨none, none, .store 1 (.t 36) (.t 35)⟩]))))))
 (.reg [⟨(some 12), none, .mov (.t 5)⟩,
 ⟨(some 13), none, .bin .add (.t 12) (.c (.i .i64 1))⟩,
 ⟨(some 5), none, .mov (.t 13)⟩])))
 (.norm false [0, 1, 4, 5]))
def b97 : AX :=
 (.seq
 (.reg [⟨(some 4), none, .mov (.c (u64 0))⟩])
 (.seq
 (.reg [⟨(some 5), none, .mov (.c (.i .i64 0))⟩])
 (.lp 0 (.norm false [0, 1, 4, 5]) l97_0 (.norm false []))))
def l63_0 : AX :=
 (.note
 (.seq
 (.seq
 (.reg [⟨(some 19), none, .mov (.t 8)⟩,
 ⟨(some 20), none, .bin .geq (.t 19) (.c (.i .i64 0))⟩])
 (.cond (.t 20)
 .skip
 (.exit 0)))
 (.seq
 (.block 1
 (.seq
 (.drawT [⟨(some 23), none, .mov (.t 7)⟩,
 ⟨(some 24), none, .mov (.t 0)⟩,
 ⟨(some 25), none, .mov (.t 8)⟩,
 ⟨(some 26), none, .bin .quo (.t 25) (.c (.i .i64 32))⟩,
 ⟨(some 27), none, .iad 1 (.t 24) (.t 26)⟩,
 ⟨(some 28), none, .load none (.t 27)⟩,
 ⟨(some 29), none, .mov (.t 8)⟩,
 ⟨(some 30), none, .bin .rem (.t 29) (.c (.i .i64 32))⟩,
 ⟨(some 31), none, .bin .shl (.c (u32 1)) (.t 30)⟩,
 ⟨(some 32), none, .bin .quo (.t 28) (.t 31)⟩,
 ⟨(some 33), none, .bin .rem (.t 32) (.c (u32 2))⟩,
 ⟨(some 34), none, .bin .eql (.t 33) (.c (u32 1))⟩]
 [⟨(some 35), none, .call 96 [(.t 23), (.t 34)]⟩])
 (.seq
 (.reg [⟨(some 36), none, .mov (.t 6)⟩,
 ⟨(some 37), none, .call 96 [(.t 36), (.c (.b false))]⟩])
 (.seq
 (.reg [⟨(some 38), none, .mov (.t 7)⟩,
 ⟨(some 39), none, .mov (.t 1)⟩,
 ⟨(some 40), none, .call 52 [(.t 38), (.t 39)]⟩,
 ⟨(some 41), none, .bin .geq (.t 40) (.c (.i .i64 0))⟩])
 (.cond (.t 41)
 (.seq
 (.reg [⟨(some 42), none, .mov (.t 7)⟩,
 ⟨(some 43), none, .mov (.t 1)⟩,
 ⟨(some 44), none, .call 97 [(.t 42), (.t 43)]⟩])
 (.reg [⟨(some 45), none, .mov (.t 6)⟩,
 ⟨(some 46), none, .iad 1 (.t 45) (.c (.i .i64 0))⟩,
 ⟨(some 47), none, .load none (.t 46)⟩,
 ⟨(some 48), none, .bin .add (.t 47) (.c (u32 1))⟩,
 ⟨(some 49), none, .iad 1 (.t 45) (.c (.i .i64 0))⟩,
 ⟨none, none, .store 1 (.t 49) (.t 48)⟩]))
 .skip)))))
 (.reg [⟨(some 21), none, .mov (.t 8)⟩,
 ⟨(some 22), none, .bin .sub (.t 21) (.c (.i .i64 1))⟩,
 ⟨(some 8), none, .mov (.t 22)⟩])))
 (.norm false [0, 1, 6, 7, 8]))
def b63 : AX :=
 (.seq
 (.reg [⟨(some 4), none, .mov (.c (.sl [] .nl))⟩,
 ⟨(some 5), none, .mov (.c (.sl [] .nl))⟩])
 (.seq
 (.reg [⟨(some 9), none, .mov (.t 0)⟩,
 ⟨(some 10), none, .len (.t 9)⟩,
 ⟨(some 11), none, .mks 1 [(u32 0)] (.t 10) (.t 10)⟩,
 ⟨(some 6), none, .mov (.t 11)⟩])
 (.seq
 (.reg [⟨(some 12), none, .mov (.t 1)⟩,
 ⟨(some 13), none, .len (.t 12)⟩,
 ⟨(some 14), none, .bin .add (.t 13) (.c (.i .i64 1))⟩,
 ⟨(some 15), none, .mks 1 [(u32 0)] (.t 14) (.t 14)⟩,
 ⟨(some 7), none, .mov (.t 15)⟩])
 (.seq
 (.seq
 (.reg [⟨(some 16), none, .mov (.t 0)⟩,
 ⟨(some 17), none, .call 95 [(.t 16)]⟩,
 ⟨(some 18), none, .bin .sub (.t 17) (.c (.i .i64 1))⟩,
 ⟨(some 8), none, .mov (.t 18)⟩])
 (.lp 0 (.norm false [0, 1, 6, 7, 8]) l63_0 (.norm false [6, 7])))
 (.seq
 (.reg [⟨(some 50), none, .mov (.t 6)⟩,
 ⟨(some 51), none, .call 43 [(.t 50)]⟩,
 ⟨(some 52), none, .mov (.t 7)⟩,
 ⟨(some 53), none, .call 43 [(.t 52)]⟩,
 ⟨(some 4), none, .mov (.t 51)⟩,
 ⟨(some 5), none, .mov (.t 53)⟩])
 (.pre (.norm false [4, 5]) .ret))))))
class CRef05 (T : Tbl) : Prop extends CRef04 T where
 h122 : T 122 = some ⟨2, 32, [.t 4], b122, none, false⟩
 h95 : T 95 = some ⟨1, 19, [.t 2], b95, none, false⟩
 h96 : T 96 = some ⟨2, 30, [], b96, (some [true, false]), false⟩
 h97 : T 97 = some ⟨2, 37, [], b97, (some [true, false]), false⟩
 h63 : T 63 = some ⟨2, 54, [.t 4, .t 5], b63, none, false⟩
section
variable {T : Tbl} [CRef05 T] {d : Option Nat} {st : St}
@[simp] theorem x122 (xs : List AV) : callX (orc T) T 122 xs d st = bL (frzL st.heap xs) fun ys => cR (callF T 122 (ys.map (wkIf false))) xs d st := callX_pure CRef05.h122
theorem f122 (xs : List AV) (hn : xs.length = 2) : callF T 122 xs = retF [.t 4] false (evX (orc T) T 0 b122 ⟨argEnv xs, [], 1⟩) := callF_eq CRef05.h122 hn
@[simp] theorem x95 (xs : List AV) : callX (orc T) T 95 xs d st = bL (frzL st.heap xs) fun ys => cR (callF T 95 (ys.map (wkIf false))) xs d st := callX_pure CRef05.h95
theorem f95 (xs : List AV) (hn : xs.length = 1) : callF T 95 xs = retF [.t 2] false (evX (orc T) T 0 b95 ⟨argEnv xs, [], 1⟩) := callF_eq CRef05.h95 hn
@[simp] theorem x96 (xs : List AV) : callX (orc T) T 96 xs d st = bL (frzM st.heap [true, false] xs) fun ys => lentX ys (shareIds (refsM [true, false] xs) st.heap) (reach (shareIds (refsM [true, false] xs) st.heap) 40 (rootsM [true, false] xs) []) T 96 false d st := callX_lent CRef05.h96
theorem f96 (xs : List AV) (hb : Heap) (hn : xs.length = 2) : callH T 96 xs hb = retH [] false hb.length (evX (orc T) T hb.length b96 ⟨argEnv xs, hb, hb.length + 1⟩) := callH_eq CRef05.h96 hn
@[simp] theorem x97 (xs : List AV) : callX (orc T) T 97 xs d st = bL (frzM st.heap [true, false] xs) fun ys => lentX ys (shareIds (refsM [true, false] xs) st.heap) (reach (shareIds (refsM [true, false] xs) st.heap) 40 (rootsM [true, false] xs) []) T 97 false d st := callX_lent CRef05.h97
theorem f97 (xs : List AV) (hb : Heap) (hn : xs.length = 2) : callH T 97 xs hb = retH [] false hb.length (evX (orc T) T hb.length b97 ⟨argEnv xs, hb, hb.length + 1⟩) := callH_eq CRef05.h97 hn
@[simp] theorem x63 (xs : List AV) : callX (orc T) T 63 xs d st = bL (frzL st.heap xs) fun ys => cR (callF T 63 (ys.map (wkIf false))) xs d st := callX_pure CRef05.h63
theorem f63 (xs : List AV) (hn : xs.length = 2) : callF T 63 xs = retF [.t 4, .t 5] false (evX (orc T) T 0 b63 ⟨argEnv xs, [], 1⟩) := callF_eq CRef05.h63 hn
end
end Go.Ab
end

section
namespace Go.Ab
section
variable {T : Tbl} [CRef05 T]
def stDb (a : List UInt32) (y : Nat × Nat × List UInt32) : St :=
 ⟨[(0, .bs (.bor 0) 0 1 0 a.length), (4, u32 y.2.1), (5, .i .i64 y.1)], [(.bor 0, ⟨0, .own, 1, u32s (y.2.2 ++ a.drop y.1)⟩)], 4⟩
theorem db_step {p m c c' w s x k : Nat} (h : m + p * c = 2 * s + k) (e : w + 4294967296 * c' = 2 * x + c) : (m + p * w) + p * 4294967296 * c' = 2 * (s + p * x) + k := by
 have e2 : p * w + p * 4294967296 * c' = p * (2 * x) + p * c := by rw [Nat.mul_assoc, ← Nat.mul_add, e, Nat.mul_add]
 have e3 : p * (2 * x) = 2 * (p * x) := by rw [← Nat.mul_assoc, Nat.mul_comm p 2, Nat.mul_assoc]
 omega
end
section
variable {T : Tbl}
theorem db_loop (a : List UInt32) (c0 : Nat) (hl : a.length ≤ 1000000) : ∀ y : Nat × Nat × List UInt32,
  (y.1 ≤ a.length ∧ y.2.1 ≤ 1 ∧ y.2.2.length = y.1 ∧ val y.2.2 + 4294967296 ^ y.1 * y.2.1 = 2 * val (a.take y.1) + c0) →
  ∃ r, (∃ (c : Nat) (m : List UInt32), r = (Ex.n, (⟨[], [(.bor 0, ⟨0, .own, 1, u32s m⟩)], 4⟩ : St)) ∧
   m.length = a.length ∧ c ≤ 1 ∧ val m + 4294967296 ^ a.length * c = 2 * val a + c0) ∧ loopN T 1 0 (.norm false []) l96_0 (stDb a y) = some r := by
 refine loopN_ex _ _ (fun y => a.length - y.1) _ ?_
 rintro ⟨i, c, m⟩ ⟨hi, hc, hm, hv⟩
 simp only at hi hc hm hv
 by_cases h0 : i < a.length
 ·left
  have ha : a[i]? = some (a[i]'h0) := List.getElem?_eq_getElem h0
  have hg := get_mid (P := []) hm h0
  have hw : IntKind.wrap .i64 ((i : Int) + 1) = ((i + 1 : Nat) : Int) := wrap_i64 _ (by omega)
  have hlx := u32_lt (a[i]'h0)
  have hset := set_mid (P := []) (w32 ((a[i]'h0).toNat * 2 % 4294967296 + c)) hm h0
  simp at hg hset
  have m1 : ((a[i]'h0).toNat * 2 % 4294967296 + c) % 4294967296 = (a[i]'h0).toNat * 2 % 4294967296 + c := Nat.mod_eq_of_lt (by omega)
  have m2 : (a[i]'h0).toNat / 2147483648 < 4294967296 := by omega
  have m3 : (a[i]'h0).toNat * 2 % 4294967296 + c < 4294967296 := by omega
  refine ⟨(i + 1, (a[i]'h0).toNat / 2147483648, m ++ [w32 ((a[i]'h0).toNat * 2 % 4294967296 + c)]), ⟨h0, by simp only; omega, by simp [hm], ?_⟩, by simp only; omega, ?_⟩
  ·simp only
   rw [val_append, val_take_succ ha, Nat.pow_succ, hm]
   simp only [val_cons, val_nil, Nat.mul_zero, Nat.add_zero, w32_mod]
   exact db_step hv (by omega)
  ·simp -implicitDefEqProofs [l96_0, stDb, h0, hw, hg, hset, m1, m2, u32s_set _ _ _ m3]
 ·right
  have : i = a.length := by omega
  subst this
  rw [List.take_of_length_le (Nat.le_refl a.length)] at hv
  refine ⟨_, ⟨c, m, rfl, hm, hc, hv⟩, ?_, ?_⟩ <;> simp -implicitDefEqProofs [l96_0, stDb]
end
section
variable {T : Tbl} [CRef05 T]
theorem ref05_double (a : List UInt32) (v : Bool) (hl : a.length ≤ 1000000) :
  ∃ (c : Nat) (m : List UInt32), m.length = a.length ∧ c ≤ 1 ∧ val m + 4294967296 ^ a.length * c = 2 * val a + (if v then 1 else 0) ∧
   callH T 96 [.bs (.bor 0) 0 1 0 a.length, .b v] [(.bor 0, ⟨0, .own, 1, u32s a⟩)] = some (.tup [], [(.bor 0, ⟨0, .own, 1, u32s m⟩)]) := by
 obtain ⟨_, ⟨c, m, rfl, hm, hc, hv⟩, hr⟩ := db_loop (T := T) a (if v then 1 else 0) hl (0, (if v then 1 else 0), []) ⟨Nat.zero_le _, by cases v <;> simp, rfl, by cases v <;> simp⟩
 refine ⟨c, m, hm, hc, hv, ?_⟩
 unfold stDb at hr
 simp at hr
 rw [f96 _ _ rfl, b96]
 cases v
 ·simp at hr
  simp -implicitDefEqProofs [hr]
 ·simp at hr
  simp -implicitDefEqProofs [hr]
def stLs (a b : List UInt32) (y : Nat × Nat × List UInt32) : St :=
 ⟨[(0, .bs (.bor 0) 0 1 0 a.length), (1, .sl (u32s b) .an), (4, u64 y.2.1), (5, .i .i64 y.1)], [(.bor 0, ⟨0, .own, 1, u32s (y.2.2 ++ a.drop y.1)⟩)], 4⟩
theorem ls_loop (a b : List UInt32) (hl : a.length ≤ 1000000) (hb : b.length ≤ 1000000) : ∀ y : Nat × Nat × List UInt32,
  (y.1 ≤ a.length ∧ y.2.1 ≤ 1 ∧ y.2.2.length = y.1 ∧ val y.2.2 + val (b.take y.1) = val (a.take y.1) + 4294967296 ^ y.1 * y.2.1) →
  ∃ r, (∃ (c : Nat) (m : List UInt32), r = (Ex.n, (⟨[], [(.bor 0, ⟨0, .own, 1, u32s m⟩)], 4⟩ : St)) ∧
   m.length = a.length ∧ c ≤ 1 ∧ val m + val (b.take a.length) = val a + 4294967296 ^ a.length * c) ∧ loopN T 1 0 (.norm false []) l97_0 (stLs a b y) = some r := by
 refine loopN_ex _ _ (fun y => a.length - y.1) _ ?_
 rintro ⟨i, c, m⟩ ⟨hi, hc, hm, hv⟩
 simp only at hi hc hm hv
 by_cases h0 : i < a.length
 ·left
  have ha : a[i]? = some (a[i]'h0) := List.getElem?_eq_getElem h0
  have hg := get_mid (P := []) hm h0
  have hw : IntKind.wrap .i64 ((i : Int) + 1) = ((i + 1 : Nat) : Int) := wrap_i64 _ (by omega)
  have cb := ref02_at (T := T) b i hb
  have la := u32_lt (a[i]'h0)
  have lb := atW_lt b i
  have e1 := val_take_succ ha
  have e2 := val_take_atW b i
  simp at hg
  have m1 : (a[i]'h0).toNat % 18446744073709551616 = (a[i]'h0).toNat := Nat.mod_eq_of_lt (by omega)
  have m2 : atW b i % 18446744073709551616 = atW b i := Nat.mod_eq_of_lt (by omega)
  have m3 : (atW b i + c) % 18446744073709551616 = atW b i + c := Nat.mod_eq_of_lt (by omega)
  have m4 : ((a[i]'h0).toNat + 4294967296) % 18446744073709551616 = (a[i]'h0).toNat + 4294967296 := Nat.mod_eq_of_lt (by omega)
  have fin : ∀ s d : Nat, d ≤ 1 → s < 4294967296 → s + (atW b i + c) = (a[i]'h0).toNat + 4294967296 * d →
    val (m ++ [w32 s]) + val (b.take (i + 1)) = val (a.take (i + 1)) + 4294967296 ^ (i + 1) * d := by
   intro s d hd hs h
   rw [val_append, hm, e1, e2, Nat.pow_succ]
   simp only [val_cons, val_nil, Nat.mul_zero, Nat.add_zero, w32_of_lt hs]
   generalize 4294967296 ^ i = p at *
   have e3 : p * s + p * (atW b i + c) = p * (a[i]'h0).toNat + p * 4294967296 * d := by rw [← Nat.mul_add, h, Nat.mul_add, Nat.mul_assoc]
   rw [Nat.mul_add] at e3
   omega
  by_cases h1 : (a[i]'h0).toNat < atW b i + c
  ·have hs : sub64 ((a[i]'h0).toNat + 4294967296) (atW b i + c) = (a[i]'h0).toNat + 4294967296 - (atW b i + c) := sub64_le (by omega) (by omega)
   have m5 : (a[i]'h0).toNat + 4294967296 - (atW b i + c) < 4294967296 := by omega
   have hset := set_mid (P := []) (w32 ((a[i]'h0).toNat + 4294967296 - (atW b i + c))) hm h0
   simp at hset
   refine ⟨(i + 1, 1, m ++ [w32 ((a[i]'h0).toNat + 4294967296 - (atW b i + c))]), ⟨h0, Nat.le_refl _, by simp [hm], fin _ 1 (by omega) (by omega) (by omega)⟩, by simp only; omega, ?_⟩
   simp -implicitDefEqProofs [l97_0, stLs, h0, cb, m1, m2, m3, m4, h1, hs, hg, hw, hset]
  ·have hs : sub64 (a[i]'h0).toNat (atW b i + c) = (a[i]'h0).toNat - (atW b i + c) := sub64_le (by omega) (by omega)
   have m5 : (a[i]'h0).toNat - (atW b i + c) < 4294967296 := by omega
   have hset := set_mid (P := []) (w32 ((a[i]'h0).toNat - (atW b i + c))) hm h0
   simp at hset
   refine ⟨(i + 1, 0, m ++ [w32 ((a[i]'h0).toNat - (atW b i + c))]), ⟨h0, Nat.zero_le _, by simp [hm], fin _ 0 (by omega) (by omega) (by omega)⟩, by simp only; omega, ?_⟩
   simp -implicitDefEqProofs [l97_0, stLs, h0, cb, m1, m2, m3, h1, hs, hg, hw, hset]
 ·right
  have : i = a.length := by omega
  subst this
  rw [List.take_of_length_le (Nat.le_refl a.length)] at hv
  refine ⟨_, ⟨c, m, rfl, hm, hc, hv⟩, ?_, ?_⟩ <;> simp -implicitDefEqProofs [l97_0, stLs]
theorem ref05_less (a b : List UInt32) (hl : a.length ≤ 1000000) (hb : b.length ≤ a.length) (hab : val b ≤ val a) :
  ∃ m : List UInt32, m.length = a.length ∧ val m = val a - val b ∧
   callH T 97 [.bs (.bor 0) 0 1 0 a.length, .sl (u32s b) .an] [(.bor 0, ⟨0, .own, 1, u32s a⟩)] = some (.tup [], [(.bor 0, ⟨0, .own, 1, u32s m⟩)]) := by
 obtain ⟨_, ⟨c, m, rfl, hm, hc, hv⟩, hr⟩ := ls_loop (T := T) a b hl (by omega) (0, 0, []) ⟨Nat.zero_le _, Nat.zero_le _, rfl, by simp⟩
 rw [List.take_of_length_le hb] at hv
 have hlo := val_lt m
 rw [hm] at hlo
 have hval : val m = val a - val b := by
  rcases Nat.eq_zero_or_pos c with h1 | h1
  ·subst h1; omega
  ·have : c = 1 := by omega
   subst this
   omega
 refine ⟨m, hm, hval, ?_⟩
 unfold stLs at hr
 simp at hr
 rw [f97 _ _ rfl, b97]
 simp -implicitDefEqProofs [hr]
def stHs (x i : Nat) (y : Nat) : St := ⟨[(1, .i .i64 i), (5, u32 (x / 2 ^ y)), (6, .i .i64 y)], [], 2⟩
end
section
variable {T : Tbl}
theorem hs_loop (x i : Nat) (_hi : i ≤ 100000000) (hx : x < 4294967296) : ∀ y : Nat, y ≤ i % 32 →
  ∃ r, (r = (Ex.n, (⟨[(5, u32 (x / 2 ^ (i % 32)))], [], 2⟩ : St))) ∧ loopN T 0 0 (.norm false [5]) l122_0 (stHs x i y) = some r := by
 refine loopN_ex _ _ (fun y => i % 32 - y) _ ?_
 intro j hj
 have hm : ((i : Int).tmod 32) = ((i % 32 : Nat) : Int) := rfl
 have hlt : x / 2 ^ j < 4294967296 := Nat.lt_of_le_of_lt (Nat.div_le_self _ _) hx
 by_cases h0 : j < i % 32
 ·left
  have hw : IntKind.wrap .i64 ((j : Int) + 1) = ((j + 1 : Nat) : Int) := wrap_i64 _ (by omega)
  have hd : x / 2 ^ j / 2 = x / 2 ^ (j + 1) := by rw [Nat.div_div_eq_div_mul, Nat.pow_succ]
  have hd2 : x / 2 ^ (j + 1) % 4294967296 = x / 2 ^ (j + 1) := Nat.mod_eq_of_lt (Nat.lt_of_le_of_lt (Nat.div_le_self _ _) hx)
  refine ⟨j + 1, h0, by omega, ?_⟩
  have hj2 : (j : Int) < (i : Int) % 32 := by omega
  simp -implicitDefEqProofs [l122_0, stHs, hm, hw, hd, hd2, hj2]
 ·right
  have : j = i % 32 := by omega
  subst this
  refine ⟨_, rfl, ?_, ?_⟩ <;> simp -implicitDefEqProofs [l122_0, stHs, hm]
end
section
variable {T : Tbl} [CRef05 T]
theorem ref03_has (a : List UInt32) (i : Nat) (hl : a.length ≤ 1000000) (hi : i < 32 * a.length) :
  callF T 122 [.sl (u32s a) .an, .i .i64 i] = some (.b (decide (val a / 2 ^ i % 2 = 1))) := by
 have h1 : i / 32 < a.length := by omega
 have ha : a[i / 32]? = some (a[i / 32]'h1) := List.getElem?_eq_getElem h1
 obtain ⟨_, rfl, hr⟩ := hs_loop (T := T) (a[i / 32]'h1).toNat i (by omega) (u32_lt _) 0 (Nat.zero_le _)
 unfold stHs at hr
 simp at hr
 have hq : IntKind.wrap .i64 ((i : Int) / 32) = (i : Int) / 32 := wrap_i64 (i / 32) (by omega)
 have hq1 : ((i : Int) / 32).toNat = i / 32 := by omega
 have hq2 : (0 : Int) ≤ (i : Int) / 32 := by omega
 have hq3 : (i : Int) / 32 < (a.length : Int) := by omega
 have hq4 : ¬ (a.length : Int) ≤ (i : Int) / 32 := by omega
 have hb := val_bit ha
 have hlt : (a[i / 32]'h1).toNat / 2 ^ (i % 32) < 4294967296 := Nat.lt_of_le_of_lt (Nat.div_le_self _ _) (u32_lt _)
 rw [f122 _ rfl, b122]
 simp -implicitDefEqProofs [hr, hq, hq1, hq2, hq3, hq4, h1, hb]
def stLn (a : List UInt32) (y : Nat) : St := ⟨[(0, .sl (u32s a) .an), (3, .i .i64 y)], [], 2⟩
theorem ln_loop (a : List UInt32) (hl : a.length ≤ 1000000) : ∀ y : Nat, (y ≤ 32 * a.length ∧ val a < 2 ^ y) →
  ∃ r, (∃ n : Nat, r = (Ex.n, (⟨[(3, .i .i64 n)], [], 2⟩ : St)) ∧ n ≤ 32 * a.length ∧ val a < 2 ^ n) ∧ loopN T 0 0 (.norm false [3]) l95_0 (stLn a y) = some r := by
 refine loopN_ex _ _ (fun y => y) _ ?_
 rintro k ⟨hk, hv⟩
 by_cases h0 : k = 0
 ·right
  subst h0
  refine ⟨_, ⟨0, rfl, Nat.zero_le _, hv⟩, ?_, ?_⟩ <;> simp -implicitDefEqProofs [l95_0, stLn]
 ·obtain ⟨j, rfl⟩ : ∃ j, k = j + 1 := ⟨k - 1, by omega⟩
  have hw : IntKind.wrap .i64 (j : Int) = (j : Int) := wrap_i64 _ (by omega)
  have hh := ref03_has (T := T) a j hl (by omega)
  have hp : (0 : Int) < (j : Int) + 1 := by omega
  by_cases h1 : val a / 2 ^ j % 2 = 1
  ·right
   refine ⟨_, ⟨j + 1, rfl, hk, hv⟩, ?_, ?_⟩ <;> simp -implicitDefEqProofs [l95_0, stLn, hw, hh, hp, h1]
  ·left
   refine ⟨j, ⟨by omega, lt_of_bit hv (by generalize val a / 2 ^ j = q at *; omega)⟩, by omega, ?_⟩
   simp -implicitDefEqProofs [l95_0, stLn, hw, hh, hp, h1]
theorem ref03_len (a : List UInt32) (hl : a.length ≤ 1000000) : ∃ n : Nat, n ≤ 32 * a.length ∧ val a < 2 ^ n ∧ callF T 95 [.sl (u32s a) .an] = some (.i .i64 n) := by
 obtain ⟨_, ⟨n, rfl, hn, hv⟩, hr⟩ := ln_loop (T := T) a hl (32 * a.length) ⟨Nat.le_refl _, by rw [← pow32]; exact val_lt a⟩
 refine ⟨n, hn, hv, ?_⟩
 unfold stLn at hr
 simp at hr
 have hw : IntKind.wrap .i64 (32 * (a.length : Int)) = 32 * (a.length : Int) := by
  have := wrap_i64 (32 * a.length) (by omega)
  simpa using this
 rw [f95 _ rfl, b95]
 simp -implicitDefEqProofs [hr, hw]
end
end Go.Ab
end

section
namespace Go.Ab
section
variable {T : Tbl} [CRef05 T]
theorem shl1_u32 (n : Nat) (h : n < 32) : binV .shl (u32 1) (.i .i64 (n : Int)) = some (u32 (2 ^ n)) := by
  have h1 : ¬ (n : Int) < 0 := by omega
  have h2 : 2 ^ n < 4294967296 := by
    have : 2 ^ n < 2 ^ 32 := Nat.pow_lt_pow_right (by decide) h
    simpa using this
  have h3 : min n IntKind.u32.bits = n := by
    have : IntKind.u32.bits = 32 := rfl
    rw [this]; omega
  have h4 : ((1 : Nat) : Int) * 2 ^ n = ((2 ^ n : Nat) : Int) := by simp
  unfold u32
  simp only [binV, if_neg h1, Int.toNat_natCast, h3, h4, wrap_u32, Nat.mod_eq_of_lt h2]
theorem dv_law {v b Q L : Nat} (hb : 0 < b) (hq : Q = v / 2 / b) (hr : L = v / 2 % b) :
    (b ≤ 2 * L + v % 2 → v / b = 2 * Q + 1 ∧ v % b = 2 * L + v % 2 - b) ∧ (2 * L + v % 2 < b → v / b = 2 * Q ∧ v % b = 2 * L + v % 2) := by
  have h1 := Nat.div_add_mod (v / 2) b
  have h2 : L < b := by rw [hr]; exact Nat.mod_lt _ hb
  rw [← hq, ← hr] at h1
  have h3 : v = b * (2 * Q) + (2 * L + v % 2) := by
    rw [← Nat.mul_assoc, Nat.mul_comm b 2, Nat.mul_assoc]
    omega
  have ht : v % 2 < 2 := Nat.mod_lt _ (by decide)
  clear h1 hq hr
  generalize v % 2 = t at *
  rw [h3]
  constructor
  · intro h
    have e : b * (2 * Q) + (2 * L + t) = (2 * L + t - b) + b * (2 * Q + 1) := by rw [Nat.mul_add, Nat.mul_one]; omega
    rw [e, Nat.add_mul_div_left _ _ hb, Nat.add_mul_mod_self_left, Nat.div_eq_of_lt (by omega), Nat.mod_eq_of_lt (by omega)]
    omega
  · intro h
    rw [Nat.add_comm, Nat.add_mul_div_left _ _ hb, Nat.add_mul_mod_self_left, Nat.div_eq_of_lt h, Nat.mod_eq_of_lt h]
    omega
theorem val_inc {a : List UInt32} {x : UInt32} (h : a[0]? = some x) (hx : x.toNat + 1 < 4294967296) : val (a.set 0 (w32 (x.toNat + 1))) = val a + 1 := by
  cases a with
  | nil => cases h
  | cons y l =>
    cases h
    simp only [List.set_cons_zero, val_cons, w32_of_lt hx]
    omega
def stDv (a b : List UInt32) (y : Nat × List UInt32 × List UInt32) : St :=
  ⟨[(0, .sl (u32s a) .an), (1, .sl (u32s b) .an), (6, .bs (.loc 11) 1 1 0 a.length), (7, .bs (.loc 15) 2 1 0 (b.length + 1)), (8, .i .i64 ((y.1 : Int) - 1))], [(.loc 11, ⟨1, .own, 1, u32s y.2.1⟩), (.loc 15, ⟨2, .own, 1, u32s y.2.2⟩)], 4⟩
theorem dv_loop (a b : List UInt32) (ha : a.length ≤ 100000) (hb : b.length ≤ 100000) (h0b : 0 < val b) : ∀ y : Nat × List UInt32 × List UInt32,
    (y.1 ≤ 32 * a.length ∧ y.2.1.length = a.length ∧ y.2.2.length = b.length + 1 ∧ val y.2.1 = val a / 2 ^ y.1 / val b ∧ val y.2.2 = val a / 2 ^ y.1 % val b) →
    ∃ r, (∃ Q L : List UInt32, r = (Ex.n, (⟨[(6, .bs (.loc 11) 1 1 0 a.length), (7, .bs (.loc 15) 2 1 0 (b.length + 1))], [(.loc 11, ⟨1, .own, 1, u32s Q⟩), (.loc 15, ⟨2, .own, 1, u32s L⟩)], 4⟩ : St)) ∧
      Q.length = a.length ∧ L.length = b.length + 1 ∧ val Q = val a / val b ∧ val L = val a % val b) ∧ loopN T 0 0 (.norm false [6, 7]) l63_0 (stDv a b y) = some r := by
  refine loopN_ex _ _ (fun y => y.1) _ ?_
  rintro ⟨k, Q, L⟩ ⟨hk, hQ, hL, hq, hr⟩
  simp only at hk hQ hL hq hr
  cases k with
  | zero =>
    right
    rw [Nat.pow_zero, Nat.div_one] at hq hr
    refine ⟨_, ⟨Q, L, rfl, hQ, hL, hq, hr⟩, ?_, ?_⟩ <;> simp -implicitDefEqProofs [l63_0, stDv]
  | succ j =>
    left
    have h1 : j / 32 < a.length := by omega
    have hag : a[j / 32]? = some (a[j / 32]'h1) := List.getElem?_eq_getElem h1
    have hbit := val_bit hag
    have hw : IntKind.wrap .i64 ((j : Int) - 1) = (j : Int) - 1 := wrap_i64 _ (by omega)
    have hsh : binV .shl (u32 1) (.i .i64 ((j : Int) % 32)) = some (u32 (2 ^ (j % 32))) := shl1_u32 (j % 32) (Nat.mod_lt _ (by decide))
    have hm : ((j : Int).tmod 32) = ((j % 32 : Nat) : Int) := rfl
    have hj0 : IntKind.wrap .i64 ((j : Int) / 32) = (j : Int) / 32 := wrap_i64 (j / 32) (by omega)
    have hj1 : ((j : Int) / 32).toNat = j / 32 := by omega
    have hj2 : (0 : Int) ≤ (j : Int) / 32 := by omega
    have hj3 : (j : Int) / 32 < (a.length : Int) := by omega
    have hxl := u32_lt (a[j / 32]'h1)
    obtain ⟨cL, L2, hL2, hcL, hvL, hrL⟩ := ref05_double (T := T) L (decide ((a[j / 32]'h1).toNat / 2 ^ (j % 32) % 2 = 1)) (by omega)
    obtain ⟨cQ, Q2, hQ2, hcQ, hvQ, hrQ⟩ := ref05_double (T := T) Q false (by omega)
    have hcmp := ref02_cmp (T := T) L2 b (by omega) (by omega)
    have hpq : (2 ^ (j % 32)) ≠ 0 := Nat.ne_of_gt (Nat.pow_pos (by decide))
    rw [hL] at hrL
    rw [hQ] at hrQ
    rw [hL] at hL2
    rw [hQ] at hQ2
    have htL : List.take (b.length + 1) L2 = L2 := List.take_of_length_le (by omega)
    have hres : ∃ Q3 L3 : List UInt32, Q3.length = a.length ∧ L3.length = b.length + 1 ∧ val Q3 = val a / 2 ^ j / val b ∧ val L3 = val a / 2 ^ j % val b ∧
        (evX (orc T) T 0 l63_0 (stDv a b (j + 1, Q, L)) = some (Ex.n, stDv a b (j, Q3, L3))) := by
      have hvb := val_lt b
      have hva := val_lt a
      have hLb : val L < val b := by rw [hr]; exact Nat.mod_lt _ h0b
      have hv2 : val a / 2 ^ (j + 1) = val a / 2 ^ j / 2 := by rw [Nat.pow_succ, Nat.div_div_eq_div_mul]
      rw [hv2] at hq hr
      have hlaw := dv_law h0b hq hr
      have hva2 : val a / 2 ^ j ≤ val a := Nat.div_le_self _ _
      have hq2 : 2 * val Q ≤ val a / 2 ^ j := by
        have h2 : val a / 2 ^ j / 2 / val b ≤ val a / 2 ^ j / 2 := Nat.div_le_self _ _
        omega
      have hL0 : val L2 = 2 * val L + val a / 2 ^ j % 2 := by
        have hb2 : (if decide ((a[j / 32]'h1).toNat / 2 ^ (j % 32) % 2 = 1) = true then 1 else 0) = val a / 2 ^ j % 2 := by
          rw [hbit]
          simp only [decide_eq_true_eq]
          split <;> omega
        rw [hb2, hL, Nat.pow_succ] at hvL
        have ht : val a / 2 ^ j % 2 < 2 := Nat.mod_lt _ (by decide)
        generalize val a / 2 ^ j % 2 = t at *
        generalize 4294967296 ^ b.length = p at *
        rcases Nat.eq_zero_or_pos cL with h | h
        · rw [h, Nat.mul_zero, Nat.add_zero] at hvL
          exact hvL
        · have := Nat.mul_le_mul_left (p * 4294967296) h
          generalize p * 4294967296 * cL = u at *
          omega
      have hQ0 : val Q2 = 2 * val Q := by
        rw [hQ] at hvQ
        simp at hvQ
        generalize 4294967296 ^ a.length = p at *
        rcases Nat.eq_zero_or_pos cQ with h | h
        · rw [h, Nat.mul_zero, Nat.add_zero] at hvQ
          exact hvQ
        · have := Nat.mul_le_mul_left p h
          generalize p * cQ = u at *
          omega
      rw [← hL0] at hlaw
      by_cases hle : val b ≤ val L2
      · have hc : (0 : Int) ≤ cmpN (val L2) (val b) := by unfold cmpN; split; · omega
                                                          · split <;> omega
        obtain ⟨L3, hL3, hvL3, hrL3⟩ := ref05_less (T := T) L2 b (by omega) (by omega) hle
        rw [hL2] at hrL3 hL3
        have h0Q : 0 < Q2.length := by omega
        have hQg : Q2[0]? = some (Q2[0]'h0Q) := List.getElem?_eq_getElem h0Q
        have hev : (Q2[0]'h0Q).toNat + 1 < 4294967296 := by
          have := u32_lt (Q2[0]'h0Q)
          have hc : val Q2 = (Q2[0]'h0Q).toNat + 4294967296 * val (Q2.drop 1) := by
            conv => lhs; rw [← List.drop_zero (l := Q2), List.drop_eq_getElem_cons h0Q, val_cons]
          omega
        have h0a : 0 < a.length := by omega
        have hQg' := hQg
        have hev' := hev
        generalize hqq : (Q2[0]'h0Q).toNat = qq at hev'
        refine ⟨Q2.set 0 (w32 ((Q2[0]'h0Q).toNat + 1)), L3, by simp [hQ2], hL3, by rw [val_inc hQg hev, hQ0, (hlaw.1 hle).1], by rw [hvL3, (hlaw.1 hle).2], ?_⟩
        simp -implicitDefEqProofs [l63_0, stDv, hw, hsh, hm, hj0, hj1, hj2, hj3, h1, hrL, hrQ, hL2, htL, hcmp, hc, hrL3, hQ2, h0a]
      · have hc : ¬ (0 : Int) ≤ cmpN (val L2) (val b) := by unfold cmpN; rw [if_pos (by omega)]; decide
        have hlt : val L2 < val b := by omega
        refine ⟨Q2, L2, hQ2, hL2, by rw [hQ0, (hlaw.2 hlt).1], by rw [(hlaw.2 hlt).2], ?_⟩
        simp -implicitDefEqProofs [l63_0, stDv, hw, hsh, hm, hj0, hj1, hj2, hj3, h1, hrL, hrQ, hL2, htL, hcmp, hc]
    obtain ⟨Q3, L3, e1, e2, e3, e4, e5⟩ := hres
    exact ⟨(j, Q3, L3), ⟨by simp only; omega, e1, e2, e3, e4⟩, Nat.lt_succ_self j, e5⟩
theorem ref05_div (a b : List UInt32) (ha : a.length ≤ 100000) (hb : b.length ≤ 100000) (h0b : 0 < val b) :
    callF T 63 [.sl (u32s a) .an, .sl (u32s b) .an] = some (.tup [.sl (u32s (ofN (val a / val b))) .an, .sl (u32s (ofN (val a % val b))) .an]) := by
  obtain ⟨n, hn, hvn, hln⟩ := ref03_len (T := T) a (by omega)
  have hd0 : val a / 2 ^ n = 0 := Nat.div_eq_of_lt hvn
  obtain ⟨_, ⟨Q, L, rfl, hQ, hL, hq, hr⟩, hlp⟩ := dv_loop (T := T) a b ha hb h0b (n, List.replicate a.length 0, List.replicate (b.length + 1) 0)
    ⟨hn, by simp, by simp, by simp [val_replicate, hd0], by simp only [hd0, Nat.zero_mod]; exact val_replicate _⟩
  have hw : IntKind.wrap .i64 ((n : Int) - 1) = (n : Int) - 1 := wrap_i64 _ (by omega)
  have hw2 : IntKind.wrap .i64 ((b.length : Int) + 1) = ((b.length + 1 : Nat) : Int) := wrap_i64 _ (by omega)
  have h1 : (a.length : Int) ≤ 4294967296 := by omega
  have h2 : (b.length : Int) + 1 ≤ 4294967296 := by omega
  have hn1 := ref02_norm (T := T) Q (by omega)
  have hn2 := ref02_norm (T := T) L (by omega)
  have t1 : List.take a.length Q = Q := List.take_of_length_le (by omega)
  have t2 : List.take (b.length + 1) L = L := List.take_of_length_le (by omega)
  unfold stDv at hlp
  simp at hlp
  rw [f63 _ rfl, b63]
  simp -implicitDefEqProofs [hln, hw, hw2, h1, h2, hlp, hQ, hL, t1, t2, hn1, hn2, hq, hr]
end
end Go.Ab
end

section
namespace Go.Ab
def l2043_0 : AX :=
 (.note
 (.seq
 (.seq
 (.reg [⟨(some 6), none, .mov (.t 3)⟩,
 ⟨(some 7), none, .bin .gtr (.t 6) (.c (.i .i64 0))⟩,
 ⟨(some 8), none, .mov (.t 7)⟩,
 ⟨(some 9), (some (8, true)), .mov (.t 0)⟩,
 ⟨(some 10), (some (8, true)), .mov (.t 3)⟩,
 ⟨(some 11), (some (8, true)), .bin .sub (.t 10) (.c (.i .i64 1))⟩,
 ⟨(some 12), (some (8, true)), .iad 1 (.t 9) (.t 11)⟩,
 ⟨(some 13), (some (8, true)), .load none (.t 12)⟩,
 ⟨(some 14), (some (8, true)), .bin .eql (.t 13) (.c (u32 0))⟩,
 ⟨(some 15), none, .pick (.t 8) (.t 14) (.c (.b false))⟩])
 (.cond (.t 15)
 .skip
 (.exit 0)))
 (.block 1
 (.reg [⟨(some 16), none, .mov (.t 3)⟩,
 ⟨(some 17), none, .bin .sub (.t 16) (.c (.i .i64 1))⟩,
 ⟨(some 3), none, .mov (.t 17)⟩])))
 (.norm false [0, 3]))
def b2043 : AX :=
 (.seq
 (.reg [⟨(some 2), none, .mov (.c (.sl [] .nl))⟩])
 (.seq
 (.reg [⟨(some 4), none, .mov (.t 0)⟩,
 ⟨(some 5), none, .len (.t 4)⟩,
 ⟨(some 3), none, .mov (.t 5)⟩])
 (.seq
 (.lp 0 (.norm false [0, 3]) l2043_0 (.norm false [0, 3]))
 (.seq
 (.reg [⟨(some 18), none, .bsl 1 [(u32 0)] 0 []⟩,
 ⟨(some 19), none, .mov (.t 0)⟩,
 ⟨(some 20), none, .mov (.t 3)⟩,
 ⟨(some 21), none, .slc 1 (.t 19) none (some (.t 20)) none⟩,
 ⟨(some 22), none, .app 1 (.t 18) (.t 21)⟩,
 ⟨(some 2), none, .mov (.t 22)⟩])
 (.pre (.norm false [2]) .ret)))))
def l105_0 : AX :=
 (.note
 (.seq
 (.seq
 (.reg [⟨(some 8), none, .mov (.t 4)⟩,
 ⟨(some 9), none, .bin .geq (.t 8) (.c (.i .i64 0))⟩])
 (.cond (.t 9)
 .skip
 (.exit 0)))
 (.seq
 (.block 1
 (.seq
 (.reg [⟨(some 12), none, .mov (.t 3)⟩,
 ⟨(some 13), none, .bin .mul (.t 12) (.c (u64 4294967296))⟩,
 ⟨(some 14), none, .mov (.t 0)⟩,
 ⟨(some 15), none, .mov (.t 4)⟩,
 ⟨(some 16), none, .iad 1 (.t 14) (.t 15)⟩,
 ⟨(some 17), none, .load none (.t 16)⟩,
 ⟨(some 18), none, .conv .u64 (.t 17)⟩,
 ⟨(some 19), none, .bin .add (.t 13) (.t 18)⟩,
 ⟨(some 3), none, .mov (.t 19)⟩])
 (.seq
 (.reg [⟨(some 20), none, .mov (.t 0)⟩,
 ⟨(some 21), none, .mov (.t 4)⟩,
 ⟨(some 22), none, .mov (.t 3)⟩,
 ⟨(some 23), none, .bin .quo (.t 22) (.c (u64 10))⟩,
 ⟨(some 24), none, .conv .u32 (.t 23)⟩,
 ⟨(some 25), none, .iad 1 (.t 20) (.t 21)⟩,
 ⟨none, none, .store 1 (.t 25) (.t 24)⟩])
 (.reg [⟨(some 26), none, .mov (.t 3)⟩,
 ⟨(some 27), none, .bin .rem (.t 26) (.c (u64 10))⟩,
 ⟨(some 3), none, .mov (.t 27)⟩]))))
 (.reg [⟨(some 10), none, .mov (.t 4)⟩,
 ⟨(some 11), none, .bin .sub (.t 10) (.c (.i .i64 1))⟩,
 ⟨(some 4), none, .mov (.t 11)⟩])))
 (.norm false [0, 3, 4]))
def b105 : AX :=
 (.seq
 (.reg [⟨(some 2), none, .mov (.c (u64 0))⟩])
 (.seq
 (.reg [⟨(some 3), none, .mov (.c (u64 0))⟩])
 (.seq
 (.seq
 (.reg [⟨(some 5), none, .mov (.t 0)⟩,
 ⟨(some 6), none, .len (.t 5)⟩,
 ⟨(some 7), none, .bin .sub (.t 6) (.c (.i .i64 1))⟩,
 ⟨(some 4), none, .mov (.t 7)⟩])
 (.lp 0 (.norm false [0, 3, 4]) l105_0 (.norm false [3])))
 (.seq
 (.reg [⟨(some 28), none, .mov (.t 3)⟩,
 ⟨(some 2), none, .mov (.t 28)⟩])
 (.pre (.norm false [2]) .ret)))))
def l69_0 : AX :=
 (.note
 (.seq
 (.seq
 (.reg [⟨(some 8), none, .mov (.t 3)⟩,
 ⟨(some 9), none, .len (.t 8)⟩,
 ⟨(some 10), none, .bin .gtr (.t 9) (.c (.i .i64 0))⟩,
 ⟨(some 11), none, .mov (.t 10)⟩,
 ⟨(some 12), (some (11, false)), .mov (.t 4)⟩,
 ⟨(some 13), (some (11, false)), .bin .eql (.t 12) (.c (.s []))⟩,
 ⟨(some 14), none, .pick (.t 11) (.c (.b true)) (.t 13)⟩])
 (.cond (.t 14)
 .skip
 (.exit 0)))
 (.block 1
 (.seq
 (.reg [⟨(some 15), none, .mov (.t 3)⟩,
 ⟨(some 16), none, .call 105 [(.t 15)]⟩,
 ⟨(some 5), none, .mov (.t 16)⟩])
 (.seq
 (.reg [⟨(some 17), none, .mov (.t 5)⟩,
 ⟨(some 18), none, .mov (.t 5)⟩,
 ⟨(some 19), none, .bin .add (.t 18) (.c (u64 1))⟩,
 ⟨(some 20), none, .slstr (.c (.s [48, 49, 50, 51, 52, 53, 54, 55, 56, 57])) (some (.t 17)) (some (.t 19))⟩,
 ⟨(some 21), none, .mov (.t 4)⟩,
 ⟨(some 22), none, .bin .add (.t 20) (.t 21)⟩,
 ⟨(some 4), none, .mov (.t 22)⟩])
 (.reg [⟨(some 23), none, .mov (.t 3)⟩,
 ⟨(some 24), none, .call 2043 [(.t 23)]⟩,
 ⟨(some 3), none, .mov (.t 24)⟩])))))
 (.norm false [3, 4]))
def b69 : AX :=
 (.seq
 (.reg [⟨(some 2), none, .mov (.c (.s []))⟩])
 (.seq
 (.reg [⟨(some 6), none, .mov (.t 0)⟩,
 ⟨(some 7), none, .call 2043 [(.t 6)]⟩,
 ⟨(some 3), none, .mov (.t 7)⟩])
 (.seq
 (.reg [⟨(some 4), none, .mov (.c (.s []))⟩])
 (.seq
 (.lp 0 (.norm false [3, 4]) l69_0 (.norm false [4]))
 (.seq
 (.reg [⟨(some 25), none, .mov (.t 4)⟩,
 ⟨(some 2), none, .mov (.t 25)⟩])
 (.pre (.norm false [2]) .ret))))))
class CRef07 (T : Tbl) : Prop extends CRef05 T where
 h2043 : T 2043 = some ⟨1, 23, [.t 2], b2043, (some [false]), false⟩
 h105 : T 105 = some ⟨1, 29, [.t 2], b105, (some [true]), false⟩
 h69 : T 69 = some ⟨1, 26, [.t 2], b69, none, false⟩
section
variable {T : Tbl} [CRef07 T] {d : Option Nat} {st : St}
@[simp] theorem x2043 (xs : List AV) : callX (orc T) T 2043 xs d st = bL (frzM st.heap [false] xs) fun ys => lentX ys (shareIds (refsM [false] xs) st.heap) (reach (shareIds (refsM [false] xs) st.heap) 40 (rootsM [false] xs) []) T 2043 false d st := callX_lent CRef07.h2043
theorem f2043 (xs : List AV) (hb : Heap) (hn : xs.length = 1) : callH T 2043 xs hb = retH [.t 2] false hb.length (evX (orc T) T hb.length b2043 ⟨argEnv xs, hb, hb.length + 1⟩) := callH_eq CRef07.h2043 hn
@[simp] theorem x105 (xs : List AV) : callX (orc T) T 105 xs d st = bL (frzM st.heap [true] xs) fun ys => lentX ys (shareIds (refsM [true] xs) st.heap) (reach (shareIds (refsM [true] xs) st.heap) 40 (rootsM [true] xs) []) T 105 false d st := callX_lent CRef07.h105
theorem f105 (xs : List AV) (hb : Heap) (hn : xs.length = 1) : callH T 105 xs hb = retH [.t 2] false hb.length (evX (orc T) T hb.length b105 ⟨argEnv xs, hb, hb.length + 1⟩) := callH_eq CRef07.h105 hn
@[simp] theorem x69 (xs : List AV) : callX (orc T) T 69 xs d st = bL (frzL st.heap xs) fun ys => cR (callF T 69 (ys.map (wkIf false))) xs d st := callX_pure CRef07.h69
theorem f69 (xs : List AV) (hn : xs.length = 1) : callF T 69 xs = retF [.t 2] false (evX (orc T) T 0 b69 ⟨argEnv xs, [], 1⟩) := callF_eq CRef07.h69 hn
end
end Go.Ab
end

section
namespace Go.Ab
def l224_0 : AX :=
 (.note
 (.seq
 (.seq
 (.reg [mv 6 0, rg 7 (.bin .rem (.t 6) (.c (u32 2))), rg 8 (.bin .eql (.t 7) (.c (u32 0)))])
 (.cond (.t 8)
 .skip
 (.exit 0)))
 (.block 1
 (.seq
 (.reg [mv 9 0, rg 10 (.bin .quo (.t 9) (.c (u32 2))), mv 0 10])
 (.reg [mv 11 3, rg 12 (.bin .add (.t 11) (.c (.i .i64 1))), mv 3 12]))))
 (.norm false [0, 3]))
def b224 : AX :=
 (.seq
 (.reg [rg 2 (.mov (.c (.i .i64 0)))])
 (.seq
 (.seq
 (.reg [mv 4 0, rg 5 (.bin .eql (.t 4) (.c (u32 0)))])
 (.cond (.t 5)
 (.seq
 (.reg [rg 2 (.mov (.c (.i .i64 32)))])
 (.pre (.norm false [2]) .ret))
 .skip))
 (.seq
 (.reg [rg 3 (.mov (.c (.i .i64 0)))])
 (.seq
 (.lp 0 (.norm false [0, 3]) l224_0 (.norm false [3]))
 (.seq
 (.reg [mv 13 3, mv 2 13])
 (.pre (.norm false [2]) .ret))))))
def l225_0 : AX :=
 (.note
 (.seq
 (.seq
 (.reg [mv 7 5, mv 8 0, rg 9 (.len (.t 8)), rg 10 (.bin .lss (.t 7) (.t 9))])
 (.cond (.t 10)
 .skip
 (.exit 0)))
 (.seq
 (.block 1
 (.seq
 (.reg [rg 6 (.mov (.c (u64 0)))])
 (.seq
 (.seq
 (.reg [mv 13 5, rg 14 (.bin .add (.t 13) (.c (.i .i64 1))), mv 15 0, rg 16 (.len (.t 15)), rg 17 (.bin .lss (.t 14) (.t 16))])
 (.cond (.t 17)
 (.reg [mv 18 0, mv 19 5, rg 20 (.bin .add (.t 19) (.c (.i .i64 1))), rg 21 (.iad 1 (.t 18) (.t 20)), rg 22 (.load none (.t 21)), rg 23 (.conv .u64 (.t 22)),
 mv 6 23])
 .skip))
 (.reg [mv 24 0, mv 25 5, mv 26 6, rg 27 (.bin .mul (.t 26) (.c (u64 4294967296))), mv 28 0, mv 29 5, rg 30 (.iad 1 (.t 28) (.t 29)), rg 31 (.load none (.t 30)),
 rg 32 (.conv .u64 (.t 31)), rg 33 (.bin .add (.t 27) (.t 32)), mv 34 1, rg 35 (.bin .shr (.t 33) (.t 34)), rg 36 (.conv .u32 (.t 35)),
 rg 37 (.iad 1 (.t 24) (.t 25)), so (.store 1 (.t 37) (.t 36))]))))
 (.reg [mv 11 5, rg 12 (.bin .add (.t 11) (.c (.i .i64 1))), mv 5 12])))
 (.norm false [0, 1, 5]))
def l225_1 : AX :=
 (.note
 (.seq
 (.seq
 (.reg [mv 38 0, rg 39 (.len (.t 38)), rg 40 (.bin .gtr (.t 39) (.c (.i .i64 0))), mv 41 40, gd 42 41 true (.mov (.t 0)), gd 43 41 true (.mov (.t 0)),
 gd 44 41 true (.len (.t 43)), gd 45 41 true (.bin .sub (.t 44) (.c (.i .i64 1))), gd 46 41 true (.iad 1 (.t 42) (.t 45)),
 gd 47 41 true (.load none (.t 46)), gd 48 41 true (.bin .eql (.t 47) (.c (u32 0))), rg 49 (.pick (.t 41) (.t 48) (.c (.b false)))])
 (.cond (.t 49)
 .skip
 (.exit 2)))
 (.block 3
 (.reg [mv 50 0, mv 51 0, rg 52 (.len (.t 51)), rg 53 (.bin .sub (.t 52) (.c (.i .i64 1))), rg 54 (.slc 1 (.t 50) none (some (.t 53)) none), mv 0 54])))
 (.norm false [0]))
def b225 : AX :=
 (.seq
 (.reg [rg 4 (.mov (.c (.sl [] .nl)))])
 (.seq
 (.seq
 (.reg [rg 5 (.mov (.c (.i .i64 0)))])
 (.lp 0 (.norm false [0, 1, 5]) l225_0 (.norm false [0])))
 (.seq
 (.lp 2 (.norm false [0]) l225_1 (.norm false [0]))
 (.seq
 (.reg [mv 55 0, mv 4 55])
 (.pre (.norm false [4]) .ret)))))
def l226_0 : AX :=
 (.note
 (.seq
 (.seq
 (.reg [mv 6 0, rg 7 (.iad 1 (.t 6) (.c (.i .i64 0))), rg 8 (.load none (.t 7)), rg 9 (.bin .eql (.t 8) (.c (u32 0)))])
 (.cond (.t 9)
 .skip
 (.exit 0)))
 (.block 1
 (.seq
 (.reg [mv 10 0, rg 11 (.slc 1 (.t 10) (some (.c (.i .i64 1))) none none), mv 0 11])
 (.reg [mv 12 4, rg 13 (.bin .add (.t 12) (.c (.i .i64 32))), mv 4 13]))))
 (.norm false [0, 4]))
def b226 : AX :=
 (.seq
 (.reg [rg 2 (.mov (.c (.sl [] .nl))), rg 3 (.mov (.c (.i .i64 0)))])
 (.seq
 (.reg [rg 4 (.mov (.c (.i .i64 0)))])
 (.seq
 (.lp 0 (.norm false [0, 4]) l226_0 (.norm false [0, 4]))
 (.seq
 (.reg [mv 14 0, rg 15 (.iad 1 (.t 14) (.c (.i .i64 0))), rg 16 (.load none (.t 15)), rg 17 (.call 224 [(.t 16)]), mv 5 17])
 (.seq
 (.reg [mv 18 0, mv 19 5, rg 20 (.call 225 [(.t 18), (.t 19)]), mv 21 4, mv 22 5, rg 23 (.bin .add (.t 21) (.t 22)), mv 2 20, mv 3 23])
 (.pre (.norm false [2, 3]) .ret))))))
def b227 : AX :=
 (.seq
 (.reg [rg 4 (.mov (.c (.sl [] .nl)))])
 (.seq
 (.reg [mv 6 1, rg 7 (.bin .quo (.t 6) (.c (.i .i64 32))), rg 8 (.mks 1 [(u32 0)] (.t 7) (.t 7)), mv 9 0, rg 10 (.app 1 (.t 8) (.t 9)), mv 5 10])
 (.seq
 (.reg [mv 11 5, mv 12 1, rg 13 (.bin .rem (.t 12) (.c (.i .i64 32))), rg 14 (.bin .shl (.c (u32 1)) (.t 13)), rg 15 (.bsl 1 [(u32 0)] 1 [(0, (.t 14))]),
 rg 16 (.call 61 [(.t 11), (.t 15)]), mv 4 16])
 (.pre (.norm false [4]) .ret))))
def l228_0 : AX :=
 (.note
 (.block 1
 (.seq
 (.reg [mv 33 5, mv 34 6, rg 35 (.call 52 [(.t 33), (.t 34)]), mv 9 35])
 (.seq
 (.seq
 (.reg [mv 36 9, rg 37 (.bin .eql (.t 36) (.c (.i .i64 0)))])
 (.cond (.t 37)
 (.exit 0)
 .skip))
 (.seq
 (.seq
 (.reg [mv 38 9, rg 39 (.bin .lss (.t 38) (.c (.i .i64 0)))])
 (.cond (.t 39)
 (.seq
 (.reg [mv 40 5, mv 10 40])
 (.seq
 (.reg [mv 41 6, mv 5 41])
 (.reg [mv 42 10, mv 6 42])))
 .skip))
 (.seq
 (.reg [mv 43 5, mv 44 6, rg 45 (.call 2097 [(.t 43), (.t 44)])])
 (.reg [mv 47 5, rg 48 (.call 226 [(.t 47)]), mv 46 48, rg 49 (.ext (.t 46) 0), rg 50 (.ext (.t 46) 1), mv 5 49]))))))
 (.norm false [5, 6, 7, 8]))
def b228 : AX :=
 (.seq
 (.reg [rg 4 (.mov (.c (.sl [] .nl)))])
 (.seq
 (.reg [mv 11 0, rg 12 (.call 2043 [(.t 11)]), mv 5 12])
 (.seq
 (.reg [mv 13 1, rg 14 (.call 2043 [(.t 13)]), mv 6 14])
 (.seq
 (.seq
 (.reg [mv 15 5, rg 16 (.len (.t 15)), rg 17 (.bin .eql (.t 16) (.c (.i .i64 0)))])
 (.cond (.t 17)
 (.seq
 (.reg [mv 18 6, mv 4 18])
 (.pre (.norm false [4]) .ret))
 .skip))
 (.seq
 (.seq
 (.reg [mv 19 6, rg 20 (.len (.t 19)), rg 21 (.bin .eql (.t 20) (.c (.i .i64 0)))])
 (.cond (.t 21)
 (.seq
 (.reg [mv 22 5, mv 4 22])
 (.pre (.norm false [4]) .ret))
 .skip))
 (.seq
 (.reg [mv 24 5, rg 25 (.call 226 [(.t 24)]), mv 23 25, rg 26 (.ext (.t 23) 0), rg 27 (.ext (.t 23) 1), mv 5 26, mv 7 27])
 (.seq
 (.reg [mv 29 6, rg 30 (.call 226 [(.t 29)]), mv 28 30, rg 31 (.ext (.t 28) 0), rg 32 (.ext (.t 28) 1), mv 6 31, mv 8 32])
 (.seq
 (.lp 0 (.norm false [5, 6, 7, 8]) l228_0 (.norm false [5, 7, 8]))
 (.seq
 (.reg [mv 51 5, mv 52 7, mv 53 8, rg 54 (.mm false [(.t 52), (.t 53)]), rg 55 (.call 227 [(.t 51), (.t 54)]), mv 4 55])
 (.pre (.norm false [4]) .ret))))))))))
def b229 : AX :=
 (.seq
 (.reg [rg 2 (.mov (.c (.b false)))])
 (.seq
 (.reg [mv 3 0, rg 4 (.len (.t 3)), rg 5 (.bin .eql (.t 4) (.c (.i .i64 1))), mv 6 5, gd 7 6 true (.mov (.t 0)), gd 8 6 true (.iad 1 (.t 7) (.c (.i .i64 0))),
 gd 9 6 true (.load none (.t 8)), gd 10 6 true (.bin .eql (.t 9) (.c (u32 1))), rg 11 (.pick (.t 6) (.t 10) (.c (.b false))), mv 2 11])
 (.pre (.norm false [2]) .ret)))
def b230 : AX :=
 (.seq
 (.reg [rg 4 (.mov (.c (.sl [] .nl)))])
 (.seq
 (.seq
 (.reg [mv 7 1, rg 8 (.call 229 [(.t 7)])])
 (.cond (.t 8)
 (.seq
 (.reg [mv 9 0, rg 10 (.call 43 [(.t 9)]), mv 4 10])
 (.pre (.norm false [4]) .ret))
 .skip))
 (.seq
 (.reg [mv 12 0, mv 13 1, rg 14 (.call 63 [(.t 12), (.t 13)]), mv 11 14, rg 15 (.ext (.t 11) 0), rg 16 (.ext (.t 11) 1), mv 5 15, mv 6 16])
 (.seq
 (.reg [mv 17 5, mv 4 17])
 (.pre (.norm false [4]) .ret)))))
def l2097_0 : AX :=
 (.note
 (.seq
 (.seq
 (.reg [mv 8 5, mv 9 0, rg 10 (.len (.t 9)), rg 11 (.bin .lss (.t 8) (.t 10))])
 (.cond (.t 11)
 .skip
 (.exit 0)))
 (.seq
 (.block 1
 (.seq
 (.reg [mv 14 0, mv 15 5, rg 16 (.iad 1 (.t 14) (.t 15)), rg 17 (.load none (.t 16)), rg 18 (.conv .u64 (.t 17)), mv 6 18])
 (.seq
 (.reg [mv 19 1, mv 20 5, rg 21 (.call 84 [(.t 19), (.t 20)]), rg 22 (.conv .u64 (.t 21)), mv 23 4, rg 24 (.bin .add (.t 22) (.t 23)), mv 7 24])
 (.seq
 (.reg [rg 4 (.mov (.c (u64 0)))])
 (.seq
 (.seq
 (.reg [mv 25 6, mv 26 7, rg 27 (.bin .lss (.t 25) (.t 26))])
 (.cond (.t 27)
 (.seq
 (.reg [mv 28 6, rg 29 (.bin .add (.t 28) (.c (u64 4294967296))), mv 6 29])
 (.reg [rg 4 (.mov (.c (u64 1)))]))
 .skip))
 (.reg [mv 30 0, mv 31 5, mv 32 6, mv 33 7, rg 34 (.bin .sub (.t 32) (.t 33)), rg 35 (.conv .u32 (.t 34)), rg 36 (.iad 1 (.t 30) (.t 31)),
 so (.store 1 (.t 36) (.t 35))]))))))
 (.reg [mv 12 5, rg 13 (.bin .add (.t 12) (.c (.i .i64 1))), mv 5 13])))
 (.norm false [0, 1, 4, 5]))
def b2097 : AX :=
 (.seq
 (.reg [rg 4 (.mov (.c (u64 0)))])
 (.seq
 (.reg [rg 5 (.mov (.c (.i .i64 0)))])
 (.lp 0 (.norm false [0, 1, 4, 5]) l2097_0 (.norm false []))))
class CRef06 (T : Tbl) : Prop where
 h224 : T 224 = some ⟨1, 14, [.t 2], b224, none, false⟩
 h225 : T 225 = some ⟨2, 56, [.t 4], b225, (some [true, false]), false⟩
 h226 : T 226 = some ⟨1, 24, [.t 2, .t 3], b226, (some [true]), false⟩
 h227 : T 227 = some ⟨2, 17, [.t 4], b227, none, false⟩
 h228 : T 228 = some ⟨2, 56, [.t 4], b228, none, false⟩
 h229 : T 229 = some ⟨1, 12, [.t 2], b229, none, false⟩
 h230 : T 230 = some ⟨2, 18, [.t 4], b230, none, false⟩
 h2097 : T 2097 = some ⟨2, 37, [], b2097, (some [true, true]), false⟩
section
variable {T : Tbl} [CRef06 T] {d : Option Nat} {st : St} {xs : List AV} {ps : List Opd} {e : Env} {h : Heap} {ol : List Heap}
@[simp] theorem x224 : callX (orc T) T 224 xs d st = cP T 224 false xs d st := callX_pure CRef06.h224
theorem f224 (xs : List AV) (hn : xs.length = 1) : callF T 224 xs = retF [.t 2] false (evX (orc T) T 0 b224 ⟨argEnv xs, [], 1⟩) := callF_eq CRef06.h224 hn
@[simp] theorem x225 : callX (orc T) T 225 xs d st = cL T 225 false [true, false] xs d st := callX_lent CRef06.h225
theorem f225 (xs : List AV) (hb : Heap) (hn : xs.length = 2) : callH T 225 xs hb = retH [.t 4] false hb.length (evX (orc T) T hb.length b225 ⟨argEnv xs, hb, hb.length + 1⟩) := callH_eq CRef06.h225 hn
@[simp] theorem x226 : callX (orc T) T 226 xs d st = cL T 226 false [true] xs d st := callX_lent CRef06.h226
theorem f226 (xs : List AV) (hb : Heap) (hn : xs.length = 1) : callH T 226 xs hb = retH [.t 2, .t 3] false hb.length (evX (orc T) T hb.length b226 ⟨argEnv xs, hb, hb.length + 1⟩) := callH_eq CRef06.h226 hn
@[simp] theorem x227 : callX (orc T) T 227 xs d st = cP T 227 false xs d st := callX_pure CRef06.h227
theorem f227 (xs : List AV) (hn : xs.length = 2) : callF T 227 xs = retF [.t 4] false (evX (orc T) T 0 b227 ⟨argEnv xs, [], 1⟩) := callF_eq CRef06.h227 hn
@[simp] theorem x228 : callX (orc T) T 228 xs d st = cP T 228 false xs d st := callX_pure CRef06.h228
theorem f228 (xs : List AV) (hn : xs.length = 2) : callF T 228 xs = retF [.t 4] false (evX (orc T) T 0 b228 ⟨argEnv xs, [], 1⟩) := callF_eq CRef06.h228 hn
@[simp] theorem x229 : callX (orc T) T 229 xs d st = cP T 229 false xs d st := callX_pure CRef06.h229
theorem f229 (xs : List AV) (hn : xs.length = 1) : callF T 229 xs = retF [.t 2] false (evX (orc T) T 0 b229 ⟨argEnv xs, [], 1⟩) := callF_eq CRef06.h229 hn
@[simp] theorem x230 : callX (orc T) T 230 xs d st = cP T 230 false xs d st := callX_pure CRef06.h230
theorem f230 (xs : List AV) (hn : xs.length = 2) : callF T 230 xs = retF [.t 4] false (evX (orc T) T 0 b230 ⟨argEnv xs, [], 1⟩) := callF_eq CRef06.h230 hn
@[simp] theorem x2097 : callX (orc T) T 2097 xs d st = cL T 2097 false [true, true] xs d st := callX_lent CRef06.h2097
theorem f2097 (xs : List AV) (hb : Heap) (hn : xs.length = 2) : callH T 2097 xs hb = retH [] false hb.length (evX (orc T) T hb.length b2097 ⟨argEnv xs, hb, hb.length + 1⟩) := callH_eq CRef06.h2097 hn
end
end Go.Ab
end

section
namespace Go.Ab
theorem ten_step {left w : Nat} (h : left < 10) (hw : w < 4294967296) : (left * 4294967296 + w) / 10 < 4294967296 ∧ (left * 4294967296 + w) % 10 < 10 := by omega
section
variable {T : Tbl} [CRef07 T]
theorem ref02_norm_own (a : List UInt32) (hl : a.length ≤ 1000000) : callH T 2043 [.sl (u32s a) .an] [] =
  some (.bs (.loc 22) 1 1 0 (ofN (val a)).length, [(.loc 22, ⟨1, .own, 1, u32s (ofN (val a))⟩)]) := by
 obtain ⟨n, h1, h2, h3, h4⟩ := ofN_take a
 have hr := ref02_norm_loop (T := T) a (by omega) h1 h3 h4 a.length ⟨h1, Nat.le_refl _⟩
 rw [show l43_0 = l2043_0 from rfl] at hr
 have hlen : (ofN (val a)).length = n := by rw [← h2]; simp; omega
 have hb : n ≤ 4294967296 := by omega
 rw [f2043 _ _ rfl, b2043]
 simp -implicitDefEqProofs [hr, h1, h2, hb, hlen]
def stTen (N : Nat) (y : Nat × Nat × List UInt32) (P : List UInt32) : St :=
 ⟨[(0, .bs (.bor 0) 0 1 0 N), (3, u64 y.2.1), (4, .i .i64 ((y.1 : Int) - 1))], [(.bor 0, ⟨0, .own, 1, u32s (P.take y.1 ++ y.2.2)⟩)], 4⟩
end
section
variable {T : Tbl}
theorem ten_loop (a : List UInt32) (hl : a.length ≤ 1000000) : ∀ y : Nat × Nat × List UInt32,
  (y.1 ≤ a.length ∧ y.2.1 < 10 ∧ y.2.2.length = a.length - y.1 ∧ val (a.drop y.1) = 10 * val y.2.2 + y.2.1) →
  ∃ r, (∃ (c : Nat) (m : List UInt32), r = (Ex.n, (⟨[(3, u64 c)], [(.bor 0, ⟨0, .own, 1, u32s m⟩)], 4⟩ : St)) ∧ c < 10 ∧ m.length = a.length ∧ val a = 10 * val m + c) ∧
   loopN T 1 0 (.norm false [3]) l105_0 (stTen a.length y a) = some r := by
 refine loopN_ex _ _ (fun y => y.1) _ ?_
 rintro ⟨k, c, m⟩ ⟨hk, hc, hm, hv⟩
 simp only at hk hc hm hv
 cases k with
 | zero =>
  right
  rw [List.drop_zero] at hv
  refine ⟨_, ⟨c, m, rfl, hc, by omega, hv⟩, ?_, ?_⟩ <;> simp -implicitDefEqProofs [l105_0, stTen]
 | succ j =>
  left
  have hja : j < a.length := by omega
  have hy := u32_lt (a[j]'hja)
  have hd := List.drop_eq_getElem_cons hja
  have hw : IntKind.wrap .i64 ((j : Int) - 1) = (j : Int) - 1 := wrap_i64 _ (by omega)
  have ht : a.take (j + 1) = a.take j ++ [a[j]'hja] := List.take_succ_eq_append_getElem hja
  have hg : (a.take (j + 1) ++ m)[j]? = some (a[j]'hja) := by
   rw [ht, List.append_assoc, List.getElem?_append_right (by simp; omega)]
   simp [Nat.min_eq_left (Nat.le_of_lt hja)]
  have hset : ∀ w, (a.take (j + 1) ++ m).set j w = a.take j ++ w :: m := by
   intro w
   rw [ht, List.append_assoc, List.set_append_right _ _ (by simp; omega)]
   simp [Nat.min_eq_left (Nat.le_of_lt hja)]
  have hlen : (a.take (j + 1) ++ m).length = a.length := by simp; omega
  obtain ⟨s1, s2⟩ := ten_step hc hy
  refine ⟨(j, (c * 4294967296 + (a[j]'hja).toNat) % 10, w32 ((c * 4294967296 + (a[j]'hja).toNat) / 10) :: m), ⟨by simp only; omega, s2, by simp [hm]; omega, ?_⟩, Nat.lt_succ_self j, ?_⟩
  ·simp only
   rw [hd, val_cons, hv, val_cons, w32_of_lt s1]
   generalize (a[j]'hja).toNat = w at *
   omega
  ·have m1 : c * 4294967296 % 18446744073709551616 = c * 4294967296 := Nat.mod_eq_of_lt (by omega)
   have m2 : (a[j]'hja).toNat % 18446744073709551616 = (a[j]'hja).toNat := Nat.mod_eq_of_lt (by omega)
   have m3 : (c * 4294967296 + (a[j]'hja).toNat) % 18446744073709551616 = c * 4294967296 + (a[j]'hja).toNat := Nat.mod_eq_of_lt (by omega)
   have m4 : (c * 4294967296 + (a[j]'hja).toNat) / 10 % 18446744073709551616 = (c * 4294967296 + (a[j]'hja).toNat) / 10 := Nat.mod_eq_of_lt (by omega)
   have m5 : (c * 4294967296 + (a[j]'hja).toNat) / 10 % 4294967296 = (c * 4294967296 + (a[j]'hja).toNat) / 10 := Nat.mod_eq_of_lt (by omega)
   simp -implicitDefEqProofs [l105_0, stTen, hja, hw, hg, hset, m1, m2, m3, m4, m5, u32s_set _ _ _ s1]
end
section
variable {T : Tbl} [CRef07 T]
theorem ref07_ten (a : List UInt32) (hl : a.length ≤ 1000000) : ∃ m : List UInt32, m.length = a.length ∧ val m = val a / 10 ∧
  callH T 105 [.bs (.bor 0) 0 1 0 a.length] [(.bor 0, ⟨0, .own, 1, u32s a⟩)] = some (u64 (val a % 10), [(.bor 0, ⟨0, .own, 1, u32s m⟩)]) := by
 obtain ⟨_, ⟨c, m, rfl, hc, hm, hv⟩, hr⟩ := ten_loop (T := T) a hl (a.length, 0, []) ⟨Nat.le_refl _, (by decide : 0 < 10), by simp, by simp⟩
 have e1 : val a % 10 = c := by omega
 have hw : IntKind.wrap .i64 ((a.length : Int) - 1) = (a.length : Int) - 1 := wrap_i64 _ (by omega)
 refine ⟨m, hm, by omega, ?_⟩
 unfold stTen at hr
 simp at hr
 rw [e1, f105 _ _ rfl, b105]
 simp -implicitDefEqProofs [hw, hr]
def stTx (b : BId) (x : List UInt32) (s : List UInt8) : St := ⟨[(3, .bs b 1 1 0 x.length), (4, .s s)], [(b, ⟨1, .own, 1, u32s x⟩)], 3⟩
theorem tx_loop (K : Nat) (hK : 1 ≤ K ∧ K ≤ 100000) (res : List UInt8) : ∀ y : BId × Nat × List UInt8, ((y.1 = .fld (.loc 7) 22 ∨ y.1 = .fld (.loc 24) 22) ∧ (ofN y.2.1).length ≤ 1000 ∧ y.2.2.length ≤ K ∧ y.2.1 < 10 ^ (K - y.2.2.length) ∧ txN y.2.1 y.2.2 = res) →
  loopN T 0 0 (.norm false [4]) l69_0 (stTx y.1 (ofN y.2.1) y.2.2) = some (.n, ⟨[(4, .s res)], [], 2⟩) := by
 refine loopN_eq (fun y : BId × Nat × List UInt8 => stTx y.1 (ofN y.2.1) y.2.2) _ (fun y => y.2.1 + if y.2.2 = [] then 1 else 0) _ ?_
 rintro ⟨b, n, s⟩ ⟨hb, hl, hs, hn, hres⟩
 simp only at hb hl hs hn hres
 by_cases h0 : n = 0 ∧ s ≠ []
 ·right
  obtain ⟨rfl, hs0⟩ := h0
  have hr : res = s := by rw [← hres]; unfold txN; rw [if_pos ⟨rfl, hs0⟩]
  subst hr
  constructor <;> simp -implicitDefEqProofs [l69_0, stTx, hs0]
 ·left
  have hor : n = 0 → s = [] := fun h => Classical.byContradiction fun h2 => h0 ⟨h, h2⟩
  obtain ⟨m, hm, hvm, hten⟩ := ref07_ten (T := T) (ofN n) (by omega)
  rw [val_ofN] at hvm hten
  have hno := ref02_norm_own (T := T) m (by omega)
  rw [hvm] at hno
  have hd10 : n % 10 < 10 := Nat.mod_lt _ (by decide)
  have hdig := digit_at (n % 10) hd10
  have hstep := txN_step n s ((Nat.eq_zero_or_pos n).elim (fun h => .inr (hor h)) (fun h => .inl (by omega)))
  have hol : (ofN (n / 10)).length ≤ (ofN n).length := ofN_len_le (Nat.div_le_self _ _)
  have hk1 : s.length < K := by
   rcases Nat.lt_or_ge s.length K with h | h
   ·exact h
   ·rw [show K - s.length = 0 by omega, Nat.pow_zero] at hn
    rw [hor (by omega)] at h
    simp at h
    omega
  have hk2 : n / 10 < 10 ^ (K - (s.length + 1)) := by
   refine Nat.div_lt_of_lt_mul ?_
   rw [Nat.mul_comm, ← Nat.pow_succ, show (K - (s.length + 1)).succ = K - s.length by omega]
   exact hn
  have hgo : ¬ 0 < (ofN n).length → s = [] := by
   intro h
   exact hor (ofN_eq_nil.1 (List.eq_nil_of_length_eq_zero (by omega)))
  obtain ⟨d, hd⟩ : ∃ d, d = n % 10 := ⟨_, rfl⟩
  obtain ⟨q, hq⟩ : ∃ q, q = n / 10 := ⟨_, rfl⟩
  rw [← hd] at hten hd10 hdig hstep
  rw [← hq] at hno hstep hol hk2
  refine ⟨(.fld (.loc 24) 22, q, UInt8.ofNat (48 + d) :: s), ⟨.inr rfl, by simp only; omega, by simp only [List.length_cons]; omega, hk2, hstep.trans hres⟩, ?_, ?_, rfl⟩
  ·simp only [reduceCtorEq, if_false]
   rcases Nat.eq_zero_or_pos n with h1 | h1
   ·rw [if_pos (hor h1)]; omega
   ·split <;> omega
  ·have m1 : (d + 1) % 18446744073709551616 = d + 1 := Nat.mod_eq_of_lt (by omega)
   have m2 : (d : Int) + 1 ≤ 10 := by omega
   have m3 : 1 + s.length ≤ 9223372036854775807 := by omega
   have m4 : List.take (ofN n).length m = m := List.take_of_length_le (by omega)
   simp at hdig
   clear hd hq hn hk2 hvm
   rcases hb with rfl | rfl <;> by_cases hl0 : 0 < (ofN n).length
   ·simp -implicitDefEqProofs [l69_0, stTx, hten, hno, hdig, m1, m2, m3, m4, hm, hl0]
   ·have := hgo hl0
    subst this
    simp -implicitDefEqProofs [l69_0, stTx, hten, hno, hdig, m1, m2, m4, hm, hl0]
   ·simp -implicitDefEqProofs [l69_0, stTx, hten, hno, hdig, m1, m2, m3, m4, hm, hl0]
   ·have := hgo hl0
    subst this
    simp -implicitDefEqProofs [l69_0, stTx, hten, hno, hdig, m1, m2, m4, hm, hl0]
theorem ref07_text (a : List UInt32) (hl : a.length ≤ 1000) : callF T 69 [.sl (u32s a) .an] = some (.s (textN (val a))) := by
 have hno := ref02_norm_own (T := T) a (by omega)
 have hla := ofN_length_le a
 obtain ⟨K, hK⟩ : ∃ K, K = 10000 := ⟨_, rfl⟩
 have hv : val a < 10 ^ (K - 0) := by
  have h1 := val_lt a
  have h2 : 4294967296 ^ a.length ≤ (10 ^ 10) ^ a.length := Nat.pow_le_pow_left (by decide) _
  rw [← Nat.pow_mul] at h2
  have h3 : 10 ^ (10 * a.length) ≤ 10 ^ (K - 0) := Nat.pow_le_pow_right (by decide) (by omega)
  exact Nat.lt_of_lt_of_le h1 (Nat.le_trans h2 h3)
 have h := tx_loop (T := T) K ⟨by omega, by omega⟩ (textN (val a)) (.fld (.loc 7) 22, val a, []) ⟨.inl rfl, by simp only; omega, Nat.zero_le _, hv, by unfold txN; simp⟩
 unfold stTx at h
 simp at h
 rw [f69 _ rfl, b69]
 simp -implicitDefEqProofs [hno, h]
end
end Go.Ab
end

section
namespace Go.Ab
def b39 : AX :=
 (.seq
 (.reg [⟨(some 1), none, .xop (.box 2) [(.t 0)]⟩,
 ⟨(some 2), none, .alloc [(.b false), (.sl [] .nl)]⟩])
 (.seq
 (.reg [⟨(some 4), none, .fad 1 (.t 1)⟩,
 ⟨(some 5), none, .load none (.t 4)⟩,
 ⟨(some 6), none, .call 43 [(.t 5)]⟩,
 ⟨(some 3), none, .mov (.t 6)⟩])
 (.seq
 (.reg [⟨(some 7), none, .fad 0 (.t 1)⟩,
 ⟨(some 8), none, .load none (.t 7)⟩,
 ⟨(some 9), none, .mov (.t 8)⟩,
 ⟨(some 10), (some (9, true)), .mov (.t 3)⟩,
 ⟨(some 11), (some (9, true)), .len (.t 10)⟩,
 ⟨(some 12), (some (9, true)), .bin .gtr (.t 11) (.c (.i .i64 0))⟩,
 ⟨(some 13), none, .pick (.t 9) (.t 12) (.c (.b false))⟩,
 ⟨(some 14), none, .mov (.t 3)⟩,
 ⟨(some 15), none, .build [(.b false), (.sl [] .nl)] [(0, 1, (.t 13)), (1, 1, (.t 14))]⟩,
 ⟨none, none, .store 2 (.t 2) (.t 15)⟩])
 (.pre (.norm false [2]) .ret))))
def b21 : AX :=
 (.seq
 (.reg [⟨(some 2), none, .xop (.box 2) [(.t 0)]⟩,
 ⟨(some 3), none, .xop (.box 2) [(.t 1)]⟩,
 ⟨(some 4), none, .mov (.c (.b false))⟩])
 (.seq
 (.reg [⟨(some 5), none, .fad 0 (.t 2)⟩,
 ⟨(some 6), none, .load none (.t 5)⟩,
 ⟨(some 7), none, .fad 0 (.t 3)⟩,
 ⟨(some 8), none, .load none (.t 7)⟩,
 ⟨(some 9), none, .eqb false (.t 6) (.t 8)⟩,
 ⟨(some 10), none, .mov (.t 9)⟩,
 ⟨(some 11), (some (10, true)), .fad 1 (.t 2)⟩,
 ⟨(some 12), (some (10, true)), .load none (.t 11)⟩,
 ⟨(some 13), (some (10, true)), .fad 1 (.t 3)⟩,
 ⟨(some 14), (some (10, true)), .load none (.t 13)⟩,
 ⟨(some 15), (some (10, true)), .call 54 [(.t 12), (.t 14)]⟩,
 ⟨(some 16), none, .pick (.t 10) (.t 15) (.c (.b false))⟩,
 ⟨(some 4), none, .mov (.t 16)⟩])
 (.pre (.norm false [4]) .ret)))
def b30 : AX :=
 (.seq
 (.reg [⟨(some 1), none, .xop (.box 2) [(.t 0)]⟩,
 ⟨(some 2), none, .mov (.c (.i .i64 0))⟩])
 (.seq
 (.reg [⟨(some 4), none, .load (some 2) (.t 1)⟩,
 ⟨(some 5), none, .call 39 [(.t 4)]⟩,
 ⟨(some 3), none, .alloc [(.b false), (.sl [] .nl)]⟩,
 ⟨none, none, .store 2 (.t 3) (.t 5)⟩])
 (.seq
 (.seq
 (.reg [⟨(some 6), none, .fad 1 (.t 3)⟩,
 ⟨(some 7), none, .load none (.t 6)⟩,
 ⟨(some 8), none, .len (.t 7)⟩,
 ⟨(some 9), none, .bin .eql (.t 8) (.c (.i .i64 0))⟩])
 (.cond (.t 9)
 (.seq
 (.reg [⟨(some 2), none, .mov (.c (.i .i64 0))⟩])
 (.pre (.norm false [2]) .ret))
 .skip))
 (.seq
 (.seq
 (.reg [⟨(some 10), none, .fad 0 (.t 3)⟩,
 ⟨(some 11), none, .load none (.t 10)⟩])
 (.cond (.t 11)
 (.seq
 (.reg [⟨(some 2), none, .mov (.c (.i .i64 (-1)))⟩])
 (.pre (.norm false [2]) .ret))
 .skip))
 (.seq
 (.reg [⟨(some 2), none, .mov (.c (.i .i64 1))⟩])
 (.pre (.norm false [2]) .ret))))))
def b26 : AX :=
 (.seq
 (.reg [⟨(some 1), none, .xop (.box 2) [(.t 0)]⟩,
 ⟨(some 2), none, .alloc [(.b false), (.sl [] .nl)]⟩])
 (.seq
 (.reg [⟨(some 3), none, .fad 0 (.t 1)⟩,
 ⟨(some 4), none, .load none (.t 3)⟩,
 ⟨(some 5), none, .un .not (.t 4)⟩,
 ⟨(some 6), none, .fad 1 (.t 1)⟩,
 ⟨(some 7), none, .load none (.t 6)⟩,
 ⟨(some 8), none, .build [(.b false), (.sl [] .nl)] [(0, 1, (.t 5)), (1, 1, (.t 7))]⟩,
 ⟨(some 9), none, .call 39 [(.t 8)]⟩,
 ⟨none, none, .store 2 (.t 2) (.t 9)⟩])
 (.pre (.norm false [2]) .ret)))
def b24 : AX :=
 (.seq
 (.reg [⟨(some 2), none, .xop (.box 2) [(.t 0)]⟩,
 ⟨(some 3), none, .xop (.box 2) [(.t 1)]⟩,
 ⟨(some 4), none, .alloc [(.b false), (.sl [] .nl)]⟩])
 (.seq
 (.seq
 (.reg [⟨(some 5), none, .fad 0 (.t 2)⟩,
 ⟨(some 6), none, .load none (.t 5)⟩,
 ⟨(some 7), none, .fad 0 (.t 3)⟩,
 ⟨(some 8), none, .load none (.t 7)⟩,
 ⟨(some 9), none, .eqb false (.t 6) (.t 8)⟩])
 (.cond (.t 9)
 (.seq
 (.drawT [⟨(some 10), none, .fad 0 (.t 2)⟩,
 ⟨(some 11), none, .load none (.t 10)⟩,
 ⟨(some 12), none, .fad 1 (.t 2)⟩,
 ⟨(some 13), none, .load none (.t 12)⟩,
 ⟨(some 14), none, .fad 1 (.t 3)⟩,
 ⟨(some 15), none, .load none (.t 14)⟩,
 ⟨(some 16), none, .call 58 [(.t 13), (.t 15)]⟩]
 [⟨(some 17), none, .build [(.b false), (.sl [] .nl)] [(0, 1, (.t 11)), (1, 1, (.t 16))]⟩,
 ⟨(some 18), none, .call 39 [(.t 17)]⟩,
 ⟨none, none, .store 2 (.t 4) (.t 18)⟩])
 (.pre (.norm false [4]) .ret))
 .skip))
 (.seq
 (.seq
 (.reg [⟨(some 19), none, .fad 1 (.t 2)⟩,
 ⟨(some 20), none, .load none (.t 19)⟩,
 ⟨(some 21), none, .fad 1 (.t 3)⟩,
 ⟨(some 22), none, .load none (.t 21)⟩,
 ⟨(some 23), none, .call 52 [(.t 20), (.t 22)]⟩,
 ⟨(some 24), none, .bin .lss (.t 23) (.c (.i .i64 0))⟩])
 (.cond (.t 24)
 (.seq
 (.drawT [⟨(some 25), none, .fad 0 (.t 3)⟩,
 ⟨(some 26), none, .load none (.t 25)⟩,
 ⟨(some 27), none, .fad 1 (.t 3)⟩,
 ⟨(some 28), none, .load none (.t 27)⟩,
 ⟨(some 29), none, .fad 1 (.t 2)⟩,
 ⟨(some 30), none, .load none (.t 29)⟩,
 ⟨(some 31), none, .call 59 [(.t 28), (.t 30)]⟩]
 [⟨(some 32), none, .build [(.b false), (.sl [] .nl)] [(0, 1, (.t 26)), (1, 1, (.t 31))]⟩,
 ⟨(some 33), none, .call 39 [(.t 32)]⟩,
 ⟨none, none, .store 2 (.t 4) (.t 33)⟩])
 (.pre (.norm false [4]) .ret))
 .skip))
 (.seq
 (.drawT [⟨(some 34), none, .fad 0 (.t 2)⟩,
 ⟨(some 35), none, .load none (.t 34)⟩,
 ⟨(some 36), none, .fad 1 (.t 2)⟩,
 ⟨(some 37), none, .load none (.t 36)⟩,
 ⟨(some 38), none, .fad 1 (.t 3)⟩,
 ⟨(some 39), none, .load none (.t 38)⟩,
 ⟨(some 40), none, .call 59 [(.t 37), (.t 39)]⟩]
 [⟨(some 41), none, .build [(.b false), (.sl [] .nl)] [(0, 1, (.t 35)), (1, 1, (.t 40))]⟩,
 ⟨(some 42), none, .call 39 [(.t 41)]⟩,
 ⟨none, none, .store 2 (.t 4) (.t 42)⟩])
 (.pre (.norm false [4]) .ret)))))
def b28 : AX :=
 (.seq
 (.reg [⟨(some 2), none, .xop (.box 2) [(.t 0)]⟩,
 ⟨(some 3), none, .xop (.box 2) [(.t 1)]⟩,
 ⟨(some 4), none, .alloc [(.b false), (.sl [] .nl)]⟩])
 (.seq
 (.drawT [⟨(some 5), none, .fad 0 (.t 2)⟩,
 ⟨(some 6), none, .load none (.t 5)⟩,
 ⟨(some 7), none, .fad 0 (.t 3)⟩,
 ⟨(some 8), none, .load none (.t 7)⟩,
 ⟨(some 9), none, .eqb true (.t 6) (.t 8)⟩,
 ⟨(some 10), none, .fad 1 (.t 2)⟩,
 ⟨(some 11), none, .load none (.t 10)⟩,
 ⟨(some 12), none, .fad 1 (.t 3)⟩,
 ⟨(some 13), none, .load none (.t 12)⟩,
 ⟨(some 14), none, .call 61 [(.t 11), (.t 13)]⟩]
 [⟨(some 15), none, .build [(.b false), (.sl [] .nl)] [(0, 1, (.t 9)), (1, 1, (.t 14))]⟩,
 ⟨(some 16), none, .call 39 [(.t 15)]⟩,
 ⟨none, none, .store 2 (.t 4) (.t 16)⟩])
 (.pre (.norm false [4]) .ret)))
def b31 : AX :=
 (.seq
 (.reg [⟨(some 2), none, .xop (.box 2) [(.t 0)]⟩,
 ⟨(some 3), none, .xop (.box 2) [(.t 1)]⟩,
 ⟨(some 4), none, .alloc [(.b false), (.sl [] .nl)]⟩,
 ⟨(some 5), none, .alloc [(.b false), (.sl [] .nl)]⟩])
 (.seq
 (.reg [⟨(some 10), none, .fad 1 (.t 2)⟩,
 ⟨(some 11), none, .load none (.t 10)⟩,
 ⟨(some 12), none, .fad 1 (.t 3)⟩,
 ⟨(some 13), none, .load none (.t 12)⟩,
 ⟨(some 14), none, .call 63 [(.t 11), (.t 13)]⟩,
 ⟨(some 9), none, .mov (.t 14)⟩,
 ⟨(some 15), none, .ext (.t 9) 0⟩,
 ⟨(some 16), none, .ext (.t 9) 1⟩,
 ⟨(some 6), none, .mov (.t 15)⟩,
 ⟨(some 7), none, .mov (.t 16)⟩])
 (.seq
 (.seq
 (.reg [⟨(some 17), none, .fad 0 (.t 2)⟩,
 ⟨(some 18), none, .load none (.t 17)⟩,
 ⟨(some 19), none, .fad 0 (.t 3)⟩,
 ⟨(some 20), none, .load none (.t 19)⟩,
 ⟨(some 21), none, .eqb true (.t 18) (.t 20)⟩,
 ⟨(some 22), none, .mov (.t 21)⟩,
 ⟨(some 23), (some (22, true)), .mov (.t 7)⟩,
 ⟨(some 24), (some (22, true)), .len (.t 23)⟩,
 ⟨(some 25), (some (22, true)), .bin .gtr (.t 24) (.c (.i .i64 0))⟩,
 ⟨(some 26), none, .pick (.t 22) (.t 25) (.c (.b false))⟩])
 (.cond (.t 26)
 (.reg [⟨(some 27), none, .mov (.t 6)⟩,
 ⟨(some 28), none, .bsl 1 [(u32 0)] 1 [(0, (.c (u32 1)))]⟩,
 ⟨(some 29), none, .call 58 [(.t 27), (.t 28)]⟩,
 ⟨(some 6), none, .mov (.t 29)⟩])
 .skip))
 (.seq
 (.reg [⟨(some 30), none, .fad 0 (.t 2)⟩,
 ⟨(some 31), none, .load none (.t 30)⟩,
 ⟨(some 32), none, .fad 0 (.t 3)⟩,
 ⟨(some 33), none, .load none (.t 32)⟩,
 ⟨(some 34), none, .eqb true (.t 31) (.t 33)⟩,
 ⟨(some 35), none, .mov (.t 6)⟩,
 ⟨(some 36), none, .build [(.b false), (.sl [] .nl)] [(0, 1, (.t 34)), (1, 1, (.t 35))]⟩,
 ⟨(some 37), none, .call 39 [(.t 36)]⟩,
 ⟨(some 8), none, .alloc [(.b false), (.sl [] .nl)]⟩,
 ⟨none, none, .store 2 (.t 8) (.t 37)⟩])
 (.seq
 (.drawT [⟨(some 38), none, .load (some 2) (.t 8)⟩,
 ⟨(some 39), none, .load (some 2) (.t 2)⟩,
 ⟨(some 40), none, .load (some 2) (.t 8)⟩,
 ⟨(some 41), none, .load (some 2) (.t 3)⟩,
 ⟨(some 42), none, .call 28 [(.t 40), (.t 41)]⟩,
 ⟨(some 43), none, .call 26 [(.t 42)]⟩,
 ⟨(some 44), none, .call 24 [(.t 39), (.t 43)]⟩]
 [⟨none, none, .store 2 (.t 4) (.t 38)⟩,
 ⟨none, none, .store 2 (.t 5) (.t 44)⟩])
 (.pre (.norm false [4, 5]) .ret))))))
def b35 : AX :=
 (.seq
 (.reg [⟨(some 1), none, .xop (.box 2) [(.t 0)]⟩,
 ⟨(some 2), none, .mov (.c (.s []))⟩])
 (.seq
 (.reg [⟨(some 4), none, .fad 1 (.t 1)⟩,
 ⟨(some 5), none, .load none (.t 4)⟩,
 ⟨(some 6), none, .call 69 [(.t 5)]⟩,
 ⟨(some 3), none, .mov (.t 6)⟩])
 (.seq
 (.seq
 (.reg [⟨(some 7), none, .load (some 2) (.t 1)⟩,
 ⟨(some 8), none, .call 30 [(.t 7)]⟩,
 ⟨(some 9), none, .bin .lss (.t 8) (.c (.i .i64 0))⟩])
 (.cond (.t 9)
 (.reg [⟨(some 10), none, .mov (.t 3)⟩,
 ⟨(some 11), none, .bin .add (.c (.s [45])) (.t 10)⟩,
 ⟨(some 3), none, .mov (.t 11)⟩])
 .skip))
 (.seq
 (.reg [⟨(some 12), none, .mov (.t 3)⟩,
 ⟨(some 2), none, .mov (.t 12)⟩])
 (.pre (.norm false [2]) .ret)))))
def b33 : AX :=
 (.seq
 (.reg [⟨(some 2), none, .alloc [(.b false), (.sl [] .nl)]⟩,
 ⟨(some 3), none, .mov (.c (.i .i64 0))⟩])
 (.seq
 (.reg [⟨(some 7), none, .mov (.t 0)⟩,
 ⟨(some 8), none, .lens (.t 7)⟩,
 ⟨(some 9), none, .bin .gtr (.t 8) (.c (.i .i64 0))⟩,
 ⟨(some 10), none, .mov (.t 9)⟩,
 ⟨(some 11), (some (10, true)), .mov (.t 0)⟩,
 ⟨(some 12), (some (10, true)), .ixs (.t 11) (.c (.i .i64 0))⟩,
 ⟨(some 13), (some (10, true)), .bin .eql (.t 12) (.c (u8 45))⟩,
 ⟨(some 14), none, .pick (.t 10) (.t 13) (.c (.b false))⟩,
 ⟨(some 4), none, .mov (.t 14)⟩])
 (.seq
 (.reg [⟨(some 5), none, .mov (.c (.i .i64 0))⟩])
 (.seq
 (.seq
 (.reg [⟨(some 15), none, .mov (.t 4)⟩])
 (.cond (.t 15)
 (.reg [⟨(some 5), none, .mov (.c (.i .i64 1))⟩])
 .skip))
 (.seq
 (.reg [⟨(some 16), none, .mov (.t 0)⟩,
 ⟨(some 17), none, .mov (.t 5)⟩,
 ⟨(some 18), none, .slstr (.t 16) (some (.t 17)) none⟩,
 ⟨(some 19), none, .call 66 [(.t 18)]⟩,
 ⟨(some 6), none, .mov (.t 19)⟩])
 (.seq
 (.seq
 (.reg [⟨(some 20), none, .mov (.t 6)⟩,
 ⟨(some 21), none, .bin .geq (.t 20) (.c (.i .i64 0))⟩])
 (.cond (.t 21)
 (.seq
 (.reg [⟨(some 22), none, .build [(.b false), (.sl [] .nl)] []⟩,
 ⟨(some 23), none, .mov (.t 5)⟩,
 ⟨(some 24), none, .mov (.t 6)⟩,
 ⟨(some 25), none, .bin .add (.t 23) (.t 24)⟩,
 ⟨none, none, .store 2 (.t 2) (.t 22)⟩,
 ⟨(some 3), none, .mov (.t 25)⟩])
 (.pre (.norm false [2, 3]) .ret))
 .skip))
 (.seq
 (.reg [⟨(some 26), none, .mov (.t 4)⟩,
 ⟨(some 27), none, .mov (.t 0)⟩,
 ⟨(some 28), none, .mov (.t 5)⟩,
 ⟨(some 29), none, .slstr (.t 27) (some (.t 28)) none⟩,
 ⟨(some 30), none, .call 67 [(.t 29)]⟩,
 ⟨(some 31), none, .build [(.b false), (.sl [] .nl)] [(0, 1, (.t 26)), (1, 1, (.t 30))]⟩,
 ⟨(some 32), none, .call 39 [(.t 31)]⟩,
 ⟨none, none, .store 2 (.t 2) (.t 32)⟩,
 ⟨(some 3), none, .mov (.c (.i .i64 (-1)))⟩])
 (.pre (.norm false [2, 3]) .ret))))))))
class CRef08 (T : Tbl) : Prop extends CRef07 T where
 h39 : T 39 = some ⟨1, 16, [.cell 2 (some 2)], b39, none, false⟩
 h21 : T 21 = some ⟨2, 17, [.t 4], b21, none, false⟩
 h30 : T 30 = some ⟨1, 12, [.t 2], b30, none, false⟩
 h26 : T 26 = some ⟨1, 10, [.cell 2 (some 2)], b26, none, false⟩
 h24 : T 24 = some ⟨2, 43, [.cell 4 (some 2)], b24, none, false⟩
 h28 : T 28 = some ⟨2, 17, [.cell 4 (some 2)], b28, none, false⟩
 h31 : T 31 = some ⟨2, 45, [.cell 4 (some 2), .cell 5 (some 2)], b31, none, false⟩
 h35 : T 35 = some ⟨1, 13, [.t 2], b35, none, false⟩
 h33 : T 33 = some ⟨1, 33, [.cell 2 (some 2), .t 3], b33, none, false⟩
section
variable {T : Tbl} [CRef08 T] {d : Option Nat} {st : St}
@[simp] theorem x39 (xs : List AV) : callX (orc T) T 39 xs d st = bL (frzL st.heap xs) fun ys => cR (callF T 39 (ys.map (wkIf false))) xs d st := callX_pure CRef08.h39
theorem f39 (xs : List AV) (hn : xs.length = 1) : callF T 39 xs = retF [.cell 2 (some 2)] false (evX (orc T) T 0 b39 ⟨argEnv xs, [], 1⟩) := callF_eq CRef08.h39 hn
@[simp] theorem x21 (xs : List AV) : callX (orc T) T 21 xs d st = bL (frzL st.heap xs) fun ys => cR (callF T 21 (ys.map (wkIf false))) xs d st := callX_pure CRef08.h21
theorem f21 (xs : List AV) (hn : xs.length = 2) : callF T 21 xs = retF [.t 4] false (evX (orc T) T 0 b21 ⟨argEnv xs, [], 1⟩) := callF_eq CRef08.h21 hn
@[simp] theorem x30 (xs : List AV) : callX (orc T) T 30 xs d st = bL (frzL st.heap xs) fun ys => cR (callF T 30 (ys.map (wkIf false))) xs d st := callX_pure CRef08.h30
theorem f30 (xs : List AV) (hn : xs.length = 1) : callF T 30 xs = retF [.t 2] false (evX (orc T) T 0 b30 ⟨argEnv xs, [], 1⟩) := callF_eq CRef08.h30 hn
@[simp] theorem x26 (xs : List AV) : callX (orc T) T 26 xs d st = bL (frzL st.heap xs) fun ys => cR (callF T 26 (ys.map (wkIf false))) xs d st := callX_pure CRef08.h26
@[simp] theorem y26 {e : Env} {h : Heap} {older : List Heap} (args : List Opd) : opD (orc T) T (.call 26 args) e h older = dR (callF T 26 ((args.map (ev e.get)).map (wkIf false))) (args.map (ev e.get)) := opD_call CRef08.h26
theorem f26 (xs : List AV) (hn : xs.length = 1) : callF T 26 xs = retF [.cell 2 (some 2)] false (evX (orc T) T 0 b26 ⟨argEnv xs, [], 1⟩) := callF_eq CRef08.h26 hn
@[simp] theorem x24 (xs : List AV) : callX (orc T) T 24 xs d st = bL (frzL st.heap xs) fun ys => cR (callF T 24 (ys.map (wkIf false))) xs d st := callX_pure CRef08.h24
@[simp] theorem y24 {e : Env} {h : Heap} {older : List Heap} (args : List Opd) : opD (orc T) T (.call 24 args) e h older = dR (callF T 24 ((args.map (ev e.get)).map (wkIf false))) (args.map (ev e.get)) := opD_call CRef08.h24
theorem f24 (xs : List AV) (hn : xs.length = 2) : callF T 24 xs = retF [.cell 4 (some 2)] false (evX (orc T) T 0 b24 ⟨argEnv xs, [], 1⟩) := callF_eq CRef08.h24 hn
@[simp] theorem x28 (xs : List AV) : callX (orc T) T 28 xs d st = bL (frzL st.heap xs) fun ys => cR (callF T 28 (ys.map (wkIf false))) xs d st := callX_pure CRef08.h28
@[simp] theorem y28 {e : Env} {h : Heap} {older : List Heap} (args : List Opd) : opD (orc T) T (.call 28 args) e h older = dR (callF T 28 ((args.map (ev e.get)).map (wkIf false))) (args.map (ev e.get)) := opD_call CRef08.h28
theorem f28 (xs : List AV) (hn : xs.length = 2) : callF T 28 xs = retF [.cell 4 (some 2)] false (evX (orc T) T 0 b28 ⟨argEnv xs, [], 1⟩) := callF_eq CRef08.h28 hn
@[simp] theorem x31 (xs : List AV) : callX (orc T) T 31 xs d st = bL (frzL st.heap xs) fun ys => cR (callF T 31 (ys.map (wkIf false))) xs d st := callX_pure CRef08.h31
@[simp] theorem y31 {e : Env} {h : Heap} {older : List Heap} (args : List Opd) : opD (orc T) T (.call 31 args) e h older = dR (callF T 31 ((args.map (ev e.get)).map (wkIf false))) (args.map (ev e.get)) := opD_call CRef08.h31
theorem f31 (xs : List AV) (hn : xs.length = 2) : callF T 31 xs = retF [.cell 4 (some 2), .cell 5 (some 2)] false (evX (orc T) T 0 b31 ⟨argEnv xs, [], 1⟩) := callF_eq CRef08.h31 hn
@[simp] theorem x35 (xs : List AV) : callX (orc T) T 35 xs d st = bL (frzL st.heap xs) fun ys => cR (callF T 35 (ys.map (wkIf false))) xs d st := callX_pure CRef08.h35
theorem f35 (xs : List AV) (hn : xs.length = 1) : callF T 35 xs = retF [.t 2] false (evX (orc T) T 0 b35 ⟨argEnv xs, [], 1⟩) := callF_eq CRef08.h35 hn
@[simp] theorem x33 (xs : List AV) : callX (orc T) T 33 xs d st = bL (frzL st.heap xs) fun ys => cR (callF T 33 (ys.map (wkIf false))) xs d st := callX_pure CRef08.h33
end
end Go.Ab
end

section
namespace Go.Ab
def b231 : AX :=
 (.seq
 (.reg [rg 1 (.xop (.box 3) [(.t 0)]), rg 2 (.alloc [(.b false), (.sl [] .nl), (.sl [] .nl)])])
 (.seq
 (.reg [rg 6 (.fad 2 (.t 1)), rg 7 (.load none (.t 6)), rg 8 (.call 43 [(.t 7)]), mv 3 8])
 (.seq
 (.reg [rg 9 (.fad 1 (.t 1)), rg 10 (.load none (.t 9)), rg 11 (.call 43 [(.t 10)]), mv 4 11])
 (.seq
 (.seq
 (.reg [mv 12 3, rg 13 (.len (.t 12)), rg 14 (.bin .eql (.t 13) (.c (.i .i64 0))), mv 15 14, gd 16 15 false (.mov (.t 4)), gd 17 15 false (.len (.t 16)),
 gd 18 15 false (.bin .eql (.t 17) (.c (.i .i64 0))), rg 19 (.pick (.t 15) (.c (.b true)) (.t 18))])
 (.cond (.t 19)
 (.seq
 (.reg [rg 20 (.bsl 1 [(u32 0)] 0 []), rg 21 (.bsl 1 [(u32 0)] 1 [(0, (.c (u32 1)))]),
 rg 22 (.build [(.b false), (.sl [] .nl), (.sl [] .nl)] [(1, 1, (.t 20)), (2, 1, (.t 21))]), so (.store 3 (.t 2) (.t 22))])
 (.pre (.norm false [2]) .ret))
 .skip))
 (.seq
 (.seq
 (.reg [mv 23 3, rg 24 (.call 229 [(.t 23)]), rg 25 (.un .not (.t 24))])
 (.cond (.t 25)
 (.seq
 (.reg [mv 26 4, mv 27 3, rg 28 (.call 228 [(.t 26), (.t 27)]), mv 5 28])
 (.seq
 (.reg [mv 29 4, mv 30 5, rg 31 (.call 230 [(.t 29), (.t 30)]), mv 4 31])
 (.reg [mv 32 3, mv 33 5, rg 34 (.call 230 [(.t 32), (.t 33)]), mv 3 34])))
 .skip))
 (.seq
 (.reg [rg 35 (.fad 0 (.t 1)), rg 36 (.load none (.t 35)), mv 37 4, mv 38 3,
 rg 39 (.build [(.b false), (.sl [] .nl), (.sl [] .nl)] [(0, 1, (.t 36)), (1, 1, (.t 37)), (2, 1, (.t 38))]), so (.store 3 (.t 2) (.t 39))])
 (.pre (.norm false [2]) .ret)))))))
def b234 : AX :=
 (.seq
 (.reg [rg 1 (.xop (.box 3) [(.t 0)]), rg 2 (.alloc [(.b false), (.sl [] .nl)])])
 (.seq
 (.reg [rg 3 (.fad 0 (.t 1)), rg 4 (.load none (.t 3)), rg 5 (.fad 1 (.t 1)), rg 6 (.load none (.t 5)),
 rg 7 (.build [(.b false), (.sl [] .nl)] [(0, 1, (.t 4)), (1, 1, (.t 6))]), so (.store 2 (.t 2) (.t 7))])
 (.pre (.norm false [2]) .ret)))
def b247 : AX :=
 (.seq
 (.reg [rg 2 (.xop (.box 3) [(.t 0)]), rg 4 (.mov (.c (.b false)))])
 (.seq
 (.reg [rg 5 (.fad 1 (.t 2)), rg 6 (.load none (.t 5)), rg 7 (.len (.t 6)), mv 8 1, rg 9 (.bin .gtr (.t 7) (.t 8)), mv 10 9, gd 11 10 false (.fad 2 (.t 2)),
 gd 12 10 false (.load none (.t 11)), gd 13 10 false (.len (.t 12)), gd 14 10 false (.mov (.t 1)), gd 15 10 false (.bin .gtr (.t 13) (.t 14)),
 rg 16 (.pick (.t 10) (.c (.b true)) (.t 15)), mv 4 16])
 (.pre (.norm false [4]) .ret)))
def b246 : AX :=
 (.seq
 (.reg [rg 1 (.xop (.box 3) [(.t 0)]), rg 2 (.alloc [(.b false), (.sl [] .nl)])])
 (.seq
 (.drawM [rg 6 (.load (some 3) (.t 1)), rg 7 (.call 234 [(.t 6)]), rg 8 (.fad 2 (.t 1)), rg 9 (.load none (.t 8)),
 rg 10 (.build [(.b false), (.sl [] .nl)] [(1, 1, (.t 9))]), rg 11 (.call 31 [(.t 7), (.t 10)]), mv 5 11, rg 12 (.ext (.t 5) 0), rg 13 (.ext (.t 5) 1),
 rg 3 (.alloc [(.b false), (.sl [] .nl)]), rg 4 (.alloc [(.b false), (.sl [] .nl)])]
 [so (.store 2 (.t 3) (.t 12)), so (.store 2 (.t 4) (.t 13))])
 (.seq
 (.reg [rg 14 (.load (some 2) (.t 3)), so (.store 2 (.t 2) (.t 14))])
 (.pre (.norm false [2]) .ret))))
class CRef09 (T : Tbl) : Prop where
 h231 : T 231 = some ⟨1, 40, [.cell 2 (some 3)], b231, none, false⟩
 h234 : T 234 = some ⟨1, 8, [.cell 2 (some 2)], b234, none, false⟩
 h246 : T 246 = some ⟨1, 15, [.cell 2 (some 2)], b246, none, false⟩
 h247 : T 247 = some ⟨2, 17, [.t 4], b247, none, false⟩
section
variable {T : Tbl} [CRef09 T] {d : Option Nat} {st : St} {xs : List AV} {ps : List Opd} {e : Env} {h : Heap} {ol : List Heap}
@[simp] theorem x231 : callX (orc T) T 231 xs d st = cP T 231 false xs d st := callX_pure CRef09.h231
theorem f231 (xs : List AV) (hn : xs.length = 1) : callF T 231 xs = retF [.cell 2 (some 3)] false (evX (orc T) T 0 b231 ⟨argEnv xs, [], 1⟩) := callF_eq CRef09.h231 hn
@[simp] theorem x234 : callX (orc T) T 234 xs d st = cP T 234 false xs d st := callX_pure CRef09.h234
@[simp] theorem y234 : opD (orc T) T (.call 234 ps) e h ol = dP T 234 false ps e := opD_call CRef09.h234
theorem f234 (xs : List AV) (hn : xs.length = 1) : callF T 234 xs = retF [.cell 2 (some 2)] false (evX (orc T) T 0 b234 ⟨argEnv xs, [], 1⟩) := callF_eq CRef09.h234 hn
@[simp] theorem x246 : callX (orc T) T 246 xs d st = cP T 246 false xs d st := callX_pure CRef09.h246
theorem f246 (xs : List AV) (hn : xs.length = 1) : callF T 246 xs = retF [.cell 2 (some 2)] false (evX (orc T) T 0 b246 ⟨argEnv xs, [], 1⟩) := callF_eq CRef09.h246 hn
@[simp] theorem x247 : callX (orc T) T 247 xs d st = cP T 247 false xs d st := callX_pure CRef09.h247
theorem f247 (xs : List AV) (hn : xs.length = 2) : callF T 247 xs = retF [.t 4] false (evX (orc T) T 0 b247 ⟨argEnv xs, [], 1⟩) := callF_eq CRef09.h247 hn
end
end Go.Ab
end

section
namespace Go.Ab
def b259 : AX :=
 (.seq
 (.reg [rg 1 (.xop (.box 3) [(.t 0)]), rg 2 (.mov (.c (.s [])))])
 (.seq
 (.reg [rg 4 (.load (some 3) (.t 1)), rg 5 (.call 234 [(.t 4)]), rg 6 (.call 35 [(.t 5)]), mv 3 6])
 (.seq
 (.seq
 (.reg [rg 7 (.fad 2 (.t 1)), rg 8 (.load none (.t 7)), rg 9 (.call 229 [(.t 8)]), rg 10 (.un .not (.t 9))])
 (.cond (.t 10)
 (.reg [mv 11 3, rg 12 (.fad 2 (.t 1)), rg 13 (.load none (.t 12)), rg 14 (.call 69 [(.t 13)]), rg 15 (.bin .add (.c (.s [47])) (.t 14)),
 rg 16 (.bin .add (.t 11) (.t 15)), mv 3 16])
 .skip))
 (.seq
 (.reg [mv 17 3, mv 2 17])
 (.pre (.norm false [2]) .ret)))))
def l260_0 : AX :=
 (.note
 (.seq
 (.seq
 (.reg [mv 6 4, mv 7 0, rg 8 (.bin .lss (.t 6) (.t 7))])
 (.cond (.t 8)
 .skip
 (.exit 0)))
 (.seq
 (.block 1
 (.reg [mv 11 3, rg 12 (.bsl 1 [(u32 0)] 1 [(0, (.c (u32 10)))]), rg 13 (.call 61 [(.t 11), (.t 12)]), mv 3 13]))
 (.reg [mv 9 4, rg 10 (.bin .add (.t 9) (.c (.i .i64 1))), mv 4 10])))
 (.norm false [0, 3, 4]))
def b260 : AX :=
 (.seq
 (.reg [rg 2 (.mov (.c (.sl [] .nl)))])
 (.seq
 (.reg [rg 5 (.bsl 1 [(u32 0)] 1 [(0, (.c (u32 1)))]), mv 3 5])
 (.seq
 (.seq
 (.reg [rg 4 (.mov (.c (.i .i64 0)))])
 (.lp 0 (.norm false [0, 3, 4]) l260_0 (.norm false [3])))
 (.seq
 (.reg [mv 14 3, mv 2 14])
 (.pre (.norm false [2]) .ret)))))
def l262_0 : AX :=
 (.note
 (.seq
 (.seq
 (.reg [mv 33 7, rg 34 (.lens (.t 33)), mv 35 1, rg 36 (.bin .leq (.t 34) (.t 35))])
 (.cond (.t 36)
 .skip
 (.exit 0)))
 (.block 1
 (.reg [mv 37 7, rg 38 (.bin .add (.c (.s [48])) (.t 37)), mv 7 38])))
 (.norm false [1, 2, 6, 7]))
def b262 : AX :=
 (.seq
 (.reg [rg 2 (.xop (.box 3) [(.t 0)]), rg 4 (.mov (.c (.s [])))])
 (.seq
 (.reg [mv 9 1, rg 10 (.mm true [(.t 9), (.c (.i .i64 0))]), rg 11 (.mm false [(.t 10), (.c (.i .i64 60))]), mv 1 11])
 (.seq
 (.drawT [rg 12 (.fad 1 (.t 2)), rg 13 (.load none (.t 12)), mv 14 1, rg 15 (.call 260 [(.t 14)]), rg 16 (.call 61 [(.t 13), (.t 15)]),
 rg 17 (.bsl 1 [(u32 0)] 1 [(0, (.c (u32 2)))]), rg 18 (.call 61 [(.t 16), (.t 17)]), rg 19 (.fad 2 (.t 2)), rg 20 (.load none (.t 19))]
 [rg 21 (.call 58 [(.t 18), (.t 20)]), mv 5 21])
 (.seq
 (.reg [mv 22 5, rg 23 (.fad 2 (.t 2)), rg 24 (.load none (.t 23)), rg 25 (.bsl 1 [(u32 0)] 1 [(0, (.c (u32 2)))]), rg 26 (.call 61 [(.t 24), (.t 25)]),
 rg 27 (.build [(.b false), (.sl [] .nl), (.sl [] .nl)] [(1, 1, (.t 22)), (2, 1, (.t 26))]), rg 28 (.call 231 [(.t 27)]), rg 29 (.call 246 [(.t 28)]),
 rg 6 (.alloc [(.b false), (.sl [] .nl)]), so (.store 2 (.t 6) (.t 29))])
 (.seq
 (.reg [rg 30 (.fad 1 (.t 6)), rg 31 (.load none (.t 30)), rg 32 (.call 69 [(.t 31)]), mv 7 32])
 (.seq
 (.lp 0 (.norm false [1, 2, 6, 7]) l262_0 (.norm false [1, 2, 6, 7]))
 (.seq
 (.reg [rg 8 (.mov (.c (.s [])))])
 (.seq
 (.seq
 (.reg [rg 39 (.fad 0 (.t 2)), rg 40 (.load none (.t 39)), mv 41 40, gd 42 41 true (.fad 1 (.t 6)), gd 43 41 true (.load none (.t 42)),
 gd 44 41 true (.len (.t 43)), gd 45 41 true (.bin .gtr (.t 44) (.c (.i .i64 0))), rg 46 (.pick (.t 41) (.t 45) (.c (.b false)))])
 (.cond (.t 46)
 (.reg [rg 8 (.mov (.c (.s [45])))])
 .skip))
 (.seq
 (.seq
 (.reg [mv 47 1, rg 48 (.bin .gtr (.t 47) (.c (.i .i64 0)))])
 (.cond (.t 48)
 (.drawT [mv 49 7, mv 50 7, rg 51 (.lens (.t 50)), mv 52 1, rg 53 (.bin .sub (.t 51) (.t 52)), rg 54 (.slstr (.t 49) none (some (.t 53))),
 rg 55 (.bin .add (.t 54) (.c (.s [46]))), mv 56 7, mv 57 7, rg 58 (.lens (.t 57)), mv 59 1, rg 60 (.bin .sub (.t 58) (.t 59)),
 rg 61 (.slstr (.t 56) (some (.t 60)) none)]
 [rg 62 (.bin .add (.t 55) (.t 61)), mv 7 62])
 .skip))
 (.seq
 (.reg [mv 63 8, mv 64 7, rg 65 (.bin .add (.t 63) (.t 64)), mv 4 65])
 (.pre (.norm false [4]) .ret)))))))))))
class CRef10 (T : Tbl) : Prop where
 h259 : T 259 = some ⟨1, 18, [.t 2], b259, none, false⟩
 h260 : T 260 = some ⟨1, 15, [.t 2], b260, none, false⟩
 h262 : T 262 = some ⟨2, 66, [.t 4], b262, none, false⟩
section
variable {T : Tbl} [CRef10 T] {d : Option Nat} {st : St} {xs : List AV} {ps : List Opd} {e : Env} {h : Heap} {ol : List Heap}
@[simp] theorem y259 : opD (orc T) T (.call 259 ps) e h ol = dP T 259 false ps e := opD_call CRef10.h259
theorem f259 (xs : List AV) (hn : xs.length = 1) : callF T 259 xs = retF [.t 2] false (evX (orc T) T 0 b259 ⟨argEnv xs, [], 1⟩) := callF_eq CRef10.h259 hn
@[simp] theorem y260 : opD (orc T) T (.call 260 ps) e h ol = dP T 260 false ps e := opD_call CRef10.h260
theorem f260 (xs : List AV) (hn : xs.length = 1) : callF T 260 xs = retF [.t 2] false (evX (orc T) T 0 b260 ⟨argEnv xs, [], 1⟩) := callF_eq CRef10.h260 hn
@[simp] theorem x262 : callX (orc T) T 262 xs d st = cP T 262 false xs d st := callX_pure CRef10.h262
theorem f262 (xs : List AV) (hn : xs.length = 2) : callF T 262 xs = retF [.t 4] false (evX (orc T) T 0 b262 ⟨argEnv xs, [], 1⟩) := callF_eq CRef10.h262 hn
end
end Go.Ab
end

section
namespace Go.Ab
class CRef11 (T : Tbl) : Prop where
end Go.Ab
end

section
namespace Go.Ab
class CRef11b (T : Tbl) : Prop where
end Go.Ab
end

section
namespace Go.Ab
def b248 : AX :=
 (.seq
 (.reg [rg 1 (.xop (.box 3) [(.t 0)]), rg 2 (.alloc [(.b false), (.sl [] .nl), (.sl [] .nl)])])
 (.seq
 (.reg [rg 3 (.fad 0 (.t 1)), rg 4 (.load none (.t 3)), rg 5 (.fad 1 (.t 1)), rg 6 (.load none (.t 5)),
 rg 7 (.build [(.b false), (.sl [] .nl)] [(0, 1, (.t 4)), (1, 1, (.t 6))]), rg 8 (.fad 2 (.t 1)), rg 9 (.load none (.t 8)),
 rg 10 (.build [(.b false), (.sl [] .nl), (.sl [] .nl)] [(0, 2, (.t 7)), (2, 1, (.t 9))]), so (.store 3 (.t 2) (.t 10))])
 (.pre (.norm false [2]) .ret)))
class CLaw09 (T : Tbl) : Prop where
 h248 : T 248 = some ⟨1, 11, [.cell 2 (some 3)], b248, none, false⟩
section
variable {T : Tbl} [CLaw09 T] {d : Option Nat} {st : St} {xs : List AV} {ps : List Opd} {e : Env} {h : Heap} {ol : List Heap}
@[simp] theorem x248 : callX (orc T) T 248 xs d st = cP T 248 false xs d st := callX_pure CLaw09.h248
theorem f248 (xs : List AV) (hn : xs.length = 1) : callF T 248 xs = retF [.cell 2 (some 3)] false (evX (orc T) T 0 b248 ⟨argEnv xs, [], 1⟩) := callF_eq CLaw09.h248 hn
end
end Go.Ab
end

section
namespace Go.Ab
class CLaw11 (T : Tbl) : Prop where
end Go.Ab
end

section
namespace Go.Ab
def b317 : AX :=
 (.seq
 (.reg [rg 2 (.xop (.box 3) [(.t 0)]), rg 4 (.mov (.c (.b false)))])
 (.seq
 (.seq
 (.reg [rg 7 (.load (some 3) (.t 2)), rg 8 (.call 247 [(.t 7), (.c (.i .i64 20))])])
 (.cond (.t 8)
 (.seq
 (.reg [rg 9 (.call 333 []), mv 4 9])
 (.pre (.norm false [4]) .ret))
 .skip))
 (.seq
 (.reg [rg 10 (.load (some 3) (.t 2)), rg 11 (.call 248 [(.t 10)]), rg 5 (.alloc [(.b false), (.sl [] .nl), (.sl [] .nl)]), so (.store 3 (.t 5) (.t 11))])
 (.seq
 (.reg [rg 12 (.load (some 3) (.t 2)), rg 13 (.call 231 [(.t 12)]), rg 6 (.alloc [(.b false), (.sl [] .nl), (.sl [] .nl)]), so (.store 3 (.t 6) (.t 13))])
 (.seq
 (.drawT [rg 14 (.load (some 3) (.t 5)), rg 15 (.call 251 [(.t 14)]), rg 16 (.load (some 3) (.t 6)), rg 17 (.call 259 [(.t 16)]),
 rg 18 (.bin .eql (.t 15) (.t 17)), mv 19 18, gd 20 19 true (.load (some 3) (.t 5)), gd 21 19 true (.mov (.t 1)),
 gd 22 19 true (.call 257 [(.t 20), (.t 21)]), gd 23 19 true (.load (some 3) (.t 6)), gd 24 19 true (.mov (.t 1))]
 [gd 25 19 true (.call 262 [(.t 23), (.t 24)]), gd 26 19 true (.bin .eql (.t 22) (.t 25)), rg 27 (.pick (.t 19) (.t 26) (.c (.b false))), mv 28 27,
 gd 29 28 true (.call 333 []), rg 30 (.pick (.t 28) (.t 29) (.c (.b false))), mv 4 30])
 (.pre (.norm false [4]) .ret))))))
def b333 : AX :=
 (.seq
 (.reg [rg 0 (.mov (.c (.b false)))])
 (.seq
 (.reg [rg 6 (.call 256 [(.c (.s [45, 49, 46, 50, 53]))]), mv 5 6, rg 7 (.ext (.t 5) 0), rg 8 (.ext (.t 5) 1),
 rg 1 (.alloc [(.b false), (.sl [] .nl), (.sl [] .nl)]), rg 2 (.alloc [(.i .i64 0), (.i .i64 0), (.i .i64 0), (.i .i64 0)]), so (.store 3 (.t 1) (.t 7)),
 so (.store 4 (.t 2) (.t 8))])
 (.seq
 (.reg [rg 10 (.call 256 [(.c (.s [49, 47, 48]))]), mv 9 10, rg 11 (.ext (.t 9) 0), rg 12 (.ext (.t 9) 1),
 rg 3 (.alloc [(.b false), (.sl [] .nl), (.sl [] .nl)]), rg 4 (.alloc [(.i .i64 0), (.i .i64 0), (.i .i64 0), (.i .i64 0)]), so (.store 3 (.t 3) (.t 11)),
 so (.store 4 (.t 4) (.t 12))])
 (.seq
 (.reg [rg 13 (.load (some 3) (.t 1)), rg 14 (.call 251 [(.t 13)]), rg 15 (.bin .eql (.t 14) (.c (.s [45, 53, 47, 52]))), mv 16 15,
 gd 17 16 true (.load (some 4) (.t 2)), gd 18 16 true (.build [(.i .i64 0), (.i .i64 0), (.i .i64 0), (.i .i64 0)] []),
 gd 19 16 true (.eqs false [(0, .int), (1, .int), (2, .int), (3, .int)] (.t 17) (.t 18)), rg 20 (.pick (.t 16) (.t 19) (.c (.b false))), mv 21 20,
 gd 22 21 true (.load (some 4) (.t 4)),
 gd 23 21 true (.build [(.i .i64 0), (.i .i64 0), (.i .i64 0), (.i .i64 0)] [(0, 1, (.c (.i .i64 2))), (3, 1, (.c (.i .i64 2)))]),
 gd 24 21 true (.eqs false [(0, .int), (1, .int), (2, .int), (3, .int)] (.t 22) (.t 23)), rg 25 (.pick (.t 21) (.t 24) (.c (.b false))), mv 26 25,
 gd 27 26 true (.load (some 3) (.t 1)), gd 28 26 true (.call 257 [(.t 27), (.c (.i .i64 1))]),
 gd 29 26 true (.bin .eql (.t 28) (.c (.s [45, 49, 46, 51]))), rg 30 (.pick (.t 26) (.t 29) (.c (.b false))), mv 0 30])
 (.pre (.norm false [0]) .ret)))))
class CLaw10 (T : Tbl) : Prop where
 h317 : T 317 = some ⟨2, 31, [.t 4], b317, none, false⟩
 h333 : T 333 = some ⟨0, 31, [.t 0], b333, none, false⟩
section
variable {T : Tbl} [CLaw10 T] {d : Option Nat} {st : St} {xs : List AV} {ps : List Opd} {e : Env} {h : Heap} {ol : List Heap}
theorem f317 (xs : List AV) (hn : xs.length = 2) : callF T 317 xs = retF [.t 4] false (evX (orc T) T 0 b317 ⟨argEnv xs, [], 1⟩) := callF_eq CLaw10.h317 hn
@[simp] theorem x333 : callX (orc T) T 333 xs d st = cP T 333 false xs d st := callX_pure CLaw10.h333
theorem f333 (xs : List AV) (hn : xs.length = 0) : callF T 333 xs = retF [.t 0] false (evX (orc T) T 0 b333 ⟨argEnv xs, [], 1⟩) := callF_eq CLaw10.h333 hn
end
end Go.Ab
end

section
namespace Go.Ab
class CLenD (T : Tbl) : Prop where
end Go.Ab
end

section
namespace Go.Ab
open Go.RowKit
def opU : AOp → List Nat
 | .call u _ => [u]
 | .ifc k _ => [1000000 + k]
 | .inv _ k u _ _ => [1000000 + k, u]
 | _ => []
def cXs : AX → List Nat
 | .reg l => l.flatMap fun o => opU o.op
 | .draw l => l.flatMap fun o => opU o.ao.op
 | .drawT hd tl => (hd.flatMap fun o => opU o.op) ++ tl.flatMap fun o => opU o.op
 | .drawM hd tl => (hd.flatMap fun o => opU o.op) ++ tl.flatMap fun o => opU o.op
 | .seq a b => cXs a ++ cXs b
 | .cond _ x y => cXs x ++ cXs y
 | .block _ c | .loop c | .note c _ | .pre _ c | .scope c | .lp _ _ c _ => cXs c
 | _ => []
structure Agr (R : Nat → Bool) (T T' : Tbl) (O O' : Orc) : Prop where
 tbl : ∀ u, R u = true → T u = T' u
 call : ∀ u xs hb, R u = true → O.call u xs hb = O'.call u xs hb
 loop : ∀ k c st, (∀ u ∈ cXs c, R u = true) → O.loop k c st = O'.loop k c st
section
variable {R : Nat → Bool} {T T' : Tbl} {O O' : Orc}
theorem callX_agr (h : Agr R T T' O O') {u : Nat} (hu : R u = true) {xs : List AV} {d : Option Nat} {st : St} : callX O T u xs d st = callX O' T' u xs d st := by
 unfold callX
 rw [h.tbl u hu]
 simp only [h.call u _ _ hu]
theorem opX_agr (h : Agr R T T' O O') {op : AOp} (hu : ∀ u ∈ opU op, R u = true) {d : Option Nat} {st : St} : opX O T op d st = opX O' T' op d st := by
 cases op <;> simp only [opX]
 case call u args => exact callX_agr h (hu _ (by simp [opU]))
 case ifc k x => unfold tyNum; rw [h.tbl _ (hu _ (by simp [opU]))]
 case inv nm k u r args =>
  have e1 : tyNum T k = tyNum T' k := by unfold tyNum; rw [h.tbl _ (hu _ (by simp [opU]))]
  have e2 : methsT T k = methsT T' k := by unfold methsT; rw [h.tbl _ (hu _ (by simp [opU]))]
  rw [e1, e2]
  simp only [callX_agr h (hu u (by simp [opU]))]
theorem stepX_agr (h : Agr R T T' O O') {o : AO} (hu : ∀ u ∈ opU o.op, R u = true) {st : St} : stepX O T o st = stepX O' T' o st := by
 unfold stepX gX
 simp only [opX_agr h hu]
theorem runX_agr (h : Agr R T T' O O') : ∀ (l : List AO), (∀ o ∈ l, ∀ u ∈ opU o.op, R u = true) → ∀ st, runX O T l st = runX O' T' l st
 | [], _, st => rfl
 | o :: l, hu, st => by
  simp only [runX]
  rw [stepX_agr h (hu o List.mem_cons_self)]
  congr 1
  funext s
  exact runX_agr h l (fun o ho => hu o (List.mem_cons_of_mem _ ho)) s
theorem opD_agr (h : Agr R T T' O O') {op : AOp} (hu : ∀ u ∈ opU op, R u = true) {e : Env} {hp : Heap} {older : List Heap} : opD O T op e hp older = opD O' T' op e hp older := by
 cases op <;> simp only [opD]
 case call u args =>
  rw [h.tbl _ (hu _ (by simp [opU]))]
  simp only [h.call _ _ _ (hu _ (show u ∈ _ by simp [opU]))]
 case ifc k x => unfold tyNum; rw [h.tbl _ (hu _ (by simp [opU]))]
 case inv nm k u r args =>
  have e1 : tyNum T k = tyNum T' k := by unfold tyNum; rw [h.tbl _ (hu _ (by simp [opU]))]
  have e2 : methsT T k = methsT T' k := by unfold methsT; rw [h.tbl _ (hu _ (by simp [opU]))]
  rw [e1, e2, h.tbl u (hu u (by simp [opU]))]
  simp only [h.call u _ _ (hu u (by simp [opU]))]
theorem qX_agr (h : Agr R T T' O O') {o : AO} (hu : ∀ u ∈ opU o.op, R u = true) {e : Env} {hp : Heap} {older : List Heap} : qX O T o e hp older = qX O' T' o e hp older := by
 unfold qX
 simp only [opD_agr h hu]
theorem drawX_agr (h : Agr R T T' O O') : ∀ (l : List DO), (∀ o ∈ l, ∀ u ∈ opU o.ao.op, R u = true) → ∀ e hp clk older pend, drawX O T l e hp clk older pend = drawX O' T' l e hp clk older pend
 | [], _, e, hp, clk, older, pend => rfl
 | o :: l, hu, e, hp, clk, older, pend => by
  have ih := drawX_agr h l (fun o ho => hu o (List.mem_cons_of_mem _ ho))
  simp only [drawX]
  rw [qX_agr h (hu o List.mem_cons_self)]
  simp only [ih]
theorem headX_agr (h : Agr R T T' O O') (tl : List AO) (ht : ∀ o ∈ tl, ∀ u ∈ opU o.op, R u = true) : ∀ (l : List AO), (∀ o ∈ l, ∀ u ∈ opU o.op, R u = true) → ∀ e hp clk, headX O T tl l e hp clk = headX O' T' tl l e hp clk
 | [], _, e, hp, clk => runX_agr h tl ht _
 | o :: l, hu, e, hp, clk => by
  have ih := headX_agr h tl ht l (fun o ho => hu o (List.mem_cons_of_mem _ ho))
  simp only [headX]
  rw [qX_agr h (hu o List.mem_cons_self)]
  simp only [ih]
theorem callM_agr (h : Agr R T T' O O') {u : Nat} (hu : R u = true) {xs : List AV} {d clk : Nat} : callM O T u xs d clk = callM O' T' u xs d clk := by
 unfold callM
 rw [h.tbl u hu]
 simp only [h.call u _ _ hu]
theorem headM_agr (h : Agr R T T' O O') (tl : List AO) (ht : ∀ o ∈ tl, ∀ u ∈ opU o.op, R u = true) (h0 : Heap) (c0 : Nat) : ∀ (l : List AO), (∀ o ∈ l, ∀ u ∈ opU o.op, R u = true) → ∀ e hp clk, headM O T tl h0 c0 l e hp clk = headM O' T' tl h0 c0 l e hp clk
 | [], _, e, hp, clk => runX_agr h tl ht _
 | o :: l, hu, e, hp, clk => by
  have ih := headM_agr h tl ht h0 c0 l (fun o ho => hu o (List.mem_cons_of_mem _ ho))
  simp only [headM]
  rw [qX_agr h (hu o List.mem_cons_self)]
  simp only [ih]
  cases hm : o.op.maker with
  | true => rfl
  | false =>
   cases hl : o.op.lentN with
   | none => rfl
   | some ua =>
    have hua : R ua.1 = true := hu o List.mem_cons_self _ (by rw [lentN_spec hl]; simp [opU])
    simp only [callM_agr h hua]
theorem evX_agr (h : Agr R T T' O O') (k : Nat) : ∀ (c : AX), (∀ u ∈ cXs c, R u = true) → ∀ st, evX O T k c st = evX O' T' k c st
 | .skip, _, st => rfl
 | .reg l, hu, st => by
  simp only [evX]
  rw [runX_agr h l fun o ho u hou => hu u (List.mem_flatMap.2 ⟨o, ho, hou⟩)]
 | .draw l, hu, st => by
  simp only [evX]
  rw [drawX_agr h l fun o ho u hou => hu u (List.mem_flatMap.2 ⟨o, ho, hou⟩)]
 | .drawT hd tl, hu, st => by
  simp only [evX]
  rw [headX_agr h tl (fun o ho u hou => hu u (List.mem_append_right _ (List.mem_flatMap.2 ⟨o, ho, hou⟩))) hd (fun o ho u hou => hu u (List.mem_append_left _ (List.mem_flatMap.2 ⟨o, ho, hou⟩)))]
 | .drawM hd tl, hu, st => by
  simp only [evX]
  rw [headM_agr h tl (fun o ho u hou => hu u (List.mem_append_right _ (List.mem_flatMap.2 ⟨o, ho, hou⟩))) _ _ hd (fun o ho u hou => hu u (List.mem_append_left _ (List.mem_flatMap.2 ⟨o, ho, hou⟩)))]
 | .bad, _, st => rfl
 | .prim f, _, st => rfl
 | .seq a b, hu, st => by
  simp only [evX]
  rw [evX_agr h k a fun u hm => hu u (List.mem_append_left _ hm)]
  congr 1
  funext r
  rw [evX_agr h k b fun u hm => hu u (List.mem_append_right _ hm)]
 | .cond c x y, hu, st => by
  simp only [evX]
  rw [evX_agr h k x fun u hm => hu u (List.mem_append_left _ hm), evX_agr h k y fun u hm => hu u (List.mem_append_right _ hm)]
 | .block id c, hu, st => by
  simp only [evX]
  rw [evX_agr h k c hu]
 | .loop c, hu, st => h.loop k c st hu
 | .exit id, _, st => rfl
 | .ret, _, st => rfl
 | .note c g, hu, st => by
  simp only [evX]
  rw [evX_agr h k c hu]
 | .pre g c, hu, st => by
  simp only [evX]
  congr 1
  funext s
  exact evX_agr h k c hu s
 | .scope c, hu, st => by
  simp only [evX]
  exact evX_agr h k c hu st
 | .lp id g c g2, hu, st => by
  simp only [evX, h.loop k c _ hu]
theorem nextO_agr (hc : ∀ u af, R u = true → T u = some af → ∀ v ∈ cXs af.body, R v = true) (h : Agr R T T' O O') : Agr R T T' (nextO T O) (nextO T' O') where
 tbl := h.tbl
 call u xs hb hu := by
  simp only [nextO]
  rw [← h.tbl u hu]
  cases ht : T u with
  | none => rfl
  | some af =>
   simp only
   rw [evX_agr h hb.length af.body (hc u af hu ht)]
 loop k c st hu := by
  simp only [nextO]
  rw [evX_agr h k c hu]
  congr 1
  funext r
  rw [h.loop k c _ hu]
theorem orcN_agr (ht : ∀ u, R u = true → T u = T' u) (hc : ∀ u af, R u = true → T u = some af → ∀ v ∈ cXs af.body, R v = true) : ∀ n, Agr R T T' (orcN T n) (orcN T' n)
 | 0 => ⟨ht, fun _ _ _ _ => rfl, fun _ _ _ _ => rfl⟩
 | n + 1 => nextO_agr hc (orcN_agr ht hc n)
theorem orc_agr (ht : ∀ u, R u = true → T u = T' u) (hc : ∀ u af, R u = true → T u = some af → ∀ v ∈ cXs af.body, R v = true) : Agr R T T' (orc T) (orc T') := by
 refine ⟨ht, fun u xs hb hu => ?_, fun k c st hu => ?_⟩
 ·simp only [orc]
  congr 1
  funext n
  exact (orcN_agr ht hc n).call u xs hb hu
 ·simp only [orc]
  congr 1
  funext n
  exact (orcN_agr ht hc n).loop k c st hu
end
theorem mem_of_lookup {l : List (Nat × AFx)} {u : Nat} {af : AFx} (h : l.lookup u = some af) : (u, af) ∈ l := by
 induction l with
 | nil => cases h
 | cons q l ih =>
  obtain ⟨q1, q2⟩ := q
  simp only [List.lookup_cons] at h
  split at h
  ·rename_i he
   have := eq_of_beq he
   subst this
   cases h
   exact List.mem_cons_self
  ·exact List.mem_cons_of_mem _ (ih h)
structure Part (l l' : List (Nat × AFx)) : Prop where
 sub : ∀ p ∈ l', l.lookup p.1 = some p.2
 clo : (l'.all fun p => (cXs p.2.body).all fun v => (l'.lookup v).isSome || (l.lookup v).isNone) = true
theorem Part.agr {l l' : List (Nat × AFx)} (h : Part l l') : Agr (fun u => (l'.lookup u).isSome || (l.lookup u).isNone) (fun u => l.lookup u) (fun u => l'.lookup u) (orc fun u => l.lookup u) (orc fun u => l'.lookup u) := by
 refine orc_agr (fun v hv => ?_) (fun v a hv hva w hw => ?_)
 ·cases hv2 : l'.lookup v with
  | none =>
   simp only [hv2] at hv
   cases hv3 : l.lookup v with
   | none => rfl
   | some a => rw [hv3] at hv; cases hv
  | some a => exact h.sub _ (mem_of_lookup hv2)
 ·cases hv2 : l'.lookup v with
  | none => simp only [hv2, hva] at hv; cases hv
  | some b =>
   have hb := mem_of_lookup hv2
   have h1 := h.sub _ hb
   simp only at hva h1
   rw [hva] at h1
   cases h1
   exact List.all_eq_true.1 (List.all_eq_true.1 h.clo _ hb) w hw
theorem Part.ev {l l' : List (Nat × AFx)} (h : Part l l') {c : AX} (hc : ((cXs c).all fun v => (l'.lookup v).isSome) = true) {st : St} {r : Option (Ex × St)}
  (he : evX (orc fun u => l.lookup u) (fun u => l.lookup u) 0 c st = r) : evX (orc fun u => l'.lookup u) (fun u => l'.lookup u) 0 c st = r := by
 rw [← evX_agr h.agr 0 c (fun v hv => by rw [List.all_eq_true.1 hc v hv]; rfl) st]
 exact he
theorem Part.call {l l' : List (Nat × AFx)} (h : Part l l') {u : Nat} (hu : (l'.lookup u).isSome = true) {xs : List AV} {r : Option AV} (he : callF (fun u => l.lookup u) u xs = r) : callF (fun u => l'.lookup u) u xs = r := by
 rw [← he]
 unfold callF
 rw [h.agr.call u xs [] (by rw [hu]; rfl)]
end Go.Ab
end
