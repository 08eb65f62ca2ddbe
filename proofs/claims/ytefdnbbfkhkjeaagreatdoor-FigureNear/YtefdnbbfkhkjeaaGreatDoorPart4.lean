/-
  A calculus of values, boxes and code, and what functions of the program compute, proved in it.
  Conditions: none beyond those that the theorems state. (Part 4: GcQuot, GpQuot, GpGuess, GpGuessTry, GpGuess3, Nm3, GpLong, GcQuotD, GpQuotD, Nm4, GcDigits, GcText, GcTrim, GpDigits, Nm5, GcWhole, Ax9, GcCommon, GcFrac, GcFrac2, NmFig, GcStr, GcSplit, GcPow, GcFig, NmLex, GcJoin, GcRow, GcRow2, GcRef02, GpRef02, GcRef04, GpRef04, GcRef05, GpRef05, GpRef05d, GcRef07, GcRef06, GpRef07.)
-/
import Derived.Test.YtefdnbbfkhkjeaaGreatDoorPart3
import Derived.Lib.IndexAny
import Derived.Lib.Bytealg

set_option linter.unusedSectionVars false
set_option linter.unusedVariables false
set_option linter.unusedSimpArgs false
set_option linter.unnecessarySimpa false

section
namespace Go.Ab
def l90_0 : AX :=
 (.note
 (.seq
 (.seq
 (.reg [⟨(some 16), none, .mov (.t 7)⟩,
 ⟨(some 17), none, .bin .geq (.t 16) (.c (.i .i64 0))⟩])
 (.cond (.t 17)
 .skip
 (.exit 0)))
 (.seq
 (.block 1
 (.reg [⟨(some 21), none, .mov (.t 4)⟩,
 ⟨(some 22), none, .mov (.t 7)⟩,
 ⟨(some 23), none, .mov (.t 5)⟩,
 ⟨(some 24), none, .mov (.t 0)⟩,
 ⟨(some 25), none, .mov (.t 7)⟩,
 ⟨(some 26), none, .iad 1 (.t 24) (.t 25)⟩,
 ⟨(some 27), none, .load none (.t 26)⟩,
 ⟨(some 28), none, .mov (.t 1)⟩,
 ⟨(some 29), none, .call 118 [(.t 23), (.t 27), (.t 28)]⟩,
 ⟨(some 20), none, .mov (.t 29)⟩,
 ⟨(some 30), none, .ext (.t 20) 0⟩,
 ⟨(some 31), none, .ext (.t 20) 1⟩,
 ⟨(some 32), none, .ext (.t 20) 2⟩,
 ⟨(some 33), none, .iad 1 (.t 21) (.t 22)⟩,
 ⟨none, none, .store 1 (.t 33) (.t 30)⟩,
 ⟨(some 5), none, .mov (.t 31)⟩]))
 (.reg [⟨(some 18), none, .mov (.t 7)⟩,
 ⟨(some 19), none, .bin .sub (.t 18) (.c (.i .i64 1))⟩,
 ⟨(some 7), none, .mov (.t 19)⟩])))
 (.norm false [0, 1, 4, 5, 7]))
def b90 : AX :=
 (.seq
 (.reg [⟨(some 4), none, .mov (.c (.sl [] .nl))⟩,
 ⟨(some 5), none, .mov (.c (u32 0))⟩,
 ⟨(some 6), none, .mov (.c (.b false))⟩])
 (.seq
 (.seq
 (.reg [⟨(some 8), none, .mov (.t 1)⟩,
 ⟨(some 9), none, .bin .eql (.t 8) (.c (u32 0))⟩])
 (.cond (.t 9)
 (.seq
 (.reg [⟨(some 4), none, .mov (.c (.sl [] .nl))⟩,
 ⟨(some 5), none, .mov (.c (u32 0))⟩,
 ⟨(some 6), none, .mov (.c (.b false))⟩])
 (.pre (.norm false [4, 5, 6]) .ret))
 .skip))
 (.seq
 (.reg [⟨(some 10), none, .mov (.t 0)⟩,
 ⟨(some 11), none, .len (.t 10)⟩,
 ⟨(some 12), none, .mks 1 [(u32 0)] (.t 11) (.t 11)⟩,
 ⟨(some 4), none, .mov (.t 12)⟩])
 (.seq
 (.seq
 (.reg [⟨(some 13), none, .mov (.t 0)⟩,
 ⟨(some 14), none, .len (.t 13)⟩,
 ⟨(some 15), none, .bin .sub (.t 14) (.c (.i .i64 1))⟩,
 ⟨(some 7), none, .mov (.t 15)⟩])
 (.lp 0 (.norm false [0, 1, 4, 5, 7]) l90_0 (.norm false [4, 5])))
 (.seq
 (.reg [⟨(some 34), none, .mov (.t 4)⟩,
 ⟨(some 35), none, .call 71 [(.t 34)]⟩,
 ⟨(some 36), none, .mov (.t 5)⟩,
 ⟨(some 4), none, .mov (.t 35)⟩,
 ⟨(some 5), none, .mov (.t 36)⟩,
 ⟨(some 6), none, .mov (.c (.b true))⟩])
 (.pre (.norm false [4, 5, 6]) .ret))))))
def l119_0 : AX :=
 (.note
 (.block 1
 (.seq
 (.reg [⟨(some 46), none, .mov (.t 11)⟩,
 ⟨(some 47), none, .mov (.t 4)⟩,
 ⟨(some 48), none, .call 117 [(.t 46), (.t 47), (.c (u32 0)), (.c (u32 0))]⟩,
 ⟨(some 45), none, .mov (.t 48)⟩,
 ⟨(some 49), none, .ext (.t 45) 0⟩,
 ⟨(some 50), none, .ext (.t 45) 1⟩,
 ⟨(some 16), none, .mov (.t 49)⟩,
 ⟨(some 17), none, .mov (.t 50)⟩])
 (.seq
 (.seq
 (.reg [⟨(some 51), none, .mov (.t 16)⟩,
 ⟨(some 52), none, .mov (.t 12)⟩,
 ⟨(some 53), none, .bin .lss (.t 51) (.t 52)⟩,
 ⟨(some 54), none, .mov (.t 53)⟩,
 ⟨(some 55), (some (54, false)), .mov (.t 16)⟩,
 ⟨(some 56), (some (54, false)), .mov (.t 12)⟩,
 ⟨(some 57), (some (54, false)), .bin .eql (.t 55) (.t 56)⟩,
 ⟨(some 58), (some (54, false)), .mov (.t 57)⟩,
 ⟨(some 59), (some (58, true)), .mov (.t 17)⟩,
 ⟨(some 60), (some (58, true)), .mov (.t 2)⟩,
 ⟨(some 61), (some (58, true)), .bin .leq (.t 59) (.t 60)⟩,
 ⟨(some 62), (some (54, false)), .pick (.t 58) (.t 61) (.c (.b false))⟩,
 ⟨(some 63), none, .pick (.t 54) (.c (.b true)) (.t 62)⟩])
 (.cond (.t 63)
 (.exit 0)
 .skip))
 (.seq
 (.reg [⟨(some 64), none, .mov (.t 11)⟩,
 ⟨(some 65), none, .bin .sub (.t 64) (.c (u32 1))⟩,
 ⟨(some 11), none, .mov (.t 65)⟩])
 (.seq
 (.reg [⟨(some 67), none, .mov (.t 12)⟩,
 ⟨(some 68), none, .mov (.t 3)⟩,
 ⟨(some 69), none, .call 115 [(.t 67), (.t 68), (.c (u32 0))]⟩,
 ⟨(some 66), none, .mov (.t 69)⟩,
 ⟨(some 70), none, .ext (.t 66) 0⟩,
 ⟨(some 71), none, .ext (.t 66) 1⟩,
 ⟨(some 18), none, .mov (.t 70)⟩,
 ⟨(some 19), none, .mov (.t 71)⟩])
 (.seq
 (.seq
 (.reg [⟨(some 72), none, .mov (.t 19)⟩,
 ⟨(some 73), none, .bin .gtr (.t 72) (.c (u32 0))⟩])
 (.cond (.t 73)
 (.exit 0)
 .skip))
 (.reg [⟨(some 74), none, .mov (.t 18)⟩,
 ⟨(some 12), none, .mov (.t 74)⟩])))))))
 (.norm false [2, 3, 4, 11, 12]))
def b119 : AX :=
 (.seq
 (.reg [⟨(some 10), none, .mov (.c (u32 0))⟩])
 (.scope
 (.seq
 (.reg [⟨(some 21), none, .mov (.t 0)⟩,
 ⟨(some 22), none, .mov (.t 1)⟩,
 ⟨(some 23), none, .mov (.t 3)⟩,
 ⟨(some 24), none, .call 118 [(.t 21), (.t 22), (.t 23)]⟩,
 ⟨(some 20), none, .mov (.t 24)⟩,
 ⟨(some 25), none, .ext (.t 20) 0⟩,
 ⟨(some 26), none, .ext (.t 20) 1⟩,
 ⟨(some 27), none, .ext (.t 20) 2⟩,
 ⟨(some 11), none, .mov (.t 25)⟩,
 ⟨(some 12), none, .mov (.t 26)⟩,
 ⟨(some 13), none, .mov (.t 27)⟩])
 (.seq
 (.seq
 (.reg [⟨(some 28), none, .mov (.t 13)⟩,
 ⟨(some 29), none, .un .not (.t 28)⟩])
 (.cond (.t 29)
 (.seq
 (.reg [⟨(some 11), none, .mov (.c (u32 4294967295))⟩])
 (.seq
 (.reg [⟨(some 31), none, .mov (.t 1)⟩,
 ⟨(some 32), none, .mov (.t 3)⟩,
 ⟨(some 33), none, .call 115 [(.t 31), (.t 32), (.c (u32 0))]⟩,
 ⟨(some 30), none, .mov (.t 33)⟩,
 ⟨(some 34), none, .ext (.t 30) 0⟩,
 ⟨(some 35), none, .ext (.t 30) 1⟩,
 ⟨(some 14), none, .mov (.t 34)⟩,
 ⟨(some 15), none, .mov (.t 35)⟩])
 (.seq
 (.seq
 (.reg [⟨(some 36), none, .mov (.t 0)⟩,
 ⟨(some 37), none, .mov (.t 3)⟩,
 ⟨(some 38), none, .bin .gtr (.t 36) (.t 37)⟩,
 ⟨(some 39), none, .mov (.t 38)⟩,
 ⟨(some 40), (some (39, false)), .mov (.t 15)⟩,
 ⟨(some 41), (some (39, false)), .bin .gtr (.t 40) (.c (u32 0))⟩,
 ⟨(some 42), none, .pick (.t 39) (.c (.b true)) (.t 41)⟩])
 (.cond (.t 42)
 (.seq
 (.reg [⟨(some 43), none, .mov (.t 11)⟩,
 ⟨(some 10), none, .mov (.t 43)⟩])
 (.pre (.norm false [10]) .ret))
 .skip))
 (.reg [⟨(some 44), none, .mov (.t 14)⟩,
 ⟨(some 12), none, .mov (.t 44)⟩]))))
 .skip))
 (.seq
 .skip
 (.seq
 (.lp 0 (.norm false [2, 3, 4, 11, 12]) l119_0 (.norm false [11]))
 (.seq
 (.reg [⟨(some 75), none, .mov (.t 11)⟩,
 ⟨(some 10), none, .mov (.t 75)⟩])
 (.pre (.norm false [10]) .ret))))))))
def l120_0 : AX :=
 (.note
 (.seq
 (.reg [⟨(some 18), none, .bin .lss (.t 17) (.t 16)⟩])
 (.seq
 (.cond (.t 18)
 .skip
 (.exit 0))
 (.seq
 (.block 1
 (.seq
 (.reg [⟨(some 19), none, .mov (.t 17)⟩,
 ⟨(some 20), none, .iad 1 (.t 15) (.t 17)⟩,
 ⟨(some 21), none, .load none (.t 20)⟩,
 ⟨(some 11), none, .mov (.t 19)⟩,
 ⟨(some 12), none, .mov (.t 21)⟩])
 (.seq
 (.reg [⟨(some 13), none, .mov (.c (u32 0))⟩])
 (.seq
 (.reg [⟨(some 23), none, .mov (.t 3)⟩,
 ⟨(some 24), none, .mov (.t 12)⟩,
 ⟨(some 25), none, .mov (.t 9)⟩,
 ⟨(some 26), none, .call 117 [(.t 23), (.t 24), (.t 25), (.c (u32 0))]⟩,
 ⟨(some 22), none, .mov (.t 26)⟩,
 ⟨(some 27), none, .ext (.t 22) 0⟩,
 ⟨(some 28), none, .ext (.t 22) 1⟩,
 ⟨(some 9), none, .mov (.t 27)⟩,
 ⟨(some 13), none, .mov (.t 28)⟩])
 (.reg [⟨(some 30), none, .mov (.t 0)⟩,
 ⟨(some 31), none, .mov (.t 1)⟩,
 ⟨(some 32), none, .mov (.t 11)⟩,
 ⟨(some 33), none, .bin .add (.t 31) (.t 32)⟩,
 ⟨(some 34), none, .mov (.t 0)⟩,
 ⟨(some 35), none, .mov (.t 1)⟩,
 ⟨(some 36), none, .mov (.t 11)⟩,
 ⟨(some 37), none, .bin .add (.t 35) (.t 36)⟩,
 ⟨(some 38), none, .iad 1 (.t 34) (.t 37)⟩,
 ⟨(some 39), none, .load none (.t 38)⟩,
 ⟨(some 40), none, .mov (.t 13)⟩,
 ⟨(some 41), none, .mov (.t 10)⟩,
 ⟨(some 42), none, .call 116 [(.t 39), (.t 40), (.t 41)]⟩,
 ⟨(some 29), none, .mov (.t 42)⟩,
 ⟨(some 43), none, .ext (.t 29) 0⟩,
 ⟨(some 44), none, .ext (.t 29) 1⟩,
 ⟨(some 45), none, .iad 1 (.t 30) (.t 33)⟩,
 ⟨none, none, .store 1 (.t 45) (.t 43)⟩,
 ⟨(some 10), none, .mov (.t 44)⟩])))))
 (.reg [⟨(some 46), none, .bin .add (.t 17) (.c (.i .i64 1))⟩,
 ⟨(some 17), none, .mov (.t 46)⟩]))))
 (.norm false [0, 1, 2, 3, 9, 10, 15, 16, 17]))
def b120 : AX :=
 (.seq
 (.reg [⟨(some 8), none, .mov (.c (.b false))⟩])
 (.seq
 (.reg [⟨(some 9), none, .mov (.c (u32 0))⟩,
 ⟨(some 10), none, .mov (.c (u32 0))⟩])
 (.seq
 (.seq
 (.reg [⟨(some 15), none, .mov (.t 2)⟩,
 ⟨(some 16), none, .len (.t 15)⟩,
 ⟨(some 17), none, .mov (.c (.i .i64 0))⟩])
 (.lp 0 (.norm false [0, 1, 2, 3, 9, 10, 15, 16, 17]) l120_0 (.norm false [0, 1, 2, 9, 10])))
 (.seq
 (.reg [⟨(some 47), none, .mov (.t 1)⟩,
 ⟨(some 48), none, .mov (.t 2)⟩,
 ⟨(some 49), none, .len (.t 48)⟩,
 ⟨(some 50), none, .bin .add (.t 47) (.t 49)⟩,
 ⟨(some 14), none, .mov (.t 50)⟩])
 (.seq
 (.reg [⟨(some 52), none, .mov (.t 0)⟩,
 ⟨(some 53), none, .mov (.t 14)⟩,
 ⟨(some 54), none, .mov (.t 0)⟩,
 ⟨(some 55), none, .mov (.t 14)⟩,
 ⟨(some 56), none, .iad 1 (.t 54) (.t 55)⟩,
 ⟨(some 57), none, .load none (.t 56)⟩,
 ⟨(some 58), none, .mov (.t 9)⟩,
 ⟨(some 59), none, .mov (.t 10)⟩,
 ⟨(some 60), none, .call 116 [(.t 57), (.t 58), (.t 59)]⟩,
 ⟨(some 51), none, .mov (.t 60)⟩,
 ⟨(some 61), none, .ext (.t 51) 0⟩,
 ⟨(some 62), none, .ext (.t 51) 1⟩,
 ⟨(some 63), none, .iad 1 (.t 52) (.t 53)⟩,
 ⟨none, none, .store 1 (.t 63) (.t 61)⟩,
 ⟨(some 10), none, .mov (.t 62)⟩])
 (.seq
 (.reg [⟨(some 64), none, .mov (.t 10)⟩,
 ⟨(some 65), none, .bin .gtr (.t 64) (.c (u32 0))⟩,
 ⟨(some 8), none, .mov (.t 65)⟩])
 (.pre (.norm false [8]) .ret)))))))
def l121_0 : AX :=
 (.note
 (.seq
 (.reg [⟨(some 12), none, .bin .lss (.t 11) (.t 10)⟩])
 (.seq
 (.cond (.t 12)
 .skip
 (.exit 0))
 (.seq
 (.block 1
 (.seq
 (.reg [⟨(some 13), none, .mov (.t 11)⟩,
 ⟨(some 14), none, .iad 1 (.t 9) (.t 11)⟩,
 ⟨(some 15), none, .load none (.t 14)⟩,
 ⟨(some 7), none, .mov (.t 13)⟩,
 ⟨(some 8), none, .mov (.t 15)⟩])
 (.reg [⟨(some 17), none, .mov (.t 0)⟩,
 ⟨(some 18), none, .mov (.t 1)⟩,
 ⟨(some 19), none, .mov (.t 7)⟩,
 ⟨(some 20), none, .bin .add (.t 18) (.t 19)⟩,
 ⟨(some 21), none, .mov (.t 0)⟩,
 ⟨(some 22), none, .mov (.t 1)⟩,
 ⟨(some 23), none, .mov (.t 7)⟩,
 ⟨(some 24), none, .bin .add (.t 22) (.t 23)⟩,
 ⟨(some 25), none, .iad 1 (.t 21) (.t 24)⟩,
 ⟨(some 26), none, .load none (.t 25)⟩,
 ⟨(some 27), none, .mov (.t 8)⟩,
 ⟨(some 28), none, .mov (.t 6)⟩,
 ⟨(some 29), none, .call 115 [(.t 26), (.t 27), (.t 28)]⟩,
 ⟨(some 16), none, .mov (.t 29)⟩,
 ⟨(some 30), none, .ext (.t 16) 0⟩,
 ⟨(some 31), none, .ext (.t 16) 1⟩,
 ⟨(some 32), none, .iad 1 (.t 17) (.t 20)⟩,
 ⟨none, none, .store 1 (.t 32) (.t 30)⟩,
 ⟨(some 6), none, .mov (.t 31)⟩])))
 (.reg [⟨(some 33), none, .bin .add (.t 11) (.c (.i .i64 1))⟩,
 ⟨(some 11), none, .mov (.t 33)⟩]))))
 (.norm false [0, 1, 2, 6, 9, 10, 11]))
def b121 : AX :=
 (.seq
 (.reg [⟨(some 6), none, .mov (.c (u32 0))⟩])
 (.seq
 (.seq
 (.reg [⟨(some 9), none, .mov (.t 2)⟩,
 ⟨(some 10), none, .len (.t 9)⟩,
 ⟨(some 11), none, .mov (.c (.i .i64 0))⟩])
 (.lp 0 (.norm false [0, 1, 2, 6, 9, 10, 11]) l121_0 (.norm false [0, 1, 2, 6])))
 (.reg [⟨(some 34), none, .mov (.t 0)⟩,
 ⟨(some 35), none, .mov (.t 1)⟩,
 ⟨(some 36), none, .mov (.t 2)⟩,
 ⟨(some 37), none, .len (.t 36)⟩,
 ⟨(some 38), none, .bin .add (.t 35) (.t 37)⟩,
 ⟨(some 39), none, .iad 1 (.t 34) (.t 38)⟩,
 ⟨(some 40), none, .load none (.t 39)⟩,
 ⟨(some 41), none, .mov (.t 6)⟩,
 ⟨(some 42), none, .bin .add (.t 40) (.t 41)⟩,
 ⟨(some 43), none, .iad 1 (.t 34) (.t 38)⟩,
 ⟨none, none, .store 1 (.t 43) (.t 42)⟩])))
def l93_0 : AX :=
 (.note
 (.seq
 (.seq
 (.reg [⟨(some 19), none, .mov (.t 7)⟩,
 ⟨(some 20), none, .bin .geq (.t 19) (.c (.i .i64 0))⟩])
 (.cond (.t 20)
 .skip
 (.exit 0)))
 (.seq
 (.block 1
 (.seq
 (.drawT [⟨(some 23), none, .mov (.t 0)⟩,
 ⟨(some 24), none, .mov (.t 7)⟩,
 ⟨(some 25), none, .mov (.t 5)⟩,
 ⟨(some 26), none, .bin .add (.t 24) (.t 25)⟩,
 ⟨(some 27), none, .iad 1 (.t 23) (.t 26)⟩,
 ⟨(some 28), none, .load none (.t 27)⟩,
 ⟨(some 29), none, .mov (.t 0)⟩,
 ⟨(some 30), none, .mov (.t 7)⟩,
 ⟨(some 31), none, .mov (.t 5)⟩,
 ⟨(some 32), none, .bin .add (.t 30) (.t 31)⟩,
 ⟨(some 33), none, .bin .sub (.t 32) (.c (.i .i64 1))⟩,
 ⟨(some 34), none, .iad 1 (.t 29) (.t 33)⟩,
 ⟨(some 35), none, .load none (.t 34)⟩,
 ⟨(some 36), none, .mov (.t 0)⟩,
 ⟨(some 37), none, .mov (.t 7)⟩,
 ⟨(some 38), none, .mov (.t 5)⟩,
 ⟨(some 39), none, .bin .add (.t 37) (.t 38)⟩,
 ⟨(some 40), none, .bin .sub (.t 39) (.c (.i .i64 2))⟩,
 ⟨(some 41), none, .iad 1 (.t 36) (.t 40)⟩,
 ⟨(some 42), none, .load none (.t 41)⟩,
 ⟨(some 43), none, .mov (.t 1)⟩,
 ⟨(some 44), none, .mov (.t 5)⟩,
 ⟨(some 45), none, .bin .sub (.t 44) (.c (.i .i64 1))⟩,
 ⟨(some 46), none, .iad 1 (.t 43) (.t 45)⟩,
 ⟨(some 47), none, .load none (.t 46)⟩,
 ⟨(some 48), none, .mov (.t 1)⟩,
 ⟨(some 49), none, .mov (.t 5)⟩,
 ⟨(some 50), none, .bin .sub (.t 49) (.c (.i .i64 2))⟩,
 ⟨(some 51), none, .iad 1 (.t 48) (.t 50)⟩,
 ⟨(some 52), none, .load none (.t 51)⟩]
 [⟨(some 53), none, .call 119 [(.t 28), (.t 35), (.t 42), (.t 47), (.t 52)]⟩,
 ⟨(some 8), none, .mov (.t 53)⟩])
 (.seq
 (.seq
 (.reg [⟨(some 54), none, .mov (.t 0)⟩,
 ⟨(some 55), none, .mov (.t 7)⟩,
 ⟨(some 56), none, .mov (.t 1)⟩,
 ⟨(some 57), none, .mov (.t 8)⟩,
 ⟨(some 58), none, .call 120 [(.t 54), (.t 55), (.t 56), (.t 57)]⟩])
 (.cond (.t 58)
 (.seq
 (.reg [⟨(some 59), none, .mov (.t 8)⟩,
 ⟨(some 60), none, .bin .sub (.t 59) (.c (u32 1))⟩,
 ⟨(some 8), none, .mov (.t 60)⟩])
 (.reg [⟨(some 61), none, .mov (.t 0)⟩,
 ⟨(some 62), none, .mov (.t 7)⟩,
 ⟨(some 63), none, .mov (.t 1)⟩,
 ⟨(some 64), none, .call 121 [(.t 61), (.t 62), (.t 63)]⟩]))
 .skip))
 (.reg [⟨(some 65), none, .mov (.t 6)⟩,
 ⟨(some 66), none, .mov (.t 7)⟩,
 ⟨(some 67), none, .mov (.t 8)⟩,
 ⟨(some 68), none, .iad 1 (.t 65) (.t 66)⟩,
 ⟨none, none, .store 1 (.t 68) (.t 67)⟩]))))
 (.reg [⟨(some 21), none, .mov (.t 7)⟩,
 ⟨(some 22), none, .bin .sub (.t 21) (.c (.i .i64 1))⟩,
 ⟨(some 7), none, .mov (.t 22)⟩])))
 (.norm false [0, 1, 5, 6, 7]))
def b93 : AX :=
 (.seq
 (.reg [⟨(some 4), none, .mov (.c (.sl [] .nl))⟩])
 (.seq
 (.reg [⟨(some 9), none, .mov (.t 1)⟩,
 ⟨(some 10), none, .len (.t 9)⟩,
 ⟨(some 5), none, .mov (.t 10)⟩])
 (.seq
 (.reg [⟨(some 11), none, .mov (.t 0)⟩,
 ⟨(some 12), none, .len (.t 11)⟩,
 ⟨(some 13), none, .mov (.t 5)⟩,
 ⟨(some 14), none, .bin .sub (.t 12) (.t 13)⟩,
 ⟨(some 15), none, .mks 1 [(u32 0)] (.t 14) (.t 14)⟩,
 ⟨(some 6), none, .mov (.t 15)⟩])
 (.seq
 (.seq
 (.reg [⟨(some 16), none, .mov (.t 6)⟩,
 ⟨(some 17), none, .len (.t 16)⟩,
 ⟨(some 18), none, .bin .sub (.t 17) (.c (.i .i64 1))⟩,
 ⟨(some 7), none, .mov (.t 18)⟩])
 (.lp 0 (.norm false [0, 1, 5, 6, 7]) l93_0 (.norm false [6])))
 (.seq
 (.reg [⟨(some 69), none, .mov (.t 6)⟩,
 ⟨(some 4), none, .mov (.t 69)⟩])
 (.pre (.norm false [4]) .ret))))))
class CQuot (T : Tbl) : Prop where
 h90 : T 90 = some ⟨2, 37, [.t 4, .t 5, .t 6], b90, none, false⟩
 h119 : T 119 = some ⟨5, 76, [.t 10], b119, none, false⟩
 h120 : T 120 = some ⟨4, 66, [.t 8], b120, (some [true, false, false, false]), false⟩
 h121 : T 121 = some ⟨3, 44, [], b121, (some [true, false, false]), false⟩
 h93 : T 93 = some ⟨2, 70, [.t 4], b93, (some [true, false]), false⟩
section
variable {T : Tbl} [CQuot T] {d : Option Nat} {st : St}
@[simp] theorem x90 (xs : List AV) : callX (orc T) T 90 xs d st = bL (frzL st.heap xs) fun ys => cR (callF T 90 (ys.map (wkIf false))) xs d st := callX_pure CQuot.h90
theorem f90 (xs : List AV) (hn : xs.length = 2) : callF T 90 xs = retF [.t 4, .t 5, .t 6] false (evX (orc T) T 0 b90 ⟨argEnv xs, [], 1⟩) := callF_eq CQuot.h90 hn
@[simp] theorem x119 (xs : List AV) : callX (orc T) T 119 xs d st = bL (frzL st.heap xs) fun ys => cR (callF T 119 (ys.map (wkIf false))) xs d st := callX_pure CQuot.h119
theorem f119 (xs : List AV) (hn : xs.length = 5) : callF T 119 xs = retF [.t 10] false (evX (orc T) T 0 b119 ⟨argEnv xs, [], 1⟩) := callF_eq CQuot.h119 hn
@[simp] theorem x120 (xs : List AV) : callX (orc T) T 120 xs d st = bL (frzM st.heap [true, false, false, false] xs) fun ys => lentX ys (shareIds (refsM [true, false, false, false] xs) st.heap) (reach (shareIds (refsM [true, false, false, false] xs) st.heap) 40 (rootsM [true, false, false, false] xs) []) T 120 false d st := callX_lent CQuot.h120
theorem f120 (xs : List AV) (hb : Heap) (hn : xs.length = 4) : callH T 120 xs hb = retH [.t 8] false hb.length (evX (orc T) T hb.length b120 ⟨argEnv xs, hb, hb.length + 1⟩) := callH_eq CQuot.h120 hn
@[simp] theorem x121 (xs : List AV) : callX (orc T) T 121 xs d st = bL (frzM st.heap [true, false, false] xs) fun ys => lentX ys (shareIds (refsM [true, false, false] xs) st.heap) (reach (shareIds (refsM [true, false, false] xs) st.heap) 40 (rootsM [true, false, false] xs) []) T 121 false d st := callX_lent CQuot.h121
theorem f121 (xs : List AV) (hb : Heap) (hn : xs.length = 3) : callH T 121 xs hb = retH [] false hb.length (evX (orc T) T hb.length b121 ⟨argEnv xs, hb, hb.length + 1⟩) := callH_eq CQuot.h121 hn
@[simp] theorem x93 (xs : List AV) : callX (orc T) T 93 xs d st = bL (frzM st.heap [true, false] xs) fun ys => lentX ys (shareIds (refsM [true, false] xs) st.heap) (reach (shareIds (refsM [true, false] xs) st.heap) 40 (rootsM [true, false] xs) []) T 93 false d st := callX_lent CQuot.h93
theorem f93 (xs : List AV) (hb : Heap) (hn : xs.length = 2) : callH T 93 xs hb = retH [.t 4] false hb.length (evX (orc T) T hb.length b93 ⟨argEnv xs, hb, hb.length + 1⟩) := callH_eq CQuot.h93 hn
end
end Go.Ab
end

section
namespace Go.Ab
theorem set_mid0 {m : List UInt32} {j : Nat} (w : UInt32) : (List.replicate (j + 1) 0 ++ m).set j w = List.replicate j 0 ++ w :: m := by
 rw [List.set_append_left j w (by simp), List.replicate_succ', List.set_append_right j w (by simp)]
 simp
theorem get_mid0 {m : List UInt32} {j : Nat} : (List.replicate (j + 1) (0 : UInt32) ++ m)[j]? = some 0 := by
 rw [List.getElem?_append_left (by simp), List.getElem?_replicate, if_pos (by omega)]
section
variable {T : Tbl} [CNat T] [CTwos T] [CProd T] [CQuot T]
def stWd (a : List UInt32) (x : Nat) (y : Nat × Nat × List UInt32) : St :=
 ⟨[(0, .sl (u32s a) .an), (1, u32 x), (4, .bs (.loc 12) 1 1 0 a.length), (5, u32 y.2.1), (7, .i .i64 ((y.1 : Int) - 1))], [(.loc 12, ⟨1, .own, 1, u32s (List.replicate y.1 0 ++ y.2.2)⟩)], 3⟩
end
section
variable {T : Tbl} [CNat T]
theorem wd_loop (a : List UInt32) (x : Nat) (hx : x < 4294967296) (hl : a.length ≤ 1000000) : ∀ y : Nat × Nat × List UInt32,
  (y.1 ≤ a.length ∧ y.2.1 < x ∧ y.2.2.length = a.length - y.1 ∧ val (a.drop y.1) = x * val y.2.2 + y.2.1) →
  ∃ r, (∃ (c : Nat) (m : List UInt32), r = (Ex.n, (⟨[(4, .bs (.loc 12) 1 1 0 a.length), (5, u32 c)], [(.loc 12, ⟨1, .own, 1, u32s m⟩)], 3⟩ : St)) ∧
   m.length = a.length ∧ c < x ∧ val a = x * val m + c) ∧ loopN T 0 0 (.norm false [4, 5]) l90_0 (stWd a x y) = some r := by
 refine loopN_ex _ _ (fun y => y.1) _ ?_
 rintro ⟨k, c, m⟩ ⟨hk, hc, hm, hv⟩
 simp only at hk hc hm hv
 cases k with
 | zero =>
  right
  rw [List.drop_zero] at hv
  refine ⟨_, ⟨c, m, rfl, by omega, hc, hv⟩, ?_, ?_⟩ <;> simp -implicitDefEqProofs [l90_0, stWd]
 | succ j =>
  left
  have hja : j < a.length := by omega
  have ha : a[j]? = some (a[j]'hja) := List.getElem?_eq_getElem hja
  have hy := u32_lt (a[j]'hja)
  have hd := List.drop_eq_getElem_cons hja
  have hw : IntKind.wrap .i64 ((j : Int) - 1) = (j : Int) - 1 := wrap_i64 _ (by omega)
  have hs := set_mid0 (m := m) (j := j) (w32 ((c * 4294967296 + (a[j]'hja).toNat) / x))
  have hq : (c * 4294967296 + (a[j]'hja).toNat) / x < 4294967296 := by
   refine Nat.div_lt_of_lt_mul ?_
   have : (c + 1) * 4294967296 ≤ x * 4294967296 := Nat.mul_le_mul_right _ hc
   omega
  have hdv := limb_divN (T := T) c (a[j]'hja).toNat x hc hy hx
  refine ⟨(j, (c * 4294967296 + (a[j]'hja).toNat) % x, w32 ((c * 4294967296 + (a[j]'hja).toNat) / x) :: m), ⟨by simp only; omega, Nat.mod_lt _ (by omega), by simp [hm]; omega, ?_⟩, Nat.lt_succ_self j, ?_⟩
  ·simp only
   rw [hd, val_cons, hv, val_cons, w32_of_lt hq]
   have e1 := Nat.div_add_mod (c * 4294967296 + (a[j]'hja).toNat) x
   generalize (c * 4294967296 + (a[j]'hja).toNat) / x = q at *
   rw [Nat.mul_add x q, Nat.mul_left_comm x 4294967296]
   omega
  ·simp -implicitDefEqProofs [l90_0, stWd, hja, hw, hs, get_mid0, hdv, u32s_set _ _ _ hq]
end
section
variable {T : Tbl} [CNat T] [CQuot T]
theorem quot_word (a : List UInt32) (x : Nat) (hx : x < 4294967296) (h0 : 0 < x) (hl : a.length ≤ 1000000) :
  callF T 90 [.sl (u32s a) .an, u32 x] = some (.tup [.sl (u32s (ofN (val a / x))) .an, u32 (val a % x), .b true]) := by
 obtain ⟨_, ⟨c, m, rfl, hm, hc, hv⟩, hr⟩ := wd_loop (T := T) a x hx hl (a.length, 0, []) ⟨Nat.le_refl _, h0, by simp, by rw [List.drop_length, val_nil, Nat.mul_zero, Nat.zero_add]⟩
 have e1 : val a / x = val m := by rw [hv, Nat.mul_add_div h0, Nat.div_eq_of_lt hc, Nat.add_zero]
 have e2 : val a % x = c := by rw [hv, Nat.mul_add_mod, Nat.mod_eq_of_lt hc]
 have hnm := nat_norm (T := T) m (by omega)
 unfold stWd at hr
 simp at hr
 have hx0 : x ≠ 0 := by omega
 have w1 : IntKind.wrap .i64 ((a.length : Int) - 1) = (a.length : Int) - 1 := wrap_i64 _ (by omega)
 have p1 : (a.length : Int) ≤ 4294967296 := by omega
 have htk : List.take a.length m = m := List.take_of_length_le (by omega)
 rw [e1, e2, f90 _ rfl, b90]
 simp -implicitDefEqProofs [hr, hx0, w1, p1, htk, hm, hnm]
end
section
variable {T : Tbl} [CNat T] [CTwos T] [CProd T] [CQuot T]
theorem take_step {p M w X s t y v D D' : Nat} (h : M + X * t = s + p * D) (e : w + X * y + D = v + 4294967296 * D') : (M + p * w) + X * (t + p * y) = (s + p * v) + p * 4294967296 * D' := by
 have e2 : p * w + p * (X * y) + p * D = p * v + p * 4294967296 * D' := by rw [Nat.mul_assoc, ← Nat.mul_add, ← Nat.mul_add, e, Nat.mul_add]
 have e3 : X * (t + p * y) = X * t + p * (X * y) := by rw [Nat.mul_add, Nat.mul_left_comm]
 omega
def stTk (P S b : List UInt32) (x : Nat) (y : Nat × (Nat × Nat) × List UInt32) : St :=
 ⟨[(0, .bs (.bor 0) 0 1 0 (P.length + S.length)), (1, .i .i64 P.length), (2, .sl (u32s b) .an), (3, u32 x), (9, u32 y.2.1.1), (10, u32 y.2.1.2), (15, .sl (u32s b) .an), (16, .i .i64 b.length), (17, .i .i64 y.1)],
  [(.bor 0, ⟨0, .own, 1, u32s (P ++ (y.2.2 ++ S.drop y.1))⟩)], 4⟩
end
section
variable {T : Tbl} [CNat T]
theorem tk_loop (P S b : List UInt32) (x : Nat) (hx : x < 4294967296) (hS : b.length < S.length) (hl : P.length + S.length ≤ 1000000) : ∀ y : Nat × (Nat × Nat) × List UInt32,
  (y.1 ≤ b.length ∧ y.2.1.1 < 4294967296 ∧ y.2.1.2 ≤ 1 ∧ y.2.2.length = y.1 ∧ val y.2.2 + x * val (b.take y.1) = val (S.take y.1) + 4294967296 ^ y.1 * (y.2.1.2 + y.2.1.1)) →
  ∃ r, (∃ (C B : Nat) (m : List UInt32), r = (Ex.n, (⟨[(0, .bs (.bor 0) 0 1 0 (P.length + S.length)), (1, .i .i64 P.length), (2, .sl (u32s b) .an), (9, u32 C), (10, u32 B)], [(.bor 0, ⟨0, .own, 1, u32s (P ++ (m ++ S.drop b.length))⟩)], 4⟩ : St)) ∧
   C < 4294967296 ∧ B ≤ 1 ∧ m.length = b.length ∧ val m + x * val b = val (S.take b.length) + 4294967296 ^ b.length * (B + C)) ∧ loopN T 1 0 (.norm false [0, 1, 2, 9, 10]) l120_0 (stTk P S b x y) = some r := by
 refine loopN_ex _ _ (fun y => b.length - y.1) _ ?_
 rintro ⟨i, ⟨C, B⟩, m⟩ ⟨hi, hC, hB, hm, hv⟩
 simp only at hi hC hB hm hv
 by_cases h0 : i < b.length
 ·left
  have hb : b[i]? = some (b[i]'h0) := List.getElem?_eq_getElem h0
  have hiS : i < S.length := by omega
  have hs : S[i]? = some (S[i]'hiS) := List.getElem?_eq_getElem hiS
  have hg := get_mid (P := P) hm hiS
  have hw : IntKind.wrap .i64 ((i : Int) + 1) = ((i + 1 : Nat) : Int) := wrap_i64 _ (by omega)
  have hw2 : IntKind.wrap .i64 ((P.length : Int) + i) = ((P.length + i : Nat) : Int) := wrap_i64 _ (by omega)
  have hlt2 : (P.length : Int) + i < (P.length : Int) + S.length := by omega
  have hlb := u32_lt (b[i]'h0)
  have hls := u32_lt (S[i]'hiS)
  have hmul := mul_lt hx hlb
  have c1 := limb_mulN (T := T) x (b[i]'h0).toNat C 0 hx hlb hC (by decide)
  rw [Nat.add_zero] at c1
  obtain ⟨lo, hlo⟩ : ∃ lo, lo = (x * (b[i]'h0).toNat + C) % 4294967296 := ⟨_, rfl⟩
  obtain ⟨C', hC'⟩ : ∃ C', C' = (x * (b[i]'h0).toNat + C) / 4294967296 := ⟨_, rfl⟩
  rw [← hlo, ← hC'] at c1
  have c2 := limb_subN (T := T) (S[i]'hiS).toNat lo B hls (by omega) (by omega)
  obtain ⟨w, hwd⟩ : ∃ w, w = ((S[i]'hiS).toNat + 8589934592 - (lo + B)) % 4294967296 := ⟨_, rfl⟩
  obtain ⟨B', hB'⟩ : ∃ B', B' = 2 - ((S[i]'hiS).toNat + 8589934592 - (lo + B)) / 4294967296 := ⟨_, rfl⟩
  rw [← hwd, ← hB'] at c2
  have hwl : w < 4294967296 := by omega
  have hset := set_mid (P := P) (w32 w) hm hiS
  refine ⟨(i + 1, (C', B'), m ++ [w32 w]), ⟨h0, by simp only; omega, by simp only; omega, by simp [hm], ?_⟩, by simp only; omega, ?_⟩
  ·simp only
   rw [val_append, val_take_succ hb, val_take_succ hs, Nat.pow_succ, hm, val_cons, val_nil, Nat.mul_zero, Nat.add_zero, w32_of_lt hwl]
   exact take_step hv (by omega)
  ·simp at hg hset
   simp -implicitDefEqProofs [l120_0, stTk, h0, hw, hw2, hlt2, hg, c1, c2, hset, u32s_set _ _ _ hwl]
 ·right
  have : i = b.length := by omega
  subst this
  rw [List.take_of_length_le (Nat.le_refl b.length)] at hv
  refine ⟨_, ⟨C, B, m, rfl, hC, hB, hm, hv⟩, ?_, ?_⟩ <;> simp -implicitDefEqProofs [l120_0, stTk]
end
section
variable {T : Tbl} [CNat T] [CQuot T]
theorem quot_take (P S b : List UInt32) (x : Nat) (hx : x < 4294967296) (hS : b.length < S.length) (hl : P.length + S.length ≤ 1000000) :
  ∃ (B : Nat) (m : List UInt32), B ≤ 1 ∧ m.length = b.length + 1 ∧ val m + x * val b = val (S.take (b.length + 1)) + 4294967296 ^ (b.length + 1) * B ∧
   callH T 120 [.bs (.bor 0) 0 1 0 (P.length + S.length), .i .i64 P.length, .sl (u32s b) .an, u32 x] [(.bor 0, ⟨0, .own, 1, u32s (P ++ S)⟩)] =
    some (.b (decide (0 < B)), [(.bor 0, ⟨0, .own, 1, u32s (P ++ (m ++ S.drop (b.length + 1)))⟩)]) := by
 obtain ⟨_, ⟨C, B, m, rfl, hC, hB, hm, hv⟩, hr⟩ := tk_loop (T := T) P S b x hx hS hl (0, (0, 0), []) ⟨Nat.zero_le _, Nat.zero_lt_succ _, Nat.zero_le _, rfl, by simp⟩
 unfold stTk at hr
 simp at hr
 have hs : S[b.length]? = some (S[b.length]'hS) := List.getElem?_eq_getElem hS
 have hls := u32_lt (S[b.length]'hS)
 have hg := get_mid (P := P) hm hS
 have hw2 : IntKind.wrap .i64 ((P.length : Int) + b.length) = ((P.length + b.length : Nat) : Int) := wrap_i64 _ (by omega)
 have hlt2 : (P.length : Int) + b.length < (P.length : Int) + S.length := by omega
 have c2 := limb_subN (T := T) (S[b.length]'hS).toNat C B hls hC (by omega)
 obtain ⟨w, hwd⟩ : ∃ w, w = ((S[b.length]'hS).toNat + 8589934592 - (C + B)) % 4294967296 := ⟨_, rfl⟩
 obtain ⟨B', hB'⟩ : ∃ B', B' = 2 - ((S[b.length]'hS).toNat + 8589934592 - (C + B)) / 4294967296 := ⟨_, rfl⟩
 rw [← hwd, ← hB'] at c2
 have hwl : w < 4294967296 := by omega
 have hset := set_mid (P := P) (w32 w) hm hS
 refine ⟨B', m ++ [w32 w], by omega, by simp [hm], ?_, ?_⟩
 ·rw [val_append, val_take_succ hs, Nat.pow_succ, hm, val_cons, val_nil, Nat.mul_zero, Nat.add_zero, w32_of_lt hwl]
  have := take_step (y := 0) (w := w) (v := (S[b.length]'hS).toNat) (D' := B') hv (by omega)
  rw [Nat.mul_zero, Nat.add_zero] at this
  exact this
 ·simp at hg hset
  rw [f120 _ _ rfl, b120]
  simp -implicitDefEqProofs [hr, hw2, hlt2, hg, c2, hset, u32s_set _ _ _ hwl]
end
section
variable {T : Tbl} [CNat T] [CTwos T] [CProd T] [CQuot T]
theorem give_step {p M w s t y v D D' : Nat} (h : M + p * D = s + t) (e : w + 4294967296 * D' = v + y + D) : (M + p * w) + p * 4294967296 * D' = (s + p * v) + (t + p * y) := by
 have e2 : p * w + p * 4294967296 * D' = p * v + p * y + p * D := by rw [Nat.mul_assoc, ← Nat.mul_add, e, Nat.mul_add, Nat.mul_add]
 omega
def stGv (P S b : List UInt32) (y : Nat × Nat × List UInt32) : St :=
 ⟨[(0, .bs (.bor 0) 0 1 0 (P.length + S.length)), (1, .i .i64 P.length), (2, .sl (u32s b) .an), (6, u32 y.2.1), (9, .sl (u32s b) .an), (10, .i .i64 b.length), (11, .i .i64 y.1)],
  [(.bor 0, ⟨0, .own, 1, u32s (P ++ (y.2.2 ++ S.drop y.1))⟩)], 4⟩
end
section
variable {T : Tbl} [CNat T]
theorem gv_loop (P S b : List UInt32) (hS : b.length < S.length) (hl : P.length + S.length ≤ 1000000) : ∀ y : Nat × Nat × List UInt32,
  (y.1 ≤ b.length ∧ y.2.1 ≤ 1 ∧ y.2.2.length = y.1 ∧ val y.2.2 + 4294967296 ^ y.1 * y.2.1 = val (S.take y.1) + val (b.take y.1)) →
  ∃ r, (∃ (C : Nat) (m : List UInt32), r = (Ex.n, (⟨[(0, .bs (.bor 0) 0 1 0 (P.length + S.length)), (1, .i .i64 P.length), (2, .sl (u32s b) .an), (6, u32 C)], [(.bor 0, ⟨0, .own, 1, u32s (P ++ (m ++ S.drop b.length))⟩)], 4⟩ : St)) ∧
   C ≤ 1 ∧ m.length = b.length ∧ val m + 4294967296 ^ b.length * C = val (S.take b.length) + val b) ∧ loopN T 1 0 (.norm false [0, 1, 2, 6]) l121_0 (stGv P S b y) = some r := by
 refine loopN_ex _ _ (fun y => b.length - y.1) _ ?_
 rintro ⟨i, C, m⟩ ⟨hi, hC, hm, hv⟩
 simp only at hi hC hm hv
 by_cases h0 : i < b.length
 ·left
  have hb : b[i]? = some (b[i]'h0) := List.getElem?_eq_getElem h0
  have hiS : i < S.length := by omega
  have hs : S[i]? = some (S[i]'hiS) := List.getElem?_eq_getElem hiS
  have hg := get_mid (P := P) hm hiS
  have hw : IntKind.wrap .i64 ((i : Int) + 1) = ((i + 1 : Nat) : Int) := wrap_i64 _ (by omega)
  have hw2 : IntKind.wrap .i64 ((P.length : Int) + i) = ((P.length + i : Nat) : Int) := wrap_i64 _ (by omega)
  have hlt2 : (P.length : Int) + i < (P.length : Int) + S.length := by omega
  have hlb := u32_lt (b[i]'h0)
  have hls := u32_lt (S[i]'hiS)
  have c2 := limb_addN (T := T) (S[i]'hiS).toNat (b[i]'h0).toNat C hls hlb (by omega)
  obtain ⟨w, hwd⟩ : ∃ w, w = ((S[i]'hiS).toNat + (b[i]'h0).toNat + C) % 4294967296 := ⟨_, rfl⟩
  obtain ⟨C', hC'⟩ : ∃ C', C' = ((S[i]'hiS).toNat + (b[i]'h0).toNat + C) / 4294967296 := ⟨_, rfl⟩
  rw [← hwd, ← hC'] at c2
  have hwl : w < 4294967296 := by omega
  have hset := set_mid (P := P) (w32 w) hm hiS
  refine ⟨(i + 1, C', m ++ [w32 w]), ⟨h0, by simp only; omega, by simp [hm], ?_⟩, by simp only; omega, ?_⟩
  ·simp only
   rw [val_append, val_take_succ hb, val_take_succ hs, Nat.pow_succ, hm, val_cons, val_nil, Nat.mul_zero, Nat.add_zero, w32_of_lt hwl]
   exact give_step hv (by omega)
  ·simp at hg hset
   simp -implicitDefEqProofs [l121_0, stGv, h0, hw, hw2, hlt2, hg, c2, hset, u32s_set _ _ _ hwl]
 ·right
  have : i = b.length := by omega
  subst this
  rw [List.take_of_length_le (Nat.le_refl b.length)] at hv
  refine ⟨_, ⟨C, m, rfl, hC, hm, hv⟩, ?_, ?_⟩ <;> simp -implicitDefEqProofs [l121_0, stGv]
end
section
variable {T : Tbl} [CNat T] [CQuot T]
theorem quot_give (P S b : List UInt32) (hS : b.length < S.length) (hl : P.length + S.length ≤ 1000000) :
  ∃ (D : Nat) (m : List UInt32), D ≤ 1 ∧ m.length = b.length + 1 ∧ val m + 4294967296 ^ (b.length + 1) * D = val (S.take (b.length + 1)) + val b ∧
   callH T 121 [.bs (.bor 0) 0 1 0 (P.length + S.length), .i .i64 P.length, .sl (u32s b) .an] [(.bor 0, ⟨0, .own, 1, u32s (P ++ S)⟩)] =
    some (.tup [], [(.bor 0, ⟨0, .own, 1, u32s (P ++ (m ++ S.drop (b.length + 1)))⟩)]) := by
 obtain ⟨_, ⟨C, m, rfl, hC, hm, hv⟩, hr⟩ := gv_loop (T := T) P S b hS hl (0, 0, []) ⟨Nat.zero_le _, Nat.zero_le _, rfl, by simp⟩
 unfold stGv at hr
 simp at hr
 have hs : S[b.length]? = some (S[b.length]'hS) := List.getElem?_eq_getElem hS
 have hls := u32_lt (S[b.length]'hS)
 have hg := get_mid (P := P) hm hS
 have hw2 : IntKind.wrap .i64 ((P.length : Int) + b.length) = ((P.length + b.length : Nat) : Int) := wrap_i64 _ (by omega)
 have hlt2 : (P.length : Int) + b.length < (P.length : Int) + S.length := by omega
 obtain ⟨w, hwd⟩ : ∃ w, w = ((S[b.length]'hS).toNat + C) % 4294967296 := ⟨_, rfl⟩
 have hwl : w < 4294967296 := by omega
 have hset := set_mid (P := P) (w32 w) hm hS
 refine ⟨((S[b.length]'hS).toNat + C) / 4294967296, m ++ [w32 w], by omega, by simp [hm], ?_, ?_⟩
 ·rw [val_append, val_take_succ hs, Nat.pow_succ, hm, val_cons, val_nil, Nat.mul_zero, Nat.add_zero, w32_of_lt hwl]
  have := give_step (y := 0) (w := w) (v := (S[b.length]'hS).toNat) (D' := ((S[b.length]'hS).toNat + C) / 4294967296) hv (by omega)
  rw [Nat.mul_zero, Nat.add_zero] at this
  exact this
 ·simp at hg hset
  rw [f121 _ _ rfl, b121]
  simp -implicitDefEqProofs [hr, hw2, hlt2, hg, ← hwd, hset, u32s_set _ _ _ hwl]
end
end Go.Ab
end

section
namespace Go.Ab
theorem guess_mul (q b1 b0 : Nat) : q * (b1 * 4294967296 + b0) = q * b1 * 4294967296 + q * b0 := by
 rw [Nat.mul_add q, ← Nat.mul_assoc q]
theorem guess_le {a2 a1 a0 b1 b0 q r : Nat} (h : q * b1 + r = a2 * 4294967296 + a1) (hle : q * b0 ≤ r * 4294967296 + a0) :
  q * (b1 * 4294967296 + b0) ≤ (a2 * 4294967296 + a1) * 4294967296 + a0 := by
 refine Nat.le_trans (Nat.le_of_eq (guess_mul q b1 b0)) ?_
 revert h hle
 generalize q * b1 = u
 generalize q * b0 = v
 omega
theorem guess_gt {a2 a1 a0 b1 b0 q r : Nat} (h : q * b1 + r = a2 * 4294967296 + a1) (hgt : r * 4294967296 + a0 < q * b0) :
  (a2 * 4294967296 + a1) * 4294967296 + a0 < q * (b1 * 4294967296 + b0) := by
 refine Nat.lt_of_lt_of_eq ?_ (guess_mul q b1 b0).symm
 revert h hgt
 generalize q * b1 = u
 generalize q * b0 = v
 omega
theorem guess_cmp {q b0 r a0 : Nat} (h0 : a0 < 4294967296) : (q * b0 / 4294967296 < r ∨ q * b0 / 4294967296 = r ∧ q * b0 % 4294967296 ≤ a0) ↔ q * b0 ≤ r * 4294967296 + a0 := by
 generalize q * b0 = m
 omega
end Go.Ab
end

section
namespace Go.Ab
section
variable {T : Tbl} [CNat T] [CTwos T] [CProd T] [CQuot T]
def stGs (a0 b1 b0 : Nat) (y : Nat × Nat) : St := ⟨[(2, u32 a0), (3, u32 b1), (4, u32 b0), (11, u32 y.1), (12, u32 y.2)], [], 2⟩
end
section
variable {T : Tbl} [CNat T]
theorem gs_loop (a2 a1 a0 b1 b0 g : Nat) (h0 : a0 < 4294967296) (hb1 : b1 < 4294967296) (hb0 : b0 < 4294967296)
  (F1 : ∀ q, q < 4294967296 → g ≤ q → q * (b1 * 4294967296 + b0) ≤ (a2 * 4294967296 + a1) * 4294967296 + a0 → q = g)
  (F2 : ∀ q, (a2 * 4294967296 + a1) * 4294967296 + a0 < q * (b1 * 4294967296 + b0) → g < q) : ∀ y : Nat × Nat,
  (y.1 < 4294967296 ∧ y.2 < 4294967296 ∧ y.1 * b1 + y.2 = a2 * 4294967296 + a1 ∧ g ≤ y.1) →
  ∃ r, (r = (Ex.n, (⟨[(11, u32 g)], [], 2⟩ : St))) ∧ loopN T 0 0 (.norm false [11]) l119_0 (stGs a0 b1 b0 y) = some r := by
 refine loopN_ex _ _ (fun y => y.1) _ ?_
 rintro ⟨q, r⟩ ⟨hq, hr, hv, hg⟩
 simp only at hq hr hv hg
 have c1 := limb_mulN (T := T) q b0 0 0 hq hb0 (by decide) (by decide)
 have c2 := limb_addN (T := T) r b1 0 hr hb1 (by decide)
 rw [Nat.add_zero] at c1
 rw [Nat.add_zero] at c2
 have hcmp := guess_cmp (q := q) (b0 := b0) (r := r) h0
 obtain ⟨hi, hhi⟩ : ∃ hi, hi = q * b0 / 4294967296 := ⟨_, rfl⟩
 obtain ⟨lo, hlo⟩ : ∃ lo, lo = q * b0 % 4294967296 := ⟨_, rfl⟩
 rw [← hhi, ← hlo] at c1 hcmp
 have hlol : lo < 4294967296 := by omega
 have hhil : hi < 4294967296 := by
  have := mul_lt hq hb0
  omega
 by_cases hle : q * b0 ≤ r * 4294967296 + a0
 ·right
  have hqg := F1 q hq hg (guess_le hv hle)
  subst hqg
  have hc := hcmp.2 hle
  clear hhi hlo
  rcases hc with hc | ⟨rfl, hc2⟩
  ·refine ⟨_, rfl, ?_, ?_⟩ <;> simp -implicitDefEqProofs [l119_0, stGs, c1, hc]
  ·refine ⟨_, rfl, ?_, ?_⟩ <;> simp -implicitDefEqProofs [l119_0, stGs, c1, hc2]
 ·have hgt : r * 4294967296 + a0 < q * b0 := by omega
  have hlt := F2 q (guess_gt hv hgt)
  have hc : ¬ (hi < r ∨ hi = r ∧ lo ≤ a0) := fun h => hle (hcmp.1 h)
  have hq1 : q - 1 < 4294967296 := by omega
  have hs : sub32 q 1 = q - 1 := by unfold sub32; omega
  have hqb : (q - 1) * b1 + (r + b1) = a2 * 4294967296 + a1 := by
   have : q * b1 = (q - 1) * b1 + b1 := by
    rw [← Nat.succ_mul]
    congr 1
    omega
   omega
  by_cases hcar : 4294967296 ≤ r + b1
  ·right
   have hmul := mul_lt hq1 hb0
   have hqg := F1 (q - 1) hq1 (by omega) (guess_le hqb (by
    generalize (q - 1) * b0 = v at *
    omega))
   have m2 : 0 < (r + b1) / 4294967296 := Nat.div_pos hcar (by decide)
   have m3 : (r + b1) / 4294967296 < 4294967296 := by omega
   have hr2 : ¬ hi < r := fun h => hc (.inl h)
   clear hhi hlo
   refine ⟨_, rfl, ?_, ?_⟩ <;> by_cases he : hi = r
   ·have hc3 : ¬ lo ≤ a0 := fun h => hc (.inr ⟨he, h⟩)
    subst he
    simp -implicitDefEqProofs [l119_0, stGs, c1, c2, hs, hc3, m2]
   ·simp -implicitDefEqProofs [l119_0, stGs, c1, c2, hs, hr2, he, m2]
   ·have hc3 : ¬ lo ≤ a0 := fun h => hc (.inr ⟨he, h⟩)
    subst he
    simp -implicitDefEqProofs [l119_0, stGs, c1, c2, hs, hc3, m2, hqg]
   ·simp -implicitDefEqProofs [l119_0, stGs, c1, c2, hs, hr2, he, m2, hqg]
  ·left
   refine ⟨(q - 1, r + b1), ⟨hq1, by simp only; omega, hqb, by simp only; omega⟩, by simp only; omega, ?_⟩
   have m1 : (r + b1) % 4294967296 = r + b1 := Nat.mod_eq_of_lt (by omega)
   have m2 : (r + b1) / 4294967296 = 0 := Nat.div_eq_of_lt (by omega)
   rw [m1, m2] at c2
   have hr2 : ¬ hi < r := fun h => hc (.inl h)
   clear hhi hlo
   by_cases he : hi = r
   ·have hc3 : ¬ lo ≤ a0 := fun h => hc (.inr ⟨he, h⟩)
    subst he
    simp -implicitDefEqProofs [l119_0, stGs, c1, c2, hs, hc3]
   ·simp -implicitDefEqProofs [l119_0, stGs, c1, c2, hs, hr2, he]
end
end Go.Ab
end

section
namespace Go.Ab
section
variable {T : Tbl} [CNat T] [CTwos T] [CProd T] [CQuot T]
theorem guess_F {n two : Nat} (h : 0 < two) : (∀ q, q < 4294967296 → min 4294967295 (n / two) ≤ q → q * two ≤ n → q = min 4294967295 (n / two)) ∧ (∀ q, n < q * two → min 4294967295 (n / two) < q) := by
 constructor
 ·intro q hq hg hle
  have := (Nat.le_div_iff_mul_le h).2 hle
  omega
 ·intro q hlt
  have := (Nat.div_lt_iff_lt_mul h).2 hlt
  omega
theorem guess_up {A a0 b1 b0 : Nat} (h0 : a0 < 4294967296) (hp : 0 < b1) : A * 4294967296 + a0 < (A / b1 + 1) * (b1 * 4294967296 + b0) := by
 have h1 : A < (A / b1 + 1) * b1 := by rw [Nat.mul_comm]; exact Nat.lt_mul_div_succ A hp
 refine Nat.lt_of_lt_of_eq ?_ (guess_mul (A / b1 + 1) b1 b0).symm
 generalize (A / b1 + 1) * b1 = u at *
 generalize (A / b1 + 1) * b0 = v at *
 omega
end
section
variable {T : Tbl} [CNat T] [CQuot T]
theorem quot_guess (a2 a1 a0 b1 b0 : Nat) (h2 : a2 < 4294967296) (h1 : a1 < 4294967296) (h0 : a0 < 4294967296) (hb1 : b1 < 4294967296) (hb0 : b0 < 4294967296) (hp : 0 < b1) :
  callF T 119 [u32 a2, u32 a1, u32 a0, u32 b1, u32 b0] = some (u32 (min 4294967295 (((a2 * 4294967296 + a1) * 4294967296 + a0) / (b1 * 4294967296 + b0)))) := by
 obtain ⟨F1, F2⟩ := guess_F (n := (a2 * 4294967296 + a1) * 4294967296 + a0) (two := b1 * 4294967296 + b0) (by omega)
 have hgle := Nat.min_le_left 4294967295 (((a2 * 4294967296 + a1) * 4294967296 + a0) / (b1 * 4294967296 + b0))
 generalize min 4294967295 (((a2 * 4294967296 + a1) * 4294967296 + a0) / (b1 * 4294967296 + b0)) = g at *
 by_cases hlt : a2 < b1
 ·have hd := limb_divN (T := T) a2 a1 b1 hlt h1 hb1
  have hql : (a2 * 4294967296 + a1) / b1 < 4294967296 := div_lt hlt h1
  have hrl : (a2 * 4294967296 + a1) % b1 < b1 := Nat.mod_lt _ hp
  have hdm := Nat.div_add_mod (a2 * 4294967296 + a1) b1
  rw [Nat.mul_comm] at hdm
  obtain ⟨_, rfl, hr⟩ := gs_loop (T := T) a2 a1 a0 b1 b0 g h0 hb1 hb0 F1 F2 ((a2 * 4294967296 + a1) / b1, (a2 * 4294967296 + a1) % b1) ⟨hql, by simp only; omega, hdm, by have := F2 _ (guess_up (A := a2 * 4294967296 + a1) (b0 := b0) h0 hp); simp only; omega⟩
  unfold stGs at hr
  simp at hr
  rw [f119 _ rfl, b119]
  simp -implicitDefEqProofs [hd, hr]
 ·have hd := limb_divN' (T := T) a2 a1 b1 (by omega) h2 h1
  have ha := limb_addN (T := T) a1 b1 0 h1 hb1 (by decide)
  rw [Nat.add_zero] at ha
  by_cases hbig : b1 < a2 ∨ 4294967296 ≤ a1 + b1
  ·have hg : 4294967295 = g := by
    refine F1 4294967295 (by decide) hgle ?_
    refine guess_le (r := a2 * 4294967296 + a1 - 4294967295 * b1) (by omega) ?_
    omega
   subst hg
   rw [f119 _ rfl, b119]
   rcases Nat.lt_or_ge b1 a2 with hb | hb
   ·simp -implicitDefEqProofs [hd, ha, hb]
   ·have hc : 4294967296 ≤ a1 + b1 := by omega
    have hb2 : ¬ b1 < a2 := by omega
    have m2 : 0 < (a1 + b1) / 4294967296 := Nat.div_pos hc (by decide)
    simp -implicitDefEqProofs [hd, ha, hb2, m2]
  ·have hb2 : ¬ b1 < a2 := fun h => hbig (.inl h)
   have hc : a1 + b1 < 4294967296 := by omega
   have m1 : (a1 + b1) % 4294967296 = a1 + b1 := Nat.mod_eq_of_lt hc
   have m2 : (a1 + b1) / 4294967296 = 0 := Nat.div_eq_of_lt hc
   rw [m1, m2] at ha
   obtain ⟨_, rfl, hr⟩ := gs_loop (T := T) a2 a1 a0 b1 b0 g h0 hb1 hb0 F1 F2 (4294967295, a1 + b1) ⟨Nat.lt_succ_self 4294967295, hc, by simp only; omega, hgle⟩
   unfold stGs at hr
   simp at hr
   have hb3 : a2 ≤ b1 := by omega
   rw [f119 _ rfl, b119]
   simp -implicitDefEqProofs [hd, ha, hb2, hr]
end
end Go.Ab
end

section
namespace Go.Ab
theorem guess_law {V b d three two v0 b0 : Nat} (hV : V = three * d + v0) (hv : v0 < d) (hb : b = two * d + b0) (hb0 : b0 < d) (h2 : 4294967296 ≤ two) (hlt : V < 4294967296 * b) :
  V / b ≤ min 4294967295 (three / two) ∧ min 4294967295 (three / two) ≤ V / b + 1 := by
 have hd : 0 < d := by omega
 have htp : 0 < two := by omega
 have hbp : 0 < b := by
  have := Nat.mul_pos htp hd
  omega
 have hq : V / b < 4294967296 := Nat.div_lt_of_lt_mul (by rw [Nat.mul_comm]; exact hlt)
 have hqb : V / b * b ≤ V := Nat.div_mul_le_self V b
 have hqb2 : V < (V / b + 1) * b := by rw [Nat.mul_comm]; exact Nat.lt_mul_div_succ V hbp
 generalize V / b = q at *
 constructor
 ·refine Nat.le_min.2 ⟨by omega, (Nat.le_div_iff_mul_le htp).2 ?_⟩
  have h3 : q * two * d < (three + 1) * d := by
   have : q * two * d ≤ q * b := by rw [hb, Nat.mul_add, Nat.mul_assoc]; omega
   rw [Nat.add_mul, Nat.one_mul]
   omega
  have := Nat.lt_of_mul_lt_mul_right h3
  omega
 ·generalize hx : min 4294967295 (three / two) = x
  have hx1 : x ≤ three / two := by rw [← hx]; exact Nat.min_le_right _ _
  have hx2 : x ≤ 4294967295 := by rw [← hx]; exact Nat.min_le_left _ _
  have hx3 : x * two ≤ three := (Nat.le_div_iff_mul_le htp).1 hx1
  rcases Nat.lt_or_ge (q + 1) x with h | h
  ·exfalso
   have e1 : (q + 2) * two ≤ x * two := Nat.mul_le_mul_right _ h
   have e2 : (q + 2) * two * d ≤ three * d := Nat.mul_le_mul_right _ (Nat.le_trans e1 hx3)
   have e3 : (q + 1) * b = (q + 1) * two * d + (q + 1) * b0 := by rw [hb, Nat.mul_add, Nat.mul_assoc]
   have e4 : (q + 1) * b0 ≤ (q + 1) * d := Nat.mul_le_mul_left _ (Nat.le_of_lt hb0)
   have e5 : (q + 2) * two * d = (q + 1) * two * d + two * d := by rw [show q + 2 = (q + 1) + 1 from rfl, Nat.add_mul (q + 1) 1 two, Nat.one_mul, Nat.add_mul]
   have e6 : (q + 1) * d ≤ two * d := Nat.mul_le_mul_right _ (by omega)
   omega
  ·exact h
end Go.Ab
end

section
namespace Go.Ab
theorem long_tot {vA vA' t p V x r vb vm T : Nat} (h0 : vA = t + p * V) (h1 : vA' = t + p * r) (hV : V = vb * x + r) (hT : T = vA + p * 4294967296 * (vm * vb)) :
  T = vA' + p * ((x + 4294967296 * vm) * vb) := by grind
theorem long_pick {V b x Bo vm p : Nat} (hb : 0 < b) (h1 : V / b ≤ x) (h2 : x ≤ V / b + 1) (_hp : V < p) (hm : vm < p) (hBo : Bo ≤ 1) (h : vm + x * b = V + p * Bo) :
  (Bo = 0 → x = V / b ∧ vm = V % b) ∧ (Bo = 1 → x = V / b + 1 ∧ vm + b = V % b + p) := by
 have hd := Nat.div_add_mod V b
 have hmod := Nat.mod_lt V hb
 rw [Nat.mul_comm] at hd
 constructor
 ·intro h0
  subst h0
  rw [Nat.mul_zero, Nat.add_zero] at h
  have hx : x = V / b := by
   have : x * b ≤ V := by omega
   have := (Nat.le_div_iff_mul_le hb).2 this
   omega
  subst hx
  exact ⟨rfl, by omega⟩
 ·intro h0
  subst h0
  rw [Nat.mul_one] at h
  have hx : x = V / b + 1 := by
   rcases Nat.lt_or_ge (V / b) x with h3 | h3
   ·omega
   ·have h4 : x = V / b := by omega
    subst h4
    omega
  subst hx
  rw [Nat.add_mul, Nat.one_mul] at h
  exact ⟨rfl, by omega⟩
theorem long_give {vm b r p D vm' : Nat} (_hr : r < p) (h : vm + b = r + p) (hm : vm' < p) (hD : D ≤ 1) (hg : vm' + p * D = vm + b) : vm' = r := by
 rcases Nat.eq_zero_or_pos D with h0 | h0
 ·subst h0
  omega
 ·have : D = 1 := by omega
  subst this
  omega
theorem get_eq {α : Type} {A : List α} {i k : Nat} (h : i = k) (hi : i < A.length) (hk : k < A.length) : A[i]'hi = A[k]'hk := by subst h; rfl
theorem val_drop_take (A : List UInt32) (j n : Nat) : val (A.drop j) = val ((A.drop j).take n) + 4294967296 ^ ((A.drop j).take n).length * val (A.drop (j + n)) := by
 conv => lhs; rw [← List.take_append_drop n (A.drop j), val_append]
 rw [List.drop_drop]
theorem sub32_succ {q x : Nat} (h : x = q + 1) (hx : x < 4294967296) : sub32 x 1 = q := by unfold sub32; omega
theorem mid_facts {A m1 : List UInt32} {j n : Nat} (hm1 : m1.length = n + 1) (hj : j + n < A.length) :
  (A.take j ++ (m1 ++ A.drop (j + (n + 1)))).take j = A.take j ∧ (A.take j ++ (m1 ++ A.drop (j + (n + 1)))).drop (j + (n + 1)) = A.drop (j + (n + 1)) ∧
  ((A.take j ++ (m1 ++ A.drop (j + (n + 1)))).drop j).take (n + 1) = m1 ∧ (A.take j ++ (m1 ++ A.drop (j + (n + 1)))).length = A.length := by
 have htj : (A.take j).length = j := by simp; omega
 refine ⟨?_, ?_, ?_, ?_⟩
 ·rw [List.take_append_of_le_length (by omega), List.take_of_length_le (by omega)]
 ·rw [← List.drop_drop, List.drop_append_of_le_length (by omega), List.drop_of_length_le (l := A.take j) (by omega), List.nil_append, List.drop_append_of_le_length (by omega), List.drop_of_length_le (by omega), List.nil_append]
 ·rw [List.drop_append_of_le_length (by omega), List.drop_of_length_le (l := A.take j) (by omega), List.nil_append, List.take_append_of_le_length (by omega), List.take_of_length_le (by omega)]
 ·simp [hm1]; omega
theorem val_three {D : List UInt32} {n : Nat} (h : n + 2 < D.length) : val (D.take (n + 3)) = (((D[n + 2]'h).toNat * 4294967296 + (D[n + 1]'(by omega)).toNat) * 4294967296 + (D[n]'(by omega)).toNat) * 4294967296 ^ n + val (D.take n) := by
 rw [val_take_succ (List.getElem?_eq_getElem h), val_take_succ (List.getElem?_eq_getElem (show n + 1 < D.length by omega)), val_take_succ (List.getElem?_eq_getElem (show n < D.length by omega)), Nat.pow_succ 4294967296 (n + 1), Nat.pow_succ]
 generalize 4294967296 ^ n = p
 grind
theorem val_two {D : List UInt32} {n : Nat} (h : n + 1 < D.length) : val (D.take (n + 2)) = ((D[n + 1]'h).toNat * 4294967296 + (D[n]'(by omega)).toNat) * 4294967296 ^ n + val (D.take n) := by
 rw [val_take_succ (List.getElem?_eq_getElem h), val_take_succ (List.getElem?_eq_getElem (show n < D.length by omega)), Nat.pow_succ]
 generalize 4294967296 ^ n = p
 grind
section
variable {T : Tbl} [CNat T] [CQuot T]
theorem quot_take' (A b : List UInt32) (j x : Nat) (hx : x < 4294967296) (hj : j + b.length < A.length) (hl : A.length ≤ 1000000) :
  ∃ (B : Nat) (m : List UInt32), B ≤ 1 ∧ m.length = b.length + 1 ∧ val m + x * val b = val ((A.drop j).take (b.length + 1)) + 4294967296 ^ (b.length + 1) * B ∧
   callH T 120 [.bs (.bor 0) 0 1 0 A.length, .i .i64 j, .sl (u32s b) .an, u32 x] [(.bor 0, ⟨0, .own, 1, u32s A⟩)] =
    some (.b (decide (0 < B)), [(.bor 0, ⟨0, .own, 1, u32s (A.take j ++ (m ++ A.drop (j + (b.length + 1))))⟩)]) := by
 have h1 : (A.take j).length = j := by simp; omega
 have h2 : (A.drop j).length = A.length - j := by simp
 obtain ⟨B, m, hB, hm, hv, hc⟩ := quot_take (T := T) (A.take j) (A.drop j) b x hx (by omega) (by omega)
 rw [h1, h2, show j + (A.length - j) = A.length by omega, List.take_append_drop, List.drop_drop] at hc
 exact ⟨B, m, hB, hm, hv, hc⟩
end
section
variable {T : Tbl} [CNat T] [CQuot T]
theorem quot_give' (A b : List UInt32) (j : Nat) (hj : j + b.length < A.length) (hl : A.length ≤ 1000000) :
  ∃ (D : Nat) (m : List UInt32), D ≤ 1 ∧ m.length = b.length + 1 ∧ val m + 4294967296 ^ (b.length + 1) * D = val ((A.drop j).take (b.length + 1)) + val b ∧
   callH T 121 [.bs (.bor 0) 0 1 0 A.length, .i .i64 j, .sl (u32s b) .an] [(.bor 0, ⟨0, .own, 1, u32s A⟩)] =
    some (.tup [], [(.bor 0, ⟨0, .own, 1, u32s (A.take j ++ (m ++ A.drop (j + (b.length + 1))))⟩)]) := by
 have h1 : (A.take j).length = j := by simp; omega
 have h2 : (A.drop j).length = A.length - j := by simp
 obtain ⟨D, m, hD, hm, hv, hc⟩ := quot_give (T := T) (A.take j) (A.drop j) b (by omega) (by omega)
 rw [h1, h2, show j + (A.length - j) = A.length by omega, List.take_append_drop, List.drop_drop] at hc
 exact ⟨D, m, hD, hm, hv, hc⟩
end
section
variable {T : Tbl} [CNat T] [CTwos T] [CProd T] [CQuot T]
def stLg (b : List UInt32) (LA LQ : Nat) (y : Nat × List UInt32 × List UInt32) : St :=
 ⟨[(0, .bs (.bor 0) 0 1 0 LA), (1, .sl (u32s b) .an), (5, .i .i64 b.length), (6, .bs (.loc 15) 3 1 0 LQ), (7, .i .i64 ((y.1 : Int) - 1))],
  [(.bor 0, ⟨0, .own, 1, u32s y.2.1⟩), (.loc 15, ⟨3, .own, 1, u32s (List.replicate y.1 0 ++ y.2.2)⟩)], 5⟩
end
section
variable {T : Tbl} [CNat T] [CQuot T]
set_option maxHeartbeats 2000000 in
theorem lg_loop (A0 b : List UInt32) (LQ nb : Nat) (hnb : b.length = nb + 2) (hb1 : 0 < (b[nb + 1]'(by omega)).toNat) (hl : A0.length ≤ 1000000) (hA0 : A0.length = LQ + b.length) : ∀ y : Nat × List UInt32 × List UInt32,
  (y.1 ≤ LQ ∧ y.2.1.length = A0.length ∧ y.2.2.length = LQ - y.1 ∧ val (y.2.1.drop y.1) < val b ∧ val A0 = val y.2.1 + 4294967296 ^ y.1 * (val y.2.2 * val b)) →
  ∃ r, (∃ Q A : List UInt32, r = (Ex.n, (⟨[(6, .bs (.loc 15) 3 1 0 LQ)], [(.bor 0, ⟨0, .own, 1, u32s A⟩), (.loc 15, ⟨3, .own, 1, u32s Q⟩)], 5⟩ : St)) ∧
   Q.length = LQ ∧ A.length = A0.length ∧ val Q = val A0 / val b ∧ val A = val A0 % val b) ∧ loopN T 1 0 (.norm false [6]) l93_0 (stLg b A0.length LQ y) = some r := by
 refine loopN_ex _ _ (fun y => y.1) _ ?_
 rintro ⟨k, A, m⟩ ⟨hk, hA, hm, hlt, hv⟩
 simp only at hk hA hm hlt hv
 have hbp : 0 < val b := by omega
 cases k with
 | zero =>
  right
  rw [Nat.pow_zero, Nat.one_mul] at hv
  rw [List.drop_zero] at hlt
  refine ⟨_, ⟨m, A, rfl, by omega, hA, ?_, ?_⟩, ?_, ?_⟩
  ·rw [hv, Nat.add_mul_div_right _ _ hbp, Nat.div_eq_of_lt hlt, Nat.zero_add]
  ·rw [hv, Nat.add_mul_mod_self_right, Nat.mod_eq_of_lt hlt]
  ·simp -implicitDefEqProofs [l93_0, stLg]
  ·simp -implicitDefEqProofs [l93_0, stLg]
 | succ j =>
  left
  -- the window
  have hD : (A.drop j).length = A.length - j := by simp
  have hDn : nb + 2 < (A.drop j).length := by omega
  have hVlt : val (A.drop j) < 4294967296 * val b := by
   have := List.drop_eq_getElem_cons (show j < A.length by omega)
   rw [this, val_cons]
   have := u32_lt (A[j]'(by omega))
   omega
  have hbB := val_lt b
  rw [hnb] at hbB
  have hsplit := val_drop_take A j (nb + 3)
  have hlen3 : ((A.drop j).take (nb + 3)).length = nb + 3 := by simp; omega
  rw [hlen3] at hsplit
  have hz : val (A.drop (j + (nb + 3))) = 0 := by
   rcases Nat.eq_zero_or_pos (val (A.drop (j + (nb + 3)))) with h | h
   ·exact h
   ·exfalso
    have h1 := Nat.mul_le_mul_left (4294967296 ^ (nb + 3)) h
    rw [Nat.pow_succ 4294967296 (nb + 2)] at h1 hsplit
    generalize 4294967296 ^ (nb + 2) = p at *
    generalize p * 4294967296 * val (A.drop (j + (nb + 3))) = u at *
    omega
  rw [hz, Nat.mul_zero, Nat.add_zero] at hsplit
  have h3 := val_three hDn
  have h2 := val_two (D := b) (n := nb) (by omega)
  rw [val_take_all (a := b) (i := nb + 2) (by omega)] at h2
  have hv0 := val_lt ((A.drop j).take nb)
  have hb0 := val_lt (b.take nb)
  rw [show ((A.drop j).take nb).length = nb by simp; omega] at hv0
  rw [show (b.take nb).length = nb by simp; omega] at hb0
  obtain ⟨V, hV⟩ : ∃ V, V = val (A.drop j) := ⟨_, rfl⟩
  rw [← hV] at hsplit hVlt
  rw [← hsplit] at h3
  have hg := guess_law (V := V) (b := val b) h3 hv0 h2 hb0 (by omega) hVlt
  obtain ⟨p0, hp0⟩ : ∃ p, p = j + b.length := ⟨_, rfl⟩
  obtain ⟨p1, hp1⟩ : ∃ p, p = j + (nb + 1) := ⟨_, rfl⟩
  obtain ⟨p2, hp2⟩ : ∃ p, p = j + nb := ⟨_, rfl⟩
  obtain ⟨q1, hq1⟩ : ∃ p, p = nb + 1 := ⟨_, rfl⟩
  have c1 : p0 < A.length := by omega
  have c2 : p1 < A.length := by omega
  have c3 : p2 < A.length := by omega
  have c4 : q1 < b.length := by omega
  have c5 : nb < b.length := by omega
  have e1 : (A.drop j)[nb + 2]'hDn = A[p0]'c1 := List.getElem_drop.trans (get_eq (by omega) _ _)
  have e2 : (A.drop j)[nb + 1]'(by omega) = A[p1]'c2 := List.getElem_drop.trans (get_eq (by omega) _ _)
  have e3 : (A.drop j)[nb]'(by omega) = A[p2]'c3 := List.getElem_drop.trans (get_eq (by omega) _ _)
  have e4 : b[nb + 1]'(by omega) = b[q1]'c4 := get_eq (by omega) _ _
  rw [e1, e2, e3, e4] at hg
  rw [e4] at hb1
  have hgs := quot_guess (T := T) (A[p0]'c1).toNat (A[p1]'c2).toNat (A[p2]'c3).toNat (b[q1]'c4).toNat (b[nb]'c5).toNat (u32_lt _) (u32_lt _) (u32_lt _) (u32_lt _) (u32_lt _) hb1
  obtain ⟨x, hxd⟩ : ∃ x, x = min 4294967295 ((((A[p0]'c1).toNat * 4294967296 + (A[p1]'c2).toNat) * 4294967296 + (A[p2]'c3).toNat) / ((b[q1]'c4).toNat * 4294967296 + (b[nb]'c5).toNat)) := ⟨_, rfl⟩
  rw [← hxd] at hg hgs
  have hx : x < 4294967296 := by rw [hxd]; exact Nat.lt_of_le_of_lt (Nat.min_le_left _ _) (by decide)
  clear hxd
  obtain ⟨Bo, m1, hBo, hm1, hvm1, hct⟩ := quot_take' (T := T) A b j x hx (by omega) (by omega)
  rw [hnb, show nb + 2 + 1 = nb + 3 from rfl, ← hsplit] at hvm1
  have hm1l := val_lt m1
  rw [hm1, hnb, show nb + 2 + 1 = nb + 3 from rfl] at hm1l
  have hVp : V < 4294967296 ^ (nb + 3) := by
   rw [Nat.pow_succ 4294967296 (nb + 2)]
   generalize 4294967296 ^ (nb + 2) = p at *
   omega
  have hpk := long_pick hbp hg.1 hg.2 hVp hm1l hBo hvm1
  have hql : V / val b < 4294967296 := Nat.div_lt_of_lt_mul (by rw [Nat.mul_comm]; exact hVlt)
  have hzb : val (A.drop (j + (b.length + 1))) = 0 := by rw [hnb]; exact hz
  have htj : (A.take j).length = j := by simp; omega
  have fin : ∀ m2 : List UInt32, m2.length = b.length + 1 → val m2 = V % val b →
    (A.take j ++ (m2 ++ A.drop (j + (b.length + 1)))).length = A0.length ∧ val ((A.take j ++ (m2 ++ A.drop (j + (b.length + 1)))).drop j) < val b ∧
    val A0 = val (A.take j ++ (m2 ++ A.drop (j + (b.length + 1)))) + 4294967296 ^ j * (val (w32 (V / val b) :: m) * val b) := by
   intro m2 hm2 hvm2
   refine ⟨by simp [hm2]; omega, ?_, ?_⟩
   ·rw [List.drop_append_of_le_length (by omega), List.drop_of_length_le (by omega), List.nil_append, val_append, hzb, Nat.mul_zero, Nat.add_zero, hvm2]
    exact Nat.mod_lt _ hbp
   ·have t1 : val A = val (A.take j) + 4294967296 ^ j * V := by rw [hV]; exact val_split A j (by omega)
    have t2 : val (A.take j ++ (m2 ++ A.drop (j + (b.length + 1)))) = val (A.take j) + 4294967296 ^ j * (V % val b) := by
     rw [val_append, val_append, hzb, Nat.mul_zero, Nat.add_zero, hvm2, htj]
    rw [val_cons, w32_of_lt hql]
    exact long_tot t1 t2 (Nat.div_add_mod V (val b)).symm hv
  clear hv hvm1 hsplit h3 h2 hg hbB hVlt hlt hzb hz hv0 hb0 hm1l hVp
  have hw1 : IntKind.wrap .i64 ((j : Int) - 1) = (j : Int) - 1 := wrap_i64 _ (by omega)
  have hw2 : IntKind.wrap .i64 ((j : Int) + b.length) = ((p0 : Nat) : Int) := by rw [wrap_i64 _ (by omega)]; omega
  have hw3 : IntKind.wrap .i64 ((p0 : Int) - 1) = ((p1 : Nat) : Int) := by rw [wrap_i64 _ (by omega)]; omega
  have hw4 : IntKind.wrap .i64 ((p0 : Int) - 2) = ((p2 : Nat) : Int) := by rw [wrap_i64 _ (by omega)]; omega
  have hw5 : IntKind.wrap .i64 ((b.length : Int) - 1) = ((q1 : Nat) : Int) := by rw [wrap_i64 _ (by omega)]; omega
  have hw6 : IntKind.wrap .i64 ((b.length : Int) - 2) = ((nb : Nat) : Int) := by rw [wrap_i64 _ (by omega)]; omega
  have hj1 : j < LQ := by omega
  rw [hA] at hct
  have hml : (w32 (V / val b) :: m).length = LQ - j := by simp [hm]; omega
  have hjb : j + b.length < A.length := by omega
  have hnb3 : nb + 3 = b.length + 1 := by omega
  have d1 : p0 < A0.length := by omega
  have d2 : p1 < A0.length := by omega
  have d3 : p2 < A0.length := by omega
  rcases Nat.eq_zero_or_pos Bo with h0 | h0
  ·obtain ⟨hxq, hvm⟩ := hpk.1 h0
   subst h0
   subst hxq
   have hset := set_mid0 (m := m) (j := j) (w32 (V / val b))
   obtain ⟨f1, f2, f3⟩ := fin m1 hm1 hvm
   refine ⟨(j, A.take j ++ (m1 ++ A.drop (j + (b.length + 1))), w32 (V / val b) :: m), ⟨Nat.le_of_lt hj1, f1, hml, f2, f3⟩, Nat.lt_succ_self j, ?_⟩
   simp -implicitDefEqProofs [l93_0, stLg, hw1, hw2, hw3, hw4, hw5, hw6, c4, c5, d1, d2, d3, hA, hj1, hgs, hct, hset, get_mid0, u32s_set _ _ _ hx]
  ·have h1 : Bo = 1 := by omega
   obtain ⟨hxq, hvm⟩ := hpk.2 h1
   subst h1
   have hset := set_mid0 (m := m) (j := j) (w32 (V / val b))
   obtain ⟨t1, t2, t3, t4⟩ := mid_facts (A := A) hm1 hjb
   rw [hA] at t4
   obtain ⟨D, m2, hD, hm2, hvm2, hcg⟩ := quot_give' (T := T) (A.take j ++ (m1 ++ A.drop (j + (b.length + 1)))) b j (by rw [t4, ← hA]; exact hjb) (by rw [t4]; exact hl)
   rw [t1, t2, t4] at hcg
   rw [t3] at hvm2
   have hm2l := val_lt m2
   rw [hm2] at hm2l
   have hVb := Nat.mod_lt V hbp
   have hbq : val b < 4294967296 ^ (b.length + 1) := Nat.lt_of_lt_of_le (val_lt b) (Nat.pow_le_pow_right (by decide) (Nat.le_succ _))
   rw [hnb3] at hvm
   have hv2 := long_give (Nat.lt_trans hVb hbq) hvm hm2l hD hvm2
   have hsx := sub32_succ hxq hx
   obtain ⟨f1, f2, f3⟩ := fin m2 hm2 hv2
   refine ⟨(j, A.take j ++ (m2 ++ A.drop (j + (b.length + 1))), w32 (V / val b) :: m), ⟨Nat.le_of_lt hj1, f1, hml, f2, f3⟩, Nat.lt_succ_self j, ?_⟩
   simp -implicitDefEqProofs [l93_0, stLg, hw1, hw2, hw3, hw4, hw5, hw6, c4, c5, d1, d2, d3, hA, hj1, hgs, hct, hsx, hcg, hset, get_mid0, u32s_set _ _ _ hql]
end
section
variable {T : Tbl} [CNat T] [CQuot T]
theorem quot_long (A b : List UInt32) (LQ nb : Nat) (hnb : b.length = nb + 2) (hb1 : 0 < (b[nb + 1]'(by omega)).toNat) (hl : A.length ≤ 1000000) (hA : A.length = LQ + b.length) (hlt : val (A.drop LQ) < val b) :
  ∃ Q R : List UInt32, Q.length = LQ ∧ R.length = A.length ∧ val Q = val A / val b ∧ val R = val A % val b ∧
   callH T 93 [.bs (.bor 0) 0 1 0 A.length, .sl (u32s b) .an] [(.bor 0, ⟨0, .own, 1, u32s A⟩)] = some (.bs (.loc 15) 3 1 0 LQ, [(.bor 0, ⟨0, .own, 1, u32s R⟩), (.loc 15, ⟨3, .own, 1, u32s Q⟩)]) := by
 obtain ⟨_, ⟨Q, R, rfl, hQ, hR, hq, hr⟩, hlp⟩ := lg_loop (T := T) A b LQ nb hnb hb1 hl hA (LQ, A, []) ⟨Nat.le_refl _, rfl, by simp, hlt, by simp⟩
 have hw : IntKind.wrap .i64 ((A.length : Int) - b.length) = (LQ : Int) := by rw [wrap_i64 _ (by omega)]; omega
 have hw1 : IntKind.wrap .i64 ((LQ : Int) - 1) = (LQ : Int) - 1 := wrap_i64 _ (by omega)
 have h1 : (LQ : Int) ≤ 4294967296 := by omega
 refine ⟨Q, R, hQ, hR, hq, hr, ?_⟩
 unfold stLg at hlp
 simp at hlp
 rw [f93 _ _ rfl, b93]
 simp -implicitDefEqProofs [hw, hw1, h1, hlp]
end
end Go.Ab
end

section
namespace Go.Ab
def b2071 : AX :=
 (.seq
 (.reg [⟨(some 2), none, .mov (.c (.sl [] .nl))⟩])
 (.seq
 (.reg [⟨(some 3), none, .mov (.t 0)⟩,
 ⟨(some 4), none, .call 86 [(.t 3)]⟩,
 ⟨(some 5), none, .call 2106 [(.t 4), (.c (.i .i64 0))]⟩,
 ⟨(some 2), none, .mov (.t 5)⟩])
 (.pre (.norm false [2]) .ret)))
def l2092_0 : AX :=
 (.note
 (.seq
 (.reg [⟨(some 27), none, .bin .lss (.t 26) (.t 25)⟩])
 (.seq
 (.cond (.t 27)
 .skip
 (.exit 0))
 (.seq
 (.block 1
 (.seq
 (.reg [⟨(some 28), none, .mov (.t 26)⟩,
 ⟨(some 29), none, .iad 1 (.t 24) (.t 26)⟩,
 ⟨(some 30), none, .load none (.t 29)⟩,
 ⟨(some 8), none, .mov (.t 28)⟩,
 ⟨(some 9), none, .mov (.t 30)⟩])
 (.seq
 (.reg [⟨(some 31), none, .mov (.t 9)⟩,
 ⟨(some 32), none, .conv .u64 (.t 31)⟩,
 ⟨(some 33), none, .mov (.t 6)⟩,
 ⟨(some 34), none, .bin .shl (.t 32) (.t 33)⟩,
 ⟨(some 10), none, .mov (.t 34)⟩])
 (.seq
 (.reg [⟨(some 35), none, .mov (.t 7)⟩,
 ⟨(some 36), none, .mov (.t 5)⟩,
 ⟨(some 37), none, .mov (.t 8)⟩,
 ⟨(some 38), none, .bin .add (.t 36) (.t 37)⟩,
 ⟨(some 39), none, .iad 1 (.t 35) (.t 38)⟩,
 ⟨(some 40), none, .load none (.t 39)⟩,
 ⟨(some 41), none, .mov (.t 10)⟩,
 ⟨(some 42), none, .conv .u32 (.t 41)⟩,
 ⟨(some 43), none, .bin .or (.t 40) (.t 42)⟩,
 ⟨(some 44), none, .iad 1 (.t 35) (.t 38)⟩,
 ⟨none, none, .store 1 (.t 44) (.t 43)⟩])
 (.reg [⟨(some 45), none, .mov (.t 7)⟩,
 ⟨(some 46), none, .mov (.t 5)⟩,
 ⟨(some 47), none, .mov (.t 8)⟩,
 ⟨(some 48), none, .bin .add (.t 46) (.t 47)⟩,
 ⟨(some 49), none, .bin .add (.t 48) (.c (.i .i64 1))⟩,
 ⟨(some 50), none, .mov (.t 10)⟩,
 ⟨(some 51), none, .bin .shr (.t 50) (.c (u64 32))⟩,
 ⟨(some 52), none, .conv .u32 (.t 51)⟩,
 ⟨(some 53), none, .iad 1 (.t 45) (.t 49)⟩,
 ⟨none, none, .store 1 (.t 53) (.t 52)⟩])))))
 (.reg [⟨(some 54), none, .bin .add (.t 26) (.c (.i .i64 1))⟩,
 ⟨(some 26), none, .mov (.t 54)⟩]))))
 (.norm false [5, 6, 7, 24, 25, 26]))
def b2092 : AX :=
 (.seq
 (.reg [⟨(some 4), none, .mov (.c (.sl [] .nl))⟩])
 (.seq
 (.reg [⟨(some 11), none, .mov (.t 1)⟩,
 ⟨(some 12), none, .mm true [(.t 11), (.c (.i .i64 0))]⟩,
 ⟨(some 13), none, .mm false [(.t 12), (.c (.i .i64 4096))]⟩,
 ⟨(some 1), none, .mov (.t 13)⟩])
 (.seq
 (.reg [⟨(some 14), none, .mov (.t 1)⟩,
 ⟨(some 15), none, .bin .quo (.t 14) (.c (.i .i64 32))⟩,
 ⟨(some 16), none, .mov (.t 1)⟩,
 ⟨(some 17), none, .bin .rem (.t 16) (.c (.i .i64 32))⟩,
 ⟨(some 5), none, .mov (.t 15)⟩,
 ⟨(some 6), none, .mov (.t 17)⟩])
 (.seq
 (.reg [⟨(some 18), none, .mov (.t 5)⟩,
 ⟨(some 19), none, .mov (.t 0)⟩,
 ⟨(some 20), none, .len (.t 19)⟩,
 ⟨(some 21), none, .bin .add (.t 18) (.t 20)⟩,
 ⟨(some 22), none, .bin .add (.t 21) (.c (.i .i64 1))⟩,
 ⟨(some 23), none, .mks 1 [(u32 0)] (.t 22) (.t 22)⟩,
 ⟨(some 7), none, .mov (.t 23)⟩])
 (.seq
 (.seq
 (.reg [⟨(some 24), none, .mov (.t 0)⟩,
 ⟨(some 25), none, .len (.t 24)⟩,
 ⟨(some 26), none, .mov (.c (.i .i64 0))⟩])
 (.lp 0 (.norm false [5, 6, 7, 24, 25, 26]) l2092_0 (.norm false [7])))
 (.seq
 (.reg [⟨(some 55), none, .mov (.t 7)⟩,
 ⟨(some 56), none, .call 2071 [(.t 55)]⟩,
 ⟨(some 4), none, .mov (.t 56)⟩])
 (.pre (.norm false [4]) .ret)))))))
def b62 : AX :=
 (.seq
 (.reg [⟨(some 4), none, .mov (.c (.sl [] .nl))⟩,
 ⟨(some 5), none, .mov (.c (.sl [] .nl))⟩,
 ⟨(some 6), none, .mov (.c (.b false))⟩])
 (.seq
 (.reg [⟨(some 12), none, .mov (.t 1)⟩,
 ⟨(some 13), none, .call 71 [(.t 12)]⟩,
 ⟨(some 1), none, .mov (.t 13)⟩])
 (.seq
 (.block 0
 (.seq
 (.reg [⟨(some 15), none, .mov (.t 1)⟩,
 ⟨(some 16), none, .len (.t 15)⟩,
 ⟨(some 17), none, .bin .eql (.t 16) (.c (.i .i64 0))⟩,
 ⟨(some 14), none, .mov (.t 17)⟩])
 (.cond (.t 14)
 (.seq
 (.reg [⟨(some 4), none, .mov (.c (.sl [] .nl))⟩,
 ⟨(some 5), none, .mov (.c (.sl [] .nl))⟩,
 ⟨(some 6), none, .mov (.c (.b false))⟩])
 (.pre (.norm false [4, 5, 6]) .ret))
 (.seq
 (.reg [⟨(some 19), none, .mov (.t 0)⟩,
 ⟨(some 20), none, .mov (.t 1)⟩,
 ⟨(some 21), none, .call 87 [(.t 19), (.t 20)]⟩,
 ⟨(some 22), none, .bin .lss (.t 21) (.c (.i .i64 0))⟩,
 ⟨(some 18), none, .mov (.t 22)⟩])
 (.cond (.t 18)
 (.seq
 (.reg [⟨(some 23), none, .mov (.t 0)⟩,
 ⟨(some 24), none, .call 71 [(.t 23)]⟩,
 ⟨(some 4), none, .mov (.c (.sl [] .nl))⟩,
 ⟨(some 5), none, .mov (.t 24)⟩,
 ⟨(some 6), none, .mov (.c (.b true))⟩])
 (.pre (.norm false [4, 5, 6]) .ret))
 (.seq
 (.reg [⟨(some 26), none, .mov (.t 1)⟩,
 ⟨(some 27), none, .len (.t 26)⟩,
 ⟨(some 28), none, .bin .eql (.t 27) (.c (.i .i64 1))⟩,
 ⟨(some 25), none, .mov (.t 28)⟩])
 (.cond (.t 25)
 (.seq
 (.reg [⟨(some 30), none, .mov (.t 0)⟩,
 ⟨(some 31), none, .mov (.t 1)⟩,
 ⟨(some 32), none, .iad 1 (.t 31) (.c (.i .i64 0))⟩,
 ⟨(some 33), none, .load none (.t 32)⟩,
 ⟨(some 34), none, .call 90 [(.t 30), (.t 33)]⟩,
 ⟨(some 29), none, .mov (.t 34)⟩,
 ⟨(some 35), none, .ext (.t 29) 0⟩,
 ⟨(some 36), none, .ext (.t 29) 1⟩,
 ⟨(some 37), none, .ext (.t 29) 2⟩,
 ⟨(some 7), none, .mov (.t 35)⟩,
 ⟨(some 8), none, .mov (.t 36)⟩,
 ⟨(some 9), none, .mov (.t 37)⟩])
 (.seq
 (.reg [⟨(some 38), none, .mov (.t 7)⟩,
 ⟨(some 39), none, .mov (.t 8)⟩,
 ⟨(some 40), none, .conv .u64 (.t 39)⟩,
 ⟨(some 41), none, .call 72 [(.t 40)]⟩,
 ⟨(some 4), none, .mov (.t 38)⟩,
 ⟨(some 5), none, .mov (.t 41)⟩,
 ⟨(some 6), none, .mov (.c (.b true))⟩])
 (.pre (.norm false [4, 5, 6]) .ret)))
 .skip)))))))
 (.seq
 (.reg [⟨(some 42), none, .mov (.t 1)⟩,
 ⟨(some 43), none, .mov (.t 1)⟩,
 ⟨(some 44), none, .len (.t 43)⟩,
 ⟨(some 45), none, .bin .sub (.t 44) (.c (.i .i64 1))⟩,
 ⟨(some 46), none, .iad 1 (.t 42) (.t 45)⟩,
 ⟨(some 47), none, .load none (.t 46)⟩,
 ⟨(some 48), none, .call 91 [(.t 47)]⟩,
 ⟨(some 49), none, .bin .sub (.c (.i .i64 32)) (.t 48)⟩,
 ⟨(some 10), none, .mov (.t 49)⟩])
 (.seq
 (.reg [⟨(some 50), none, .mov (.t 0)⟩,
 ⟨(some 51), none, .mov (.t 10)⟩,
 ⟨(some 52), none, .call 2092 [(.t 50), (.t 51)]⟩,
 ⟨(some 53), none, .bsl 1 [(u32 0)] 1 [(0, (.c (u32 0)))]⟩,
 ⟨(some 54), none, .app 1 (.t 52) (.t 53)⟩,
 ⟨(some 11), none, .mov (.t 54)⟩])
 (.seq
 (.reg [⟨(some 55), none, .mov (.t 11)⟩,
 ⟨(some 56), none, .mov (.t 1)⟩,
 ⟨(some 57), none, .mov (.t 10)⟩,
 ⟨(some 58), none, .call 2092 [(.t 56), (.t 57)]⟩,
 ⟨(some 59), none, .call 93 [(.t 55), (.t 58)]⟩,
 ⟨(some 4), none, .mov (.t 59)⟩])
 (.seq
 (.reg [⟨(some 60), none, .mov (.t 4)⟩,
 ⟨(some 61), none, .call 71 [(.t 60)]⟩,
 ⟨(some 62), none, .mov (.t 11)⟩,
 ⟨(some 63), none, .mov (.t 10)⟩,
 ⟨(some 64), none, .call 94 [(.t 62), (.t 63)]⟩,
 ⟨(some 4), none, .mov (.t 61)⟩,
 ⟨(some 5), none, .mov (.t 64)⟩,
 ⟨(some 6), none, .mov (.c (.b true))⟩])
 (.pre (.norm false [4, 5, 6]) .ret))))))))
class CQuotD (T : Tbl) : Prop where
 h2071 : T 2071 = some ⟨1, 6, [.t 2], b2071, (some [false]), false⟩
 h2092 : T 2092 = some ⟨2, 57, [.t 4], b2092, (some [false, false]), false⟩
 h62 : T 62 = some ⟨2, 65, [.t 4, .t 5, .t 6], b62, none, false⟩
section
variable {T : Tbl} [CQuotD T] {d : Option Nat} {st : St}
@[simp] theorem x2071 (xs : List AV) : callX (orc T) T 2071 xs d st = bL (frzM st.heap [false] xs) fun ys => lentX ys (shareIds (refsM [false] xs) st.heap) (reach (shareIds (refsM [false] xs) st.heap) 40 (rootsM [false] xs) []) T 2071 false d st := callX_lent CQuotD.h2071
theorem f2071 (xs : List AV) (hb : Heap) (hn : xs.length = 1) : callH T 2071 xs hb = retH [.t 2] false hb.length (evX (orc T) T hb.length b2071 ⟨argEnv xs, hb, hb.length + 1⟩) := callH_eq CQuotD.h2071 hn
@[simp] theorem x2092 (xs : List AV) : callX (orc T) T 2092 xs d st = bL (frzM st.heap [false, false] xs) fun ys => lentX ys (shareIds (refsM [false, false] xs) st.heap) (reach (shareIds (refsM [false, false] xs) st.heap) 40 (rootsM [false, false] xs) []) T 2092 false d st := callX_lent CQuotD.h2092
theorem f2092 (xs : List AV) (hb : Heap) (hn : xs.length = 2) : callH T 2092 xs hb = retH [.t 4] false hb.length (evX (orc T) T hb.length b2092 ⟨argEnv xs, hb, hb.length + 1⟩) := callH_eq CQuotD.h2092 hn
@[simp] theorem x62 (xs : List AV) : callX (orc T) T 62 xs d st = bL (frzL st.heap xs) fun ys => cR (callF T 62 (ys.map (wkIf false))) xs d st := callX_pure CQuotD.h62
theorem f62 (xs : List AV) (hn : xs.length = 2) : callF T 62 xs = retF [.t 4, .t 5, .t 6] false (evX (orc T) T 0 b62 ⟨argEnv xs, [], 1⟩) := callF_eq CQuotD.h62 hn
end
end Go.Ab
end

section
namespace Go.Ab
theorem lt_blen (x : Nat) : x < 2 ^ blen x := by
 unfold blen
 split
 ·subst x; decide
 ·exact Nat.lt_log2_self
theorem blen_le {x : Nat} (h : x < 4294967296) : blen x ≤ 32 := by
 unfold blen
 split
 ·omega
 ·rename_i h0
  have := (Nat.log2_lt h0 (k := 32)).2 (by simpa using h)
  omega
theorem ofN_ge {n k : Nat} (h : (ofN n).length = k + 1) : 4294967296 ^ k ≤ n := by
 rcases Nat.lt_or_ge n (4294967296 ^ k) with h1 | h1
 ·have := ofN_length_le' h1
  omega
 ·exact h1
theorem up_len {b : List UInt32} {nb : Nat} (h : b.length = nb + 2) (hb : b = ofN (val b)) :
  (ofN (val b * 2 ^ (32 - blen (b[nb + 1]'(by omega)).toNat))).length = nb + 2 := by
 have hl := blen_le (u32_lt (b[nb + 1]'(by omega)))
 have hs := lt_blen (b[nb + 1]'(by omega)).toNat
 have h1 : val b = val (b.take (nb + 1)) + 4294967296 ^ (nb + 1) * (b[nb + 1]'(by omega)).toNat := by
  have := val_take_succ (List.getElem?_eq_getElem (show nb + 1 < b.length by omega))
  rwa [val_take_all (by omega)] at this
 have h2 := val_lt (b.take (nb + 1))
 rw [show (b.take (nb + 1)).length = nb + 1 by simp; omega] at h2
 generalize (b[nb + 1]'(by omega)).toNat = t at *
 refine Nat.le_antisymm (ofN_length_le' ?_) ?_
 ·have h3 : val b < 4294967296 ^ (nb + 1) * 2 ^ blen t := by
   have : 4294967296 ^ (nb + 1) * (t + 1) ≤ 4294967296 ^ (nb + 1) * 2 ^ blen t := Nat.mul_le_mul_left _ hs
   rw [Nat.mul_add, Nat.mul_one] at this
   omega
  have h4 : 2 ^ blen t * 2 ^ (32 - blen t) = 4294967296 := by
   rw [← Nat.pow_add, show blen t + (32 - blen t) = 32 by omega]
  have h5 := Nat.mul_lt_mul_of_pos_right h3 (Nat.pow_pos (n := 32 - blen t) (show 0 < 2 by decide))
  rw [Nat.mul_assoc, h4, ← Nat.pow_succ] at h5
  exact h5
 ·have h3 : val b ≤ val b * 2 ^ (32 - blen t) := Nat.le_mul_of_pos_right _ (Nat.pow_pos (by decide))
  have := ofN_len_le h3
  rw [← hb] at this
  omega
theorem top_pos {b : List UInt32} {nb : Nat} (h : b.length = nb + 2) (hb : b = ofN (val b)) : 0 < (b[nb + 1]'(by omega)).toNat := by
 have h1 : val b = val (b.take (nb + 1)) + 4294967296 ^ (nb + 1) * (b[nb + 1]'(by omega)).toNat := by
  have := val_take_succ (List.getElem?_eq_getElem (show nb + 1 < b.length by omega))
  rwa [val_take_all (by omega)] at this
 have h2 := val_lt (b.take (nb + 1))
 rw [show (b.take (nb + 1)).length = nb + 1 by simp; omega] at h2
 have h3 : 4294967296 ^ (nb + 1) ≤ val b := ofN_ge (by rw [← hb]; omega)
 rcases Nat.eq_zero_or_pos (b[nb + 1]'(by omega)).toNat with h0 | h0
 ·rw [h0, Nat.mul_zero] at h1
  omega
 ·exact h0
theorem val_snoc0 (l : List UInt32) : val (l ++ [0]) = val l := by rw [val_append]; simp
theorem top_lt {A b : List UInt32} {nb L : Nat} (hA : (A ++ [0]).length = L + b.length) (hb : b.length = nb + 2) (hbo : b = ofN (val b)) : val ((A ++ [0]).drop L) < val b := by
 have hl : L ≤ A.length := by simp at hA; omega
 rw [List.drop_append_of_le_length hl, val_snoc0]
 have h1 := val_lt (A.drop L)
 have h2 : (A.drop L).length = nb + 1 := by simp at hA ⊢; omega
 rw [h2] at h1
 exact Nat.lt_of_lt_of_le h1 (ofN_ge (by rw [← hbo]; omega))
section
variable {T : Tbl} [CNat T] [CQuotD T]
theorem nat_norm_own (a : List UInt32) (hl : a.length ≤ 1000000) : callH T 2071 [.sl (u32s a) .an] [] =
  some (.bs (.fld (.loc 5) 10) 1 1 0 (ofN (val a)).length, [(.fld (.loc 5) 10, ⟨1, .own, 1, u32s (ofN (val a))⟩)]) := by
 have h1 := ofN_length_le a
 have h2 := nat_fresh_own (T := T) (ofN (val a)) 0 (by omega)
 simp only [Int.natCast_zero, Nat.add_zero, List.replicate_zero, List.append_nil] at h2
 rw [f2071 _ _ rfl, b2071]
 simp -implicitDefEqProofs [nat_trim a (by omega), h2]
end
section
variable {T : Tbl} [CNat T] [CQuotD T]
theorem twos_up_own (a : List UInt32) (n : Nat) (hn : n ≤ 4096) (hl : a.length ≤ 100000) : callH T 2092 [.sl (u32s a) .an, .i .i64 n] [] =
  some (.bs (.fld (.fld (.loc 56) 0) 6010) 1 1 0 (ofN (val a * 2 ^ n)).length, [(.fld (.fld (.loc 56) 0) 6010, ⟨1, .own, 1, u32s (ofN (val a * 2 ^ n))⟩)]) := by
 obtain ⟨_, ⟨c, m, rfl, hm, hc, hv⟩, hr⟩ := up_loop (T := T) (List.replicate (n / 32) 0) a (n % 32) (Nat.mod_lt _ (by decide)) (by simp; omega) (0, 0, []) ⟨Nat.zero_le _, Nat.pow_pos (by decide), rfl, by simp⟩
 have hc32 : c < 4294967296 := Nat.lt_of_lt_of_le hc (by
  have : 2 ^ (n % 32) ≤ 2 ^ 32 := Nat.pow_le_pow_right (by decide) (by omega)
  simpa using this)
 have hval : val (List.replicate (n / 32) 0 ++ (m ++ [w32 c])) = val a * 2 ^ n := by
  rw [val_append, val_replicate, List.length_replicate, val_append, hm]
  simp only [val_cons, val_nil, Nat.mul_zero, Nat.add_zero, w32_of_lt hc32, Nat.zero_add]
  rw [hv, pow32, ← Nat.mul_assoc, ← Nat.pow_add, show 32 * (n / 32) + n % 32 = n by omega, Nat.mul_comm]
 have hlen : (List.replicate (n / 32) 0 ++ (m ++ [w32 c])).length = n / 32 + a.length + 1 := by simp [hm]; omega
 have hnm := nat_norm_own (T := T) (List.replicate (n / 32) 0 ++ (m ++ [w32 c])) (by omega)
 rw [hval] at hnm
 rw [show l92_0 = l2092_0 from rfl] at hr
 unfold stUp at hr
 generalize List.replicate (n / 32) 0 ++ (m ++ [w32 c]) = Q at *
 simp at hr
 have hz : List.replicate (n / 32) (0 : UInt32) ++ w32 0 :: List.replicate a.length 0 = List.replicate (n / 32 + a.length + 1) 0 := by
  have : w32 0 = 0 := rfl
  rw [this, ← List.replicate_succ, List.replicate_append_replicate, Nat.add_assoc]
 rw [hz] at hr
 have hn2 : ¬ (4096 : Int) < (n : Int) := by omega
 have hq : (n : Int).tdiv 32 = (n : Int) / 32 := Int.tdiv_eq_ediv_of_nonneg (by omega)
 have hm2 : (n : Int).tmod 32 = (n : Int) % 32 := Int.tmod_eq_emod_of_nonneg (by omega)
 have w1 : IntKind.wrap .i64 ((n : Int) / 32) = (n : Int) / 32 := wrap_i64 (n / 32) (by omega)
 have w2 : IntKind.wrap .i64 ((n : Int) / 32 + a.length) = (n : Int) / 32 + a.length := wrap_i64 _ (by omega)
 have w3 : IntKind.wrap .i64 ((n : Int) / 32 + a.length + 1) = (n : Int) / 32 + a.length + 1 := wrap_i64 _ (by omega)
 have p1 : (0 : Int) ≤ (n : Int) / 32 + a.length + 1 := by omega
 have p2 : (n : Int) / 32 + a.length + 1 ≤ 4294967296 := by omega
 have p3 : ((n : Int) / 32 + a.length + 1).toNat = n / 32 + a.length + 1 := by omega
 have htk : List.take (n / 32 + a.length + 1) Q = Q := List.take_of_length_le (by omega)
 rw [f2092 _ _ rfl, b2092]
 simp -implicitDefEqProofs [hn2, hq, hm2, w1, w2, w3, p1, p2, p3, hr, hnm, htk, hlen]
end
section
variable {T : Tbl} [CNat T] [CTwos T] [CProd T] [CQuot T] [CQuotD T]
theorem quot_div (a b : List UInt32) (ha : a.length ≤ 10000) (hb : b.length ≤ 10000) : callF T 62 [.sl (u32s a) .an, .sl (u32s b) .an] =
  some (if val b = 0 then .tup [.sl [] .an, .sl [] .an, .b false] else .tup [.sl (u32s (ofN (val a / val b))) .an, .sl (u32s (ofN (val a % val b))) .an, .b true]) := by
 have hnb := nat_norm (T := T) b (by omega)
 have hna := nat_norm (T := T) a (by omega)
 have hlb := ofN_length_le b
 have hla := ofN_length_le a
 have hcmp := nat_cmp (T := T) a (ofN (val b)) (by omega) (by omega)
 rw [val_ofN] at hcmp
 rw [f62 _ rfl, b62]
 by_cases h0 : val b = 0
 ·rw [h0] at hnb
  simp -implicitDefEqProofs [hnb, h0]
 ·have h0' : ofN (val b) ≠ [] := fun h => h0 (ofN_eq_nil.1 h)
  have hl0 : (ofN (val b)).length ≠ 0 := fun h => h0' (List.eq_nil_of_length_eq_zero h)
  by_cases hlt : val a < val b
  ·have hd := Nat.div_eq_of_lt hlt
   have hm := Nat.mod_eq_of_lt hlt
   simp -implicitDefEqProofs [hnb, h0, hl0, hcmp, cmpN_lt, hlt, hna, hd, hm]
  ·rcases Nat.lt_or_ge 1 (ofN (val b)).length with h1 | h1
   ·obtain ⟨b', hb'⟩ : ∃ b', b' = ofN (val b) := ⟨_, rfl⟩
    have hvb : val b' = val b := by rw [hb', val_ofN]
    have hbo : b' = ofN (val b') := by rw [hvb, hb']
    rw [← hb'] at hnb hcmp hl0 h1 hlb
    obtain ⟨nb, hnbl⟩ : ∃ nb, b'.length = nb + 2 := ⟨b'.length - 2, by omega⟩
    have hll := limb_len (T := T) (b'[nb + 1]'(by omega))
    have hbl := blen_le (u32_lt (b'[nb + 1]'(by omega)))
    have hup := up_len hnbl hbo
    obtain ⟨s, hs⟩ : ∃ s, s = 32 - blen (b'[nb + 1]'(by omega)).toNat := ⟨_, rfl⟩
    obtain ⟨l, hll2⟩ : ∃ l, l = blen (b'[nb + 1]'(by omega)).toNat := ⟨_, rfl⟩
    rw [← hs] at hup
    rw [← hll2] at hll hs hbl
    obtain ⟨B, hB⟩ : ∃ B, B = ofN (val b' * 2 ^ s) := ⟨_, rfl⟩
    obtain ⟨A, hA⟩ : ∃ A, A = ofN (val a * 2 ^ s) := ⟨_, rfl⟩
    have hua := twos_up_own (T := T) a s (by omega) (by omega)
    have hub := twos_up_own (T := T) b' s (by omega) (by omega)
    rw [← hA] at hua
    rw [← hB] at hub hup
    have hBo : B = ofN (val B) := by rw [hB, val_ofN]
    have hvA : val A = val a * 2 ^ s := by rw [hA, val_ofN]
    have hvB : val B = val b' * 2 ^ s := by rw [hB, val_ofN]
    have hAB : B.length ≤ A.length := by
     rw [hA, hB]
     exact ofN_len_le (Nat.mul_le_mul_right _ (by omega))
    have hAl : A.length ≤ a.length + 1 := by
     rw [hA]
     refine ofN_length_le' ?_
     have h2 : 2 ^ s ≤ 2 ^ 32 := Nat.pow_le_pow_right (by decide) (by omega)
     rw [Nat.pow_succ]
     exact Nat.lt_of_le_of_lt (Nat.mul_le_mul_left _ h2) (Nat.mul_lt_mul_of_pos_right (val_lt a) (by decide))
    have hpos := top_pos (hup) hBo
    obtain ⟨Q, R, hQ, hR, hvQ, hvR, hlong⟩ := quot_long (T := T) (A ++ [0]) B (A.length + 1 - B.length) nb hup hpos (by simp; omega) (by simp; omega) (top_lt (by simp; omega) hup hBo)
    rw [val_snoc0, hvA, hvB, hvb, Nat.mul_div_mul_right _ _ (Nat.pow_pos (by decide))] at hvQ
    rw [val_snoc0, hvA, hvB, hvb, Nat.mul_mod_mul_right] at hvR
    have hnq := nat_norm (T := T) Q (by omega)
    have hAl1 : (A ++ [(0 : UInt32)]).length = A.length + 1 := by simp
    rw [hAl1] at hlong hR
    have hdn := twos_down (T := T) R s (by omega) (by omega)
    rw [hvR, Nat.mul_div_cancel _ (Nat.pow_pos (by decide))] at hdn
    rw [hvQ] at hnq
    obtain ⟨q1, hq1⟩ : ∃ p, p = nb + 1 := ⟨_, rfl⟩
    have c1 : q1 < b'.length := by omega
    have hwt : b'[nb + 1]'(by omega) = b'[q1]'c1 := get_eq (by omega) _ _
    rw [hwt] at hll
    have w1 : IntKind.wrap .i64 ((b'.length : Int) - 1) = (q1 : Int) := by rw [wrap_i64 _ (by omega)]; omega
    have w2 : IntKind.wrap .i64 (32 - (l : Int)) = (s : Int) := by rw [wrap_i64 _ (by omega)]; omega
    have c3 : A.length ≤ 4294967295 := by omega
    have c4 : w32 0 = 0 := rfl
    have c5 : A.length + 1 ≤ A.length + 1 - B.length + B.length := by omega
    have c2 : ¬ ((b'.length : Int) = 1) := by omega
    have t1 : List.take (A.length + 1) R = R := List.take_of_length_le (by omega)
    have t2 : List.take (A.length + 1 - B.length) Q = Q := List.take_of_length_le (by omega)
    simp -implicitDefEqProofs [hnb, h0, hl0, hcmp, cmpN_lt, hlt, w1, w2, c1, c2, c3, c4, c5, hll, hua, hub, hlong, hnq, hdn, t1, t2, hQ, hR]
   ·have hl1 : (ofN (val b)).length = 1 := by omega
    obtain ⟨w, hw⟩ := List.length_eq_one_iff.1 hl1
    have hvb : val b = w.toNat := by
     have := val_ofN (val b)
     rw [hw] at this
     simp at this
     omega
    have hwl := u32_lt w
    have hwd := quot_word (T := T) a (val b) (by omega) (by omega) (by omega)
    have hof := nat_of (T := T) (val a % val b) (by have := Nat.mod_lt (val a) (show 0 < val b by omega); omega)
    have m1 : val a % val b % 18446744073709551616 = val a % val b := Nat.mod_eq_of_lt (by have := Nat.mod_lt (val a) (show 0 < val b by omega); omega)
    rw [hw] at hnb hcmp
    rw [← hvb] at hwl
    simp -implicitDefEqProofs [hnb, h0, hcmp, cmpN_lt, hlt, hwd, ← hvb, hof, m1]
end
end Go.Ab
end

section
namespace Go.Ab
def digs (n : Nat) : List UInt8 := if h : n < 10 then [UInt8.ofNat (48 + n)] else UInt8.ofNat (48 + n % 10) :: digs (n / 10)
termination_by n
decreasing_by omega
def textN (n : Nat) : List UInt8 := (digs n).reverse
def wordOf : List AV → Option UInt32
 | [.i .u32 n] => if 0 ≤ n ∧ n < 4294967296 then some (w32 n.toNat) else none
 | _ => none
def prim68 : List AV → Option AV
 | [.sl els .an] => if els.length ≤ 1000 then (els.mapM wordOf).map fun l => .s (textN (val l)) else none
 | _ => none
theorem wordOf_u32 (l : List UInt32) : (u32s l).mapM wordOf = some l := by
 induction l with
 | nil => rfl
 | cons x l ih =>
  have hx := u32_lt x
  have h1 : wordOf [u32 x.toNat] = some x := by
   unfold wordOf u32
   simp only
   rw [if_pos ⟨by omega, by omega⟩]
   simp
  have e : u32s (x :: l) = [u32 x.toNat] :: u32s l := rfl
  rw [e, List.mapM_cons, h1, ih]
  rfl
theorem prim68_eq (a : List UInt32) (h : a.length ≤ 1000) : prim68 [.sl (u32s a) .an] = some (.s (textN (val a))) := by
 unfold prim68
 simp only [u32s_length, h, if_true, wordOf_u32, Option.map_some]
def wrAt : Nat → List UInt8 → Int
 | _, [] => -1
 | k, c :: r => if c.toNat < 48 ∨ 57 < c.toNat ∨ k = 60 then k else wrAt (k + 1) r
def wrongI (l : List UInt8) : Int := if l = [] then 0 else wrAt 0 l
theorem wrAt_ge : ∀ (k : Nat) (l : List UInt8), -1 ≤ wrAt k l
 | _, [] => by simp [wrAt]
 | k, c :: r => by
  simp only [wrAt]
  split
  ·omega
  ·exact wrAt_ge (k + 1) r
theorem wrAt_le : ∀ (k : Nat) (l : List UInt8), k ≤ 60 → wrAt k l ≤ 60
 | _, [], _ => by simp [wrAt]
 | k, c :: r, h => by
  simp only [wrAt]
  split
  ·omega
  ·exact wrAt_le (k + 1) r (by omega)
theorem wrAt_neg : ∀ (k : Nat) (l : List UInt8), k ≤ 60 → wrAt k l < 0 → k + l.length ≤ 60 ∧ ∀ c ∈ l, 48 ≤ c.toNat ∧ c.toNat ≤ 57
 | k, [], h, _ => ⟨by simpa using h, by simp⟩
 | k, c :: r, h, hw => by
  simp only [wrAt] at hw
  split at hw
  ·omega
  ·rename_i hc
   obtain ⟨h1, h2⟩ := wrAt_neg (k + 1) r (by omega) hw
   refine ⟨by simp; omega, fun d hd => ?_⟩
   rcases List.mem_cons.1 hd with rfl | hd
   ·omega
   ·exact h2 d hd
def rd (l : List UInt8) : Nat := l.foldl (fun n c => n * 10 + (c.toNat - 48)) 0
theorem rd_from (l : List UInt8) : ∀ n, l.foldl (fun n c => n * 10 + (c.toNat - 48)) n = n * 10 ^ l.length + rd l := by
 induction l with
 | nil => intro n; simp [rd]
 | cons c l ih =>
  intro n
  simp only [List.foldl_cons, List.length_cons, rd]
  rw [ih, ih (0 * 10 + (c.toNat - 48)), Nat.pow_succ]
  grind
theorem rd_append (a b : List UInt8) : rd (a ++ b) = rd a * 10 ^ b.length + rd b := by
 unfold rd
 rw [List.foldl_append, rd_from]
 rfl
theorem rd_snoc (a : List UInt8) (c : UInt8) : rd (a ++ [c]) = rd a * 10 + (c.toNat - 48) := by
 rw [rd_append]; simp [rd]
theorem rd_take_succ {l : List UInt8} {i : Nat} {c : UInt8} (h : l[i]? = some c) : rd (l.take (i + 1)) = rd (l.take i) * 10 + (c.toNat - 48) := by
 rw [List.take_add_one, h]
 exact rd_snoc _ _
theorem rd_lt {l : List UInt8} (h : ∀ c ∈ l, 48 ≤ c.toNat ∧ c.toNat ≤ 57) : rd l < 10 ^ l.length := by
 induction l with
 | nil => simp [rd]
 | cons c l ih =>
  have h1 := ih fun d hd => h d (List.mem_cons_of_mem _ hd)
  have h2 := h c List.mem_cons_self
  have : rd (c :: l) = (c.toNat - 48) * 10 ^ l.length + rd l := by
   have := rd_append [c] l
   simpa [rd] using this
  rw [this, List.length_cons, Nat.pow_succ]
  have h3 : (c.toNat - 48) * 10 ^ l.length ≤ 9 * 10 ^ l.length := Nat.mul_le_mul_right _ (by omega)
  omega
theorem digs_small {n : Nat} (h : n < 10) : digs n = [UInt8.ofNat (48 + n)] := by rw [digs, dif_pos h]
theorem digs_big {n : Nat} (h : ¬ n < 10) : digs n = UInt8.ofNat (48 + n % 10) :: digs (n / 10) := by rw [digs, dif_neg h]
theorem textN_small {n : Nat} (h : n < 10) : textN n = [UInt8.ofNat (48 + n)] := by rw [textN, digs_small h]; rfl
theorem textN_big {n : Nat} (h : ¬ n < 10) : textN n = textN (n / 10) ++ [UInt8.ofNat (48 + n % 10)] := by rw [textN, digs_big h]; simp [textN]
def txN (n : Nat) (s : List UInt8) : List UInt8 := if n = 0 ∧ s ≠ [] then s else textN n ++ s
def digK : Nat → Nat → List UInt8
 | 0, _ => []
 | k + 1, x => digK k (x / 10) ++ [UInt8.ofNat (48 + x % 10)]
def u8c (l : List UInt8) : List AV := l.map fun b => u8 b.toNat
@[simp] theorem u8c_length (l : List UInt8) : (u8c l).length = l.length := by simp [u8c]
@[simp] theorem u8c_rf (l : List UInt8) : (u8c l).flatMap rfC = [] := by induction l with | nil => rfl | cons x l ih => simp [u8c]
@[simp] theorem u8c_rl {σn : BId → BId} {σg : Nat → Nat} (l : List UInt8) : (u8c l).map (rlC σn σg) = u8c l := by induction l with | nil => rfl | cons x l ih => simp [u8c]
@[simp] theorem u8c_rl' {σn : BId → BId} {σg : Nat → Nat} (l : List UInt8) : (u8c l).map (fun c => rlC σn σg c) = u8c l := u8c_rl l
@[simp] theorem u8c_rlw {σn : BId → BId} {σg : Nat → Nat} (l : List UInt8) : (u8c l).map (fun c => rlC σn σg (wkA c)) = u8c l := by induction l with | nil => rfl | cons x l ih => simp [u8c]
@[simp] theorem u8c_pure (l : List UInt8) : (u8c l).all pureC = true := by induction l with | nil => rfl | cons x l ih => simp [u8c]
@[simp] theorem u8c_get (l : List UInt8) (i : Nat) : (u8c l)[i]? = (l[i]?).map fun b => u8 b.toNat := by simp [u8c]
@[simp] theorem u8c_pure' (l : List UInt8) : (∀ x, x ∈ u8c l → pureC x = true) = True := by
 have := u8c_pure l
 rw [List.all_eq_true] at this
 simpa using this
theorem u8c_put {l : List UInt8} {j d : Nat} (h : d < 256) (hj : j < l.length) : (u8c l).take j ++ u8 d :: (u8c l).drop (j + 1) = u8c (l.set j (UInt8.ofNat d)) := by
 rw [List.set_eq_take_append_cons_drop, if_pos hj]
 simp [u8c, List.map_take, List.map_drop, Nat.mod_eq_of_lt h]
theorem digK_length : ∀ k x, (digK k x).length = k
 | 0, _ => rfl
 | k + 1, x => by simp [digK, digK_length k]
theorem digK_zero (x : Nat) : digK 0 x = [] := rfl
theorem digK_succ (k x : Nat) : digK (k + 1) x = digK k (x / 10) ++ [UInt8.ofNat (48 + x % 10)] := rfl
theorem set_mid8 {m : List UInt8} {j : Nat} (w : UInt8) : (List.replicate (j + 1) 0 ++ m).set j w = List.replicate j 0 ++ w :: m := by
 rw [List.set_append_left j w (by simp), List.replicate_succ', List.set_append_right j w (by simp)]
 simp
theorem u8c_rows (m : List UInt8) : ((u8c m).map fun c => [c]).mapM byteOfRow = some m := by
 induction m with
 | nil => rfl
 | cons b m ih =>
  have e : ((u8c (b :: m)).map fun c => [c]) = [u8 b.toNat] :: ((u8c m).map fun c => [c]) := rfl
  rw [e, List.mapM_cons, ih]
  simp [byteOfRow, u8]
end Go.Ab
end

section
namespace Go.Ab
def b98 : AX :=
 (.seq
 (.reg [⟨(some 4), none, .mov (.c (.s []))⟩,
 ⟨(some 5), none, .mov (.c (.b false))⟩])
 (.seq
 (.seq
 (.reg [⟨(some 6), none, .mov (.t 0)⟩,
 ⟨(some 7), none, .mov (.t 1)⟩,
 ⟨(some 8), none, .call 123 [(.t 6), (.t 7)]⟩,
 ⟨(some 9), none, .un .not (.t 8)⟩])
 (.cond (.t 9)
 (.seq
 (.reg [⟨(some 10), none, .mov (.t 0)⟩,
 ⟨(some 4), none, .mov (.t 10)⟩,
 ⟨(some 5), none, .mov (.c (.b false))⟩])
 (.pre (.norm false [4, 5]) .ret))
 .skip))
 (.seq
 (.reg [⟨(some 11), none, .mov (.t 0)⟩,
 ⟨(some 12), none, .mov (.t 1)⟩,
 ⟨(some 13), none, .lens (.t 12)⟩,
 ⟨(some 14), none, .slstr (.t 11) (some (.t 13)) none⟩,
 ⟨(some 4), none, .mov (.t 14)⟩,
 ⟨(some 5), none, .mov (.c (.b true))⟩])
 (.pre (.norm false [4, 5]) .ret))))
def b123 : AX :=
 (.seq
 (.reg [⟨(some 4), none, .mov (.c (.b false))⟩])
 (.seq
 (.reg [⟨(some 5), none, .mov (.t 0)⟩,
 ⟨(some 6), none, .lens (.t 5)⟩,
 ⟨(some 7), none, .mov (.t 1)⟩,
 ⟨(some 8), none, .lens (.t 7)⟩,
 ⟨(some 9), none, .bin .geq (.t 6) (.t 8)⟩,
 ⟨(some 10), none, .mov (.t 9)⟩,
 ⟨(some 11), (some (10, true)), .mov (.t 0)⟩,
 ⟨(some 12), (some (10, true)), .mov (.t 1)⟩,
 ⟨(some 13), (some (10, true)), .lens (.t 12)⟩,
 ⟨(some 14), (some (10, true)), .slstr (.t 11) none (some (.t 13))⟩,
 ⟨(some 15), (some (10, true)), .mov (.t 1)⟩,
 ⟨(some 16), (some (10, true)), .bin .eql (.t 14) (.t 15)⟩,
 ⟨(some 17), none, .pick (.t 10) (.t 16) (.c (.b false))⟩,
 ⟨(some 4), none, .mov (.t 17)⟩])
 (.pre (.norm false [4]) .ret)))
def b64 : AX :=
 (.seq
 (.reg [⟨(some 4), none, .mov (.c (.s []))⟩,
 ⟨(some 5), none, .mov (.c (.b false))⟩])
 (.seq
 (.reg [⟨(some 6), none, .mov (.t 0)⟩,
 ⟨(some 7), none, .mov (.t 1)⟩,
 ⟨(some 8), none, .call 98 [(.t 6), (.t 7)]⟩,
 ⟨(some 9), none, .ext (.t 8) 0⟩,
 ⟨(some 10), none, .ext (.t 8) 1⟩,
 ⟨(some 4), none, .mov (.t 9)⟩,
 ⟨(some 5), none, .mov (.t 10)⟩])
 (.pre (.norm false [4, 5]) .ret)))
def l101_0 : AX :=
 (.note
 (.seq
 (.seq
 (.reg [⟨(some 5), none, .mov (.t 4)⟩,
 ⟨(some 6), none, .bin .geq (.t 5) (.c (.i .i64 0))⟩])
 (.cond (.t 6)
 .skip
 (.exit 0)))
 (.seq
 (.block 1
 (.seq
 (.reg [⟨(some 9), none, .mov (.t 4)⟩,
 ⟨(some 10), none, .mov (.t 0)⟩,
 ⟨(some 11), none, .bin .rem (.t 10) (.c (u32 10))⟩,
 ⟨(some 12), none, .bin .add (.c (u32 48)) (.t 11)⟩,
 ⟨(some 13), none, .conv .u8 (.t 12)⟩,
 ⟨(some 14), none, .iaa 1 9 (.t 3) (.t 9)⟩,
 ⟨none, none, .store 1 (.t 14) (.t 13)⟩])
 (.reg [⟨(some 15), none, .mov (.t 0)⟩,
 ⟨(some 16), none, .bin .quo (.t 15) (.c (u32 10))⟩,
 ⟨(some 0), none, .mov (.t 16)⟩])))
 (.reg [⟨(some 7), none, .mov (.t 4)⟩,
 ⟨(some 8), none, .bin .sub (.t 7) (.c (.i .i64 1))⟩,
 ⟨(some 4), none, .mov (.t 8)⟩])))
 (.norm false [0, 3, 4]))
def b101 : AX :=
 (.seq
 (.reg [⟨(some 2), none, .mov (.c (.s []))⟩])
 (.seq
 (.reg [⟨(some 3), none, .alloc [(u8 0), (u8 0), (u8 0), (u8 0), (u8 0), (u8 0), (u8 0), (u8 0), (u8 0)]⟩])
 (.seq
 (.seq
 (.reg [⟨(some 4), none, .mov (.c (.i .i64 8))⟩])
 (.lp 0 (.norm false [0, 3, 4]) l101_0 (.norm false [3])))
 (.seq
 (.reg [⟨(some 17), none, .xop (.arsl 9) [(.t 3)]⟩,
 ⟨(some 18), none, .xop .bstr [(.t 17)]⟩,
 ⟨(some 2), none, .mov (.t 18)⟩])
 (.pre (.norm false [2]) .ret)))))
def l99_0 : AX :=
 (.note
 (.seq
 (.reg [⟨(some 7), none, .bin .lss (.t 6) (.t 5)⟩])
 (.seq
 (.cond (.t 7)
 .skip
 (.exit 0))
 (.seq
 (.block 1
 (.seq
 (.reg [⟨(some 8), none, .mov (.t 6)⟩,
 ⟨(some 3), none, .mov (.t 8)⟩])
 (.seq
 (.reg [⟨(some 9), none, .mov (.t 0)⟩,
 ⟨(some 10), none, .mov (.t 3)⟩,
 ⟨(some 11), none, .ixs (.t 9) (.t 10)⟩,
 ⟨(some 12), none, .bin .lss (.t 11) (.c (u8 48))⟩,
 ⟨(some 13), none, .mov (.t 12)⟩,
 ⟨(some 14), (some (13, false)), .mov (.t 0)⟩,
 ⟨(some 15), (some (13, false)), .mov (.t 3)⟩,
 ⟨(some 16), (some (13, false)), .ixs (.t 14) (.t 15)⟩,
 ⟨(some 17), (some (13, false)), .bin .gtr (.t 16) (.c (u8 57))⟩,
 ⟨(some 18), none, .pick (.t 13) (.c (.b true)) (.t 17)⟩,
 ⟨(some 19), none, .mov (.t 18)⟩,
 ⟨(some 20), (some (19, false)), .mov (.t 3)⟩,
 ⟨(some 21), (some (19, false)), .bin .eql (.t 20) (.c (.i .i64 60))⟩,
 ⟨(some 22), none, .pick (.t 19) (.c (.b true)) (.t 21)⟩])
 (.cond (.t 22)
 (.seq
 (.reg [⟨(some 23), none, .mov (.t 3)⟩,
 ⟨(some 2), none, .mov (.t 23)⟩])
 (.pre (.norm false [2]) .ret))
 .skip))))
 (.reg [⟨(some 24), none, .bin .add (.t 6) (.c (.i .i64 1))⟩,
 ⟨(some 6), none, .mov (.t 24)⟩]))))
 (.norm false [0, 5, 6]))
def b99 : AX :=
 (.seq
 (.reg [⟨(some 2), none, .mov (.c (.i .i64 0))⟩])
 (.seq
 (.seq
 (.reg [⟨(some 4), none, .mov (.t 0)⟩,
 ⟨(some 5), none, .lens (.t 4)⟩,
 ⟨(some 6), none, .mov (.c (.i .i64 0))⟩])
 (.lp 0 (.norm false [0, 5, 6]) l99_0 (.norm false [0])))
 (.seq
 (.seq
 (.reg [⟨(some 25), none, .mov (.t 0)⟩,
 ⟨(some 26), none, .bin .eql (.t 25) (.c (.s []))⟩])
 (.cond (.t 26)
 (.seq
 (.reg [⟨(some 2), none, .mov (.c (.i .i64 0))⟩])
 (.pre (.norm false [2]) .ret))
 .skip))
 (.seq
 (.reg [⟨(some 2), none, .mov (.c (.i .i64 (-1)))⟩])
 (.pre (.norm false [2]) .ret)))))
def l65_0 : AX :=
 (.note
 (.seq
 (.seq
 (.reg [⟨(some 20), none, .mov (.t 9)⟩,
 ⟨(some 21), none, .bin .lss (.t 20) (.c (.i .i64 9))⟩,
 ⟨(some 22), none, .mov (.t 21)⟩,
 ⟨(some 23), (some (22, true)), .mov (.t 6)⟩,
 ⟨(some 24), (some (22, true)), .mov (.t 0)⟩,
 ⟨(some 25), (some (22, true)), .lens (.t 24)⟩,
 ⟨(some 26), (some (22, true)), .bin .lss (.t 23) (.t 25)⟩,
 ⟨(some 27), none, .pick (.t 22) (.t 26) (.c (.b false))⟩])
 (.cond (.t 27)
 .skip
 (.exit 2)))
 (.seq
 (.block 3
 (.seq
 (.reg [⟨(some 30), none, .mov (.t 7)⟩,
 ⟨(some 31), none, .bin .mul (.t 30) (.c (u32 10))⟩,
 ⟨(some 32), none, .mov (.t 0)⟩,
 ⟨(some 33), none, .mov (.t 6)⟩,
 ⟨(some 34), none, .ixs (.t 32) (.t 33)⟩,
 ⟨(some 35), none, .bin .sub (.t 34) (.c (u8 48))⟩,
 ⟨(some 36), none, .conv .u32 (.t 35)⟩,
 ⟨(some 37), none, .bin .add (.t 31) (.t 36)⟩,
 ⟨(some 7), none, .mov (.t 37)⟩])
 (.seq
 (.reg [⟨(some 38), none, .mov (.t 8)⟩,
 ⟨(some 39), none, .bin .mul (.t 38) (.c (u32 10))⟩,
 ⟨(some 8), none, .mov (.t 39)⟩])
 (.reg [⟨(some 40), none, .mov (.t 6)⟩,
 ⟨(some 41), none, .bin .add (.t 40) (.c (.i .i64 1))⟩,
 ⟨(some 6), none, .mov (.t 41)⟩]))))
 (.reg [⟨(some 28), none, .mov (.t 9)⟩,
 ⟨(some 29), none, .bin .add (.t 28) (.c (.i .i64 1))⟩,
 ⟨(some 9), none, .mov (.t 29)⟩])))
 (.norm false [0, 3, 5, 6, 7, 8, 9]))
def l65_1 : AX :=
 (.note
 (.seq
 (.seq
 (.reg [⟨(some 16), none, .mov (.t 6)⟩,
 ⟨(some 17), none, .mov (.t 0)⟩,
 ⟨(some 18), none, .lens (.t 17)⟩,
 ⟨(some 19), none, .bin .lss (.t 16) (.t 18)⟩])
 (.cond (.t 19)
 .skip
 (.exit 0)))
 (.block 1
 (.seq
 (.reg [⟨(some 7), none, .mov (.c (u32 0))⟩,
 ⟨(some 8), none, .mov (.c (u32 1))⟩])
 (.seq
 (.seq
 (.reg [⟨(some 9), none, .mov (.c (.i .i64 0))⟩])
 (.lp 2 (.norm false [0, 3, 5, 6, 7, 8, 9]) l65_0 (.norm false [0, 3, 5, 6, 7, 8])))
 (.reg [⟨(some 42), none, .mov (.t 5)⟩,
 ⟨(some 43), none, .mov (.t 8)⟩,
 ⟨(some 44), none, .mov (.t 7)⟩,
 ⟨(some 45), none, .call 100 [(.t 42), (.t 43), (.t 44)]⟩,
 ⟨(some 5), none, .mov (.t 45)⟩])))))
 (.norm false [0, 3, 5, 6]))
def b65 : AX :=
 (.seq
 (.reg [⟨(some 2), none, .mov (.c (.sl [] .nl))⟩,
 ⟨(some 3), none, .alloc [(.i .i64 0), (.i .i64 0), (.i .i64 0), (.i .i64 0)]⟩])
 (.seq
 (.seq
 (.reg [⟨(some 10), none, .mov (.t 0)⟩,
 ⟨(some 11), none, .call 99 [(.t 10)]⟩,
 ⟨(some 4), none, .mov (.t 11)⟩])
 (.seq
 (.reg [⟨(some 12), none, .mov (.t 4)⟩,
 ⟨(some 13), none, .bin .geq (.t 12) (.c (.i .i64 0))⟩])
 (.cond (.t 13)
 (.seq
 (.reg [⟨(some 14), none, .mov (.t 4)⟩,
 ⟨(some 15), none, .build [(.i .i64 0), (.i .i64 0), (.i .i64 0), (.i .i64 0)] [(0, 1, (.c (.i .i64 1))), (3, 1, (.t 14))]⟩,
 ⟨(some 2), none, .mov (.c (.sl [] .nl))⟩,
 ⟨none, none, .store 4 (.t 3) (.t 15)⟩])
 (.pre (.norm false [2, 3]) .ret))
 .skip)))
 (.seq
 (.reg [⟨(some 5), none, .mov (.c (.sl [] .nl))⟩])
 (.seq
 (.seq
 (.reg [⟨(some 6), none, .mov (.c (.i .i64 0))⟩])
 (.lp 0 (.norm false [0, 3, 5, 6]) l65_1 (.norm false [3, 5])))
 (.seq
 (.reg [⟨(some 46), none, .mov (.t 5)⟩,
 ⟨(some 47), none, .build [(.i .i64 0), (.i .i64 0), (.i .i64 0), (.i .i64 0)] []⟩,
 ⟨(some 2), none, .mov (.t 46)⟩,
 ⟨none, none, .store 4 (.t 3) (.t 47)⟩])
 (.pre (.norm false [2, 3]) .ret))))))
class CDigits (T : Tbl) : Prop where
 h98 : T 98 = some ⟨2, 15, [.t 4, .t 5], b98, none, false⟩
 h123 : T 123 = some ⟨2, 18, [.t 4], b123, none, false⟩
 h64 : T 64 = some ⟨2, 11, [.t 4, .t 5], b64, none, false⟩
 h101 : T 101 = some ⟨1, 19, [.t 2], b101, none, false⟩
 h99 : T 99 = some ⟨1, 27, [.t 2], b99, none, false⟩
 h65 : T 65 = some ⟨1, 48, [.t 2, .cell 3 (some 4)], b65, none, false⟩
section
variable {T : Tbl} [CDigits T] {d : Option Nat} {st : St}
@[simp] theorem x98 (xs : List AV) : callX (orc T) T 98 xs d st = bL (frzL st.heap xs) fun ys => cR (callF T 98 (ys.map (wkIf false))) xs d st := callX_pure CDigits.h98
theorem f98 (xs : List AV) (hn : xs.length = 2) : callF T 98 xs = retF [.t 4, .t 5] false (evX (orc T) T 0 b98 ⟨argEnv xs, [], 1⟩) := callF_eq CDigits.h98 hn
@[simp] theorem x123 (xs : List AV) : callX (orc T) T 123 xs d st = bL (frzL st.heap xs) fun ys => cR (callF T 123 (ys.map (wkIf false))) xs d st := callX_pure CDigits.h123
theorem f123 (xs : List AV) (hn : xs.length = 2) : callF T 123 xs = retF [.t 4] false (evX (orc T) T 0 b123 ⟨argEnv xs, [], 1⟩) := callF_eq CDigits.h123 hn
@[simp] theorem x64 (xs : List AV) : callX (orc T) T 64 xs d st = bL (frzL st.heap xs) fun ys => cR (callF T 64 (ys.map (wkIf false))) xs d st := callX_pure CDigits.h64
theorem f64 (xs : List AV) (hn : xs.length = 2) : callF T 64 xs = retF [.t 4, .t 5] false (evX (orc T) T 0 b64 ⟨argEnv xs, [], 1⟩) := callF_eq CDigits.h64 hn
@[simp] theorem x101 (xs : List AV) : callX (orc T) T 101 xs d st = bL (frzL st.heap xs) fun ys => cR (callF T 101 (ys.map (wkIf false))) xs d st := callX_pure CDigits.h101
theorem f101 (xs : List AV) (hn : xs.length = 1) : callF T 101 xs = retF [.t 2] false (evX (orc T) T 0 b101 ⟨argEnv xs, [], 1⟩) := callF_eq CDigits.h101 hn
@[simp] theorem x99 (xs : List AV) : callX (orc T) T 99 xs d st = bL (frzL st.heap xs) fun ys => cR (callF T 99 (ys.map (wkIf false))) xs d st := callX_pure CDigits.h99
theorem f99 (xs : List AV) (hn : xs.length = 1) : callF T 99 xs = retF [.t 2] false (evX (orc T) T 0 b99 ⟨argEnv xs, [], 1⟩) := callF_eq CDigits.h99 hn
@[simp] theorem x65 (xs : List AV) : callX (orc T) T 65 xs d st = bL (frzL st.heap xs) fun ys => cR (callF T 65 (ys.map (wkIf false))) xs d st := callX_pure CDigits.h65
theorem f65 (xs : List AV) (hn : xs.length = 1) : callF T 65 xs = retF [.t 2, .cell 3 (some 4)] false (evX (orc T) T 0 b65 ⟨argEnv xs, [], 1⟩) := callF_eq CDigits.h65 hn
end
end Go.Ab
end

section
namespace Go.Ab
class CText (T : Tbl) : Prop where
 h68 : T 68 = some ⟨0, 0, [], .prim prim68, none, false⟩
section
variable {T : Tbl} [CText T] {d : Option Nat} {st : St}
@[simp] theorem x68 (xs : List AV) : callX (orc T) T 68 xs d st = bL (frzL st.heap xs) fun ys => cR (callF T 68 (ys.map (wkIf false))) xs d st := callX_pure CText.h68
theorem p68 (xs : List AV) : callF T 68 xs = prim68 xs := callF_prim CText.h68
end
end Go.Ab
end

section
namespace Go.Ab
def b103 : AX :=
 (.seq
 (.reg [⟨(some 4), none, .mov (.c (.s []))⟩])
 (.seq
 (.seq
 (.reg [⟨(some 7), none, .mov (.t 0)⟩,
 ⟨(some 8), none, .bin .eql (.t 7) (.c (.s []))⟩,
 ⟨(some 9), none, .mov (.t 8)⟩,
 ⟨(some 10), (some (9, false)), .mov (.t 1)⟩,
 ⟨(some 11), (some (9, false)), .bin .eql (.t 10) (.c (.s []))⟩,
 ⟨(some 12), none, .pick (.t 9) (.c (.b true)) (.t 11)⟩])
 (.cond (.t 12)
 (.seq
 (.reg [⟨(some 13), none, .mov (.t 0)⟩,
 ⟨(some 4), none, .mov (.t 13)⟩])
 (.pre (.norm false [4]) .ret))
 .skip))
 (.seq
 (.seq
 (.reg [⟨(some 14), none, .mov (.t 1)⟩,
 ⟨(some 15), none, .lens (.t 14)⟩,
 ⟨(some 16), none, .bin .eql (.t 15) (.c (.i .i64 1))⟩,
 ⟨(some 17), none, .mov (.t 16)⟩,
 ⟨(some 18), (some (17, true)), .mov (.t 1)⟩,
 ⟨(some 19), (some (17, true)), .ixs (.t 18) (.c (.i .i64 0))⟩,
 ⟨(some 20), (some (17, true)), .bin .lss (.t 19) (.c (u8 128))⟩,
 ⟨(some 21), none, .pick (.t 17) (.t 20) (.c (.b false))⟩])
 (.cond (.t 21)
 (.seq
 (.reg [⟨(some 22), none, .mov (.t 0)⟩,
 ⟨(some 23), none, .mov (.t 1)⟩,
 ⟨(some 24), none, .ixs (.t 23) (.c (.i .i64 0))⟩,
 ⟨(some 25), none, .call 125 [(.t 22), (.t 24)]⟩,
 ⟨(some 4), none, .mov (.t 25)⟩])
 (.pre (.norm false [4]) .ret))
 .skip))
 (.seq
 (.seq
 (.reg [⟨(some 27), none, .mov (.t 1)⟩,
 ⟨(some 28), none, .call 126 [(.t 27)]⟩,
 ⟨(some 26), none, .mov (.t 28)⟩,
 ⟨(some 29), none, .ext (.t 26) 0⟩,
 ⟨(some 30), none, .ext (.t 26) 1⟩,
 ⟨(some 5), none, .alloc [(.b false), (.b false), (.b false), (.b false), (.b false), (.b false), (.b false), (.b false), (.b false), (.b false), (.b false), (.b false), (.b false), (.b false), (.b false), (.b false), (.b false), (.b false), (.b false), (.b false), (.b false), (.b false), (.b false), (.b false), (.b false), (.b false), (.b false), (.b false), (.b false), (.b false), (.b false), (.b false), (.b false), (.b false), (.b false), (.b false), (.b false), (.b false), (.b false), (.b false), (.b false), (.b false), (.b false), (.b false), (.b false), (.b false), (.b false), (.b false), (.b false), (.b false), (.b false), (.b false), (.b false), (.b false), (.b false), (.b false), (.b false), (.b false), (.b false), (.b false), (.b false), (.b false), (.b false), (.b false), (.b false), (.b false), (.b false), (.b false), (.b false), (.b false), (.b false), (.b false), (.b false), (.b false), (.b false), (.b false), (.b false), (.b false), (.b false), (.b false), (.b false), (.b false), (.b false), (.b false), (.b false), (.b false), (.b false), (.b false), (.b false), (.b false), (.b false), (.b false), (.b false), (.b false), (.b false), (.b false), (.b false), (.b false), (.b false), (.b false), (.b false), (.b false), (.b false), (.b false), (.b false), (.b false), (.b false), (.b false), (.b false), (.b false), (.b false), (.b false), (.b false), (.b false), (.b false), (.b false), (.b false), (.b false), (.b false), (.b false), (.b false), (.b false), (.b false), (.b false), (.b false), (.b false), (.b false), (.b false), (.b false), (.b false), (.b false), (.b false), (.b false), (.b false), (.b false), (.b false), (.b false), (.b false), (.b false), (.b false), (.b false), (.b false), (.b false), (.b false), (.b false), (.b false), (.b false), (.b false), (.b false), (.b false), (.b false), (.b false), (.b false), (.b false), (.b false), (.b false), (.b false), (.b false), (.b false), (.b false), (.b false), (.b false), (.b false), (.b false), (.b false), (.b false), (.b false), (.b false), (.b false), (.b false), (.b false), (.b false), (.b false), (.b false), (.b false), (.b false), (.b false), (.b false), (.b false), (.b false), (.b false), (.b false), (.b false), (.b false), (.b false), (.b false), (.b false), (.b false), (.b false), (.b false), (.b false), (.b false), (.b false), (.b false), (.b false), (.b false), (.b false), (.b false), (.b false), (.b false), (.b false), (.b false), (.b false), (.b false), (.b false), (.b false), (.b false), (.b false), (.b false), (.b false), (.b false), (.b false), (.b false), (.b false), (.b false), (.b false), (.b false), (.b false), (.b false), (.b false), (.b false), (.b false), (.b false), (.b false), (.b false), (.b false), (.b false), (.b false), (.b false), (.b false), (.b false), (.b false), (.b false), (.b false), (.b false), (.b false), (.b false), (.b false), (.b false), (.b false), (.b false), (.b false), (.b false), (.b false), (.b false), (.b false), (.b false), (.b false), (.b false), (.b false), (.b false), (.b false), (.b false), (.b false), (.b false), (.b false)]⟩,
 ⟨none, none, .store 256 (.t 5) (.t 29)⟩,
 ⟨(some 6), none, .mov (.t 30)⟩])
 (.seq
 (.reg [⟨(some 31), none, .mov (.t 6)⟩])
 (.cond (.t 31)
 (.seq
 (.reg [⟨(some 32), none, .mov (.t 0)⟩,
 ⟨(some 33), none, .call 127 [(.t 32), (.t 5)]⟩,
 ⟨(some 4), none, .mov (.t 33)⟩])
 (.pre (.norm false [4]) .ret))
 .skip)))
 (.seq
 (.reg [⟨(some 34), none, .mov (.t 0)⟩,
 ⟨(some 35), none, .mov (.t 1)⟩,
 ⟨(some 36), none, .call 128 [(.t 34), (.t 35)]⟩,
 ⟨(some 4), none, .mov (.t 36)⟩])
 (.pre (.norm false [4]) .ret))))))
def l125_0 : AX :=
 (.note
 (.seq
 (.seq
 (.reg [⟨(some 5), none, .mov (.t 0)⟩,
 ⟨(some 6), none, .lens (.t 5)⟩,
 ⟨(some 7), none, .bin .gtr (.t 6) (.c (.i .i64 0))⟩,
 ⟨(some 8), none, .mov (.t 7)⟩,
 ⟨(some 9), (some (8, true)), .mov (.t 0)⟩,
 ⟨(some 10), (some (8, true)), .ixs (.t 9) (.c (.i .i64 0))⟩,
 ⟨(some 11), (some (8, true)), .mov (.t 1)⟩,
 ⟨(some 12), (some (8, true)), .bin .eql (.t 10) (.t 11)⟩,
 ⟨(some 13), none, .pick (.t 8) (.t 12) (.c (.b false))⟩])
 (.cond (.t 13)
 .skip
 (.exit 0)))
 (.block 1
 (.reg [⟨(some 14), none, .mov (.t 0)⟩,
 ⟨(some 15), none, .slstr (.t 14) (some (.c (.i .i64 1))) none⟩,
 ⟨(some 0), none, .mov (.t 15)⟩])))
 (.norm false [0, 1]))
def b125 : AX :=
 (.seq
 (.reg [⟨(some 4), none, .mov (.c (.s []))⟩])
 (.seq
 (.lp 0 (.norm false [0, 1]) l125_0 (.norm false [0]))
 (.seq
 (.reg [⟨(some 16), none, .mov (.t 0)⟩,
 ⟨(some 4), none, .mov (.t 16)⟩])
 (.pre (.norm false [4]) .ret))))
class CTrim (T : Tbl) : Prop where
 h103 : T 103 = some ⟨2, 37, [.t 4], b103, none, false⟩
 h125 : T 125 = some ⟨2, 17, [.t 4], b125, none, false⟩
section
variable {T : Tbl} [CTrim T] {d : Option Nat} {st : St}
theorem f103 (xs : List AV) (hn : xs.length = 2) : callF T 103 xs = retF [.t 4] false (evX (orc T) T 0 b103 ⟨argEnv xs, [], 1⟩) := callF_eq CTrim.h103 hn
@[simp] theorem x125 (xs : List AV) : callX (orc T) T 125 xs d st = bL (frzL st.heap xs) fun ys => cR (callF T 125 (ys.map (wkIf false))) xs d st := callX_pure CTrim.h125
theorem f125 (xs : List AV) (hn : xs.length = 2) : callF T 125 xs = retF [.t 4] false (evX (orc T) T 0 b125 ⟨argEnv xs, [], 1⟩) := callF_eq CTrim.h125 hn
end
end Go.Ab
end

section
namespace Go.Ab
section
variable {T : Tbl} [CDigits T]
theorem cut_minus (l : List UInt8) (hl : l.length ≤ 1000000) : callF T 64 [.s l, .s [45]] = some (.tup [.s (if l.head? = some 45 then l.tail else l), .b (l.head? = some 45)]) := by
 have h1 : callF T 123 [.s l, .s [45]] = some (.b (l.head? = some 45)) := by
  rw [f123 _ rfl, b123]
  cases l with
  | nil => simp -implicitDefEqProofs
  | cons c r =>
   have h2 : (1 : Int) ≤ (r.length : Int) + 1 := by omega
   by_cases hc : c = 45 <;> simp -implicitDefEqProofs [h2, hc]
 have h3 : callF T 98 [.s l, .s [45]] = some (.tup [.s (if l.head? = some 45 then l.tail else l), .b (l.head? = some 45)]) := by
  rw [f98 _ rfl, b98]
  cases l with
  | nil => simp -implicitDefEqProofs [h1]
  | cons c r =>
   have h2 : (1 : Int) ≤ (r.length : Int) + 1 := by omega
   by_cases hc : c = 45
   ·subst hc
    simp -implicitDefEqProofs [h1, h2]
   ·simp -implicitDefEqProofs [h1, hc]
 rw [f64 _ rfl, b64]
 simp -implicitDefEqProofs [h3]
end
section
variable {T : Tbl}
theorem wr_loop (l : List UInt8) (hl : l.length ≤ 1000000) : ∀ i : Nat, i ≤ l.length →
  loopN T 0 0 (.norm false [0]) l99_0 ⟨[(0, .s l), (5, .i .i64 l.length), (6, .i .i64 i)], [], 2⟩ =
   if 0 ≤ wrAt i (l.drop i) then some (.r, ⟨[(2, .i .i64 (wrAt i (l.drop i)))], [], 2⟩) else some (.n, ⟨[(0, .s l)], [], 2⟩) := by
 refine loopN_eq (fun i : Nat => ⟨[(0, .s l), (5, .i .i64 l.length), (6, .i .i64 i)], [], 2⟩) _ (fun i => l.length - i) _ ?_
 intro i hi
 by_cases h0 : i < l.length
 ·have hg : l[i]? = some (l[i]'h0) := List.getElem?_eq_getElem h0
  have hd := List.drop_eq_getElem_cons h0
  have hw : IntKind.wrap .i64 ((i : Int) + 1) = ((i + 1 : Nat) : Int) := wrap_i64 _ (by omega)
  by_cases hc : (l[i]'h0).toNat < 48 ∨ 57 < (l[i]'h0).toNat ∨ i = 60
  ·right
   rw [hd]
   have e : wrAt i (l[i]'h0 :: List.drop (i + 1) l) = i := by simp only [wrAt]; rw [if_pos hc]
   rw [e]
   by_cases c1 : (l[i]'h0).toNat < 48
   ·constructor <;> simp -implicitDefEqProofs [l99_0, h0, c1]
   ·by_cases c2 : 57 < (l[i]'h0).toNat
    ·constructor <;> simp -implicitDefEqProofs [l99_0, h0, c1, c2]
    ·have c3 : i = 60 := by omega
     subst c3
     have h0' : (60 : Int) < (l.length : Int) := by omega
     constructor <;> simp -implicitDefEqProofs [l99_0, h0, h0', c1, c2]
  ·left
   have e : wrAt i (l.drop i) = wrAt (i + 1) (l.drop (i + 1)) := by rw [hd]; simp only [wrAt]; rw [if_neg hc]
   have c1 : ¬ (l[i]'h0).toNat < 48 := fun h => hc (.inl h)
   have c2 : ¬ 57 < (l[i]'h0).toNat := fun h => hc (.inr (.inl h))
   have c3 : ¬ ((i : Int) = 60) := fun h => hc (.inr (.inr (by omega)))
   refine ⟨i + 1, h0, by show l.length - (i + 1) < l.length - i; omega, ?_, ?_⟩
   ·simp -implicitDefEqProofs [l99_0, h0, c1, c2, c3, hw]
   ·simp only [e]
 ·right
  have : i = l.length := by omega
  subst this
  rw [List.drop_length]
  constructor <;> simp -implicitDefEqProofs [l99_0, wrAt]
end
section
variable {T : Tbl} [CDigits T]
theorem digits_wrong (l : List UInt8) (hl : l.length ≤ 1000000) : callF T 99 [.s l] = some (.i .i64 (wrongI l)) := by
 have h := wr_loop (T := T) l hl 0 (Nat.zero_le _)
 have hg := wrAt_ge 0 l
 rw [List.drop_zero] at h
 simp at h
 rw [f99 _ rfl, b99]
 unfold wrongI
 by_cases h0 : l = []
 ·subst h0
  simp [wrAt] at h
  simp -implicitDefEqProofs [h]
 ·by_cases h1 : 0 ≤ wrAt 0 l
  ·rw [if_pos h1] at h
   simp -implicitDefEqProofs [h, h0]
  ·rw [if_neg h1] at h
   have h2 : wrAt 0 l = -1 := by omega
   simp -implicitDefEqProofs [h, h0, h2]
end
section
variable {T : Tbl}
theorem nine_loop (x0 : Nat) (_hx0 : x0 < 4294967296) : ∀ y : Nat × Nat × List UInt8, (y.1 ≤ 9 ∧ y.2.1 < 4294967296 ∧ y.2.2.length = 9 - y.1 ∧ digK y.1 y.2.1 ++ y.2.2 = digK 9 x0) →
  loopN T 0 0 (.norm false [3]) l101_0 ⟨[(0, u32 y.2.1), (3, .ptr (.loc 3) 1 9 0 0), (4, .i .i64 ((y.1 : Int) - 1))], [(.loc 3, ⟨1, .str, 9, [u8c (List.replicate y.1 0 ++ y.2.2)]⟩)], 3⟩ =
   some (.n, ⟨[(3, .ptr (.loc 3) 1 9 0 0)], [(.loc 3, ⟨1, .str, 9, [u8c (digK 9 x0)]⟩)], 3⟩) := by
 refine loopN_eq (fun y : Nat × Nat × List UInt8 => ⟨[(0, u32 y.2.1), (3, .ptr (.loc 3) 1 9 0 0), (4, .i .i64 ((y.1 : Int) - 1))], [(.loc 3, ⟨1, .str, 9, [u8c (List.replicate y.1 0 ++ y.2.2)]⟩)], 3⟩) _ (fun y => y.1) _ ?_
 rintro ⟨k, x, m⟩ ⟨hk, hx, hm, hd⟩
 simp only at hk hx hm hd
 cases k with
 | zero =>
  right
  have hd : m = digK 9 x0 := by simpa only [digK_zero, List.nil_append] using hd
  subst hd
  generalize digK 9 x0 = m
  constructor <;> simp -implicitDefEqProofs [l101_0]
 | succ j =>
  left
  have hw : IntKind.wrap .i64 ((j : Int) - 1) = (j : Int) - 1 := wrap_i64 _ (by omega)
  have h1 : (j : Int) < 9 := by omega
  have h2 : j ≤ 8 := by omega
  have hd1 : 48 + x % 10 < 256 := by omega
  have hs := (u8c_put (l := List.replicate (j + 1) 0 ++ m) (j := j) hd1 (by simp; omega)).trans (congrArg u8c (set_mid8 (j := j) (m := m) (UInt8.ofNat (48 + x % 10))))
  have m1 : (48 + x % 10) % 4294967296 = 48 + x % 10 := Nat.mod_eq_of_lt (by omega)
  have m2 : (48 + x % 10) % 256 = 48 + x % 10 := Nat.mod_eq_of_lt (by omega)
  have m3 : x / 10 % 4294967296 = x / 10 := Nat.mod_eq_of_lt (by omega)
  have hlen : j + 1 + m.length = 9 := by omega
  refine ⟨(j, x / 10, UInt8.ofNat (48 + x % 10) :: m), ⟨by simp only; omega, by simp only; omega, by simp; omega, ?_⟩, Nat.lt_succ_self j, ?_, rfl⟩
  ·simp only
   rw [← hd, digK_succ, List.append_assoc]
   rfl
  ·simp -implicitDefEqProofs [l101_0, hw, h1, h2, hs, m1, m2, m3, hlen]
end
section
variable {T : Tbl} [CDigits T]
theorem digits_nine (x : Nat) (hx : x < 4294967296) : callF T 101 [u32 x] = some (.s (digK 9 x)) := by
 have h := nine_loop (T := T) x hx (9, x, []) ⟨Nat.le_refl _, hx, rfl, by simp⟩
 have e : u8c (List.replicate 9 0 ++ []) = [u8 0, u8 0, u8 0, u8 0, u8 0, u8 0, u8 0, u8 0, u8 0] := rfl
 simp only [e] at h
 rw [f101 _ rfl, b101]
 have h8 : IntKind.wrap .i64 8 = 8 := by decide
 have hl9 := digK_length 9 x
 generalize hm : digK 9 x = m at *
 have t9 : List.take 9 ((u8c m).map fun c => [c]) = (u8c m).map fun c => [c] := List.take_of_length_le (by simp [hl9])
 have hr := u8c_rows m
 simp at h
 simp -implicitDefEqProofs [h, hr, hl9, t9]
end
section
variable {T : Tbl} [CNat T] [CProd T] [CDigits T]
def stRi (l : List UInt8) (o : List UInt32) (i0 k : Nat) : St :=
 ⟨[(0, .s l), (3, .ptr (.loc 3) 1 4 0 0), (5, .sl (u32s o) .an), (6, .i .i64 (i0 + k : Nat)), (7, u32 (rd ((l.drop i0).take k))), (8, u32 (10 ^ k)), (9, .i .i64 k)], [(.loc 3, ⟨1, .str, 4, [[.i .i64 0, .i .i64 0, .i .i64 0, .i .i64 0]]⟩)], 3⟩
end
section
variable {T : Tbl}
theorem ri_loop (l : List UInt8) (o : List UInt32) (i0 kf : Nat) (hl : l.length ≤ 60) (hd : ∀ c ∈ l, 48 ≤ c.toNat ∧ c.toNat ≤ 57) (hkf : kf = min 9 (l.length - i0)) (hi0 : i0 ≤ l.length) : ∀ k, k ≤ kf →
  loopN T 0 2 (.norm false [0, 3, 5, 6, 7, 8]) l65_0 (stRi l o i0 k) =
   some (.n, ⟨[(0, .s l), (3, .ptr (.loc 3) 1 4 0 0), (5, .sl (u32s o) .an), (6, .i .i64 (i0 + kf : Nat)), (7, u32 (rd ((l.drop i0).take kf))), (8, u32 (10 ^ kf))], [(.loc 3, ⟨1, .str, 4, [[.i .i64 0, .i .i64 0, .i .i64 0, .i .i64 0]]⟩)], 3⟩) := by
 refine loopN_eq (fun k => stRi l o i0 k) _ (fun k => kf - k) _ ?_
 intro k hk
 by_cases h0 : k < kf
 ·left
  have hi : i0 + k < l.length := by omega
  have hg : l[i0 + k]? = some (l[i0 + k]'hi) := List.getElem?_eq_getElem hi
  have hgd : (l.drop i0)[k]? = some (l[i0 + k]'hi) := by rw [List.getElem?_drop]; exact hg
  have hc := hd _ (List.getElem_mem hi)
  obtain ⟨p, hp⟩ : ∃ p, p = i0 + k := ⟨_, rfl⟩
  have hx := rd_lt (l := (l.drop i0).take k) fun c hc => hd c (List.mem_of_mem_drop (List.mem_of_mem_take hc))
  have hlen : ((l.drop i0).take k).length = k := by simp; omega
  rw [hlen] at hx
  have hp8 : 10 ^ k ≤ 10 ^ 8 := Nat.pow_le_pow_right (by decide) (by omega)
  have hr := rd_take_succ hgd
  have hw : IntKind.wrap .i64 ((k : Int) + 1) = ((k + 1 : Nat) : Int) := wrap_i64 _ (by omega)
  have hw2 : IntKind.wrap .i64 ((p : Int) + 1) = ((i0 + (k + 1) : Nat) : Int) := by rw [wrap_i64 _ (by omega)]; omega
  have hk9 : (k : Int) < 9 := by omega
  have hpl : (p : Int) < l.length := by omega
  refine ⟨k + 1, h0, by show kf - (k + 1) < kf - k; omega, ?_, rfl⟩
  unfold stRi
  rw [hr, Nat.pow_succ]
  subst hp
  generalize hcd : (l[i0 + k]'hi).toNat = c at *
  generalize rd ((l.drop i0).take k) = x at *
  generalize 10 ^ k = t at *
  have m1 : x * 10 % 4294967296 = x * 10 := Nat.mod_eq_of_lt (by omega)
  have m2 : sub8 c 48 = c - 48 := sub8_le (by omega) (by omega)
  have m3 : (c - 48) % 4294967296 = c - 48 := Nat.mod_eq_of_lt (by omega)
  have m4 : (x * 10 + (c - 48)) % 4294967296 = x * 10 + (c - 48) := Nat.mod_eq_of_lt (by omega)
  have m5 : t * 10 % 4294967296 = t * 10 := Nat.mod_eq_of_lt (by omega)
  have hpl' : (i0 : Int) + k < l.length := by omega
  have hw2' : IntKind.wrap .i64 ((i0 : Int) + k + 1) = (i0 : Int) + (k + 1) := by rw [wrap_i64 _ (by omega)]; omega
  simp -implicitDefEqProofs [l65_0, hk9, hpl', hi, hcd, m1, m2, m3, m4, m5, hw, hw2']
 ·right
  have : k = kf := by omega
  subst this
  unfold stRi
  generalize rd ((l.drop i0).take k) = x
  generalize 10 ^ k = t
  by_cases h9 : k = 9
  ·subst h9
   constructor <;> simp -implicitDefEqProofs [l65_0]
  ·have hk9 : (k : Int) < 9 := by omega
   have hpl' : ¬ ((i0 : Int) + k < l.length) := by omega
   constructor <;> simp -implicitDefEqProofs [l65_0, hk9, hpl']
end
section
variable {T : Tbl} [CProd T]
theorem ro_loop (l : List UInt8) (hl : l.length ≤ 60) (hd : ∀ c ∈ l, 48 ≤ c.toNat ∧ c.toNat ≤ 57) : ∀ i : Nat, i ≤ l.length →
  loopN T 0 0 (.norm false [3, 5]) l65_1 ⟨[(0, .s l), (3, .ptr (.loc 3) 1 4 0 0), (5, .sl (u32s (ofN (rd (l.take i)))) .an), (6, .i .i64 i)], [(.loc 3, ⟨1, .str, 4, [[.i .i64 0, .i .i64 0, .i .i64 0, .i .i64 0]]⟩)], 3⟩ =
   some (.n, ⟨[(3, .ptr (.loc 3) 1 4 0 0), (5, .sl (u32s (ofN (rd l))) .an)], [(.loc 3, ⟨1, .str, 4, [[.i .i64 0, .i .i64 0, .i .i64 0, .i .i64 0]]⟩)], 3⟩) := by
 refine loopN_eq (fun i : Nat => ⟨[(0, .s l), (3, .ptr (.loc 3) 1 4 0 0), (5, .sl (u32s (ofN (rd (l.take i)))) .an), (6, .i .i64 i)], [(.loc 3, ⟨1, .str, 4, [[.i .i64 0, .i .i64 0, .i .i64 0, .i .i64 0]]⟩)], 3⟩) _ (fun i => l.length - i) _ ?_
 intro i hi
 by_cases h0 : i < l.length
 ·left
  obtain ⟨kf, hkf⟩ : ∃ kf, kf = min 9 (l.length - i) := ⟨_, rfl⟩
  have h := ri_loop (T := T) l (ofN (rd (l.take i))) i kf hl hd hkf hi 0 (Nat.zero_le _)
  unfold stRi at h
  simp [show rd [] = 0 from rfl] at h
  have hx := rd_lt (l := (l.drop i).take kf) fun c hc => hd c (List.mem_of_mem_drop (List.mem_of_mem_take hc))
  have hlen : ((l.drop i).take kf).length = kf := by simp; omega
  rw [hlen] at hx
  have hp8 : 10 ^ kf ≤ 10 ^ 9 := Nat.pow_le_pow_right (by decide) (by omega)
  have hol : (ofN (rd (l.take i))).length ≤ 60 := by
   refine ofN_length_le' ?_
   have h1 := rd_lt (l := l.take i) fun c hc => hd c (List.mem_of_mem_take hc)
   have h2 : 10 ^ (l.take i).length ≤ 10 ^ 60 := Nat.pow_le_pow_right (by decide) (by simp; omega)
   exact Nat.lt_of_lt_of_le h1 (Nat.le_trans h2 (by decide))
  have hpw := prod_word (T := T) (ofN (rd (l.take i))) (10 ^ kf) (rd ((l.drop i).take kf)) (by omega) (by omega) (by omega)
  have hr : rd (l.take (i + kf)) = rd (l.take i) * 10 ^ kf + rd ((l.drop i).take kf) := by
   rw [List.take_add, rd_append, hlen]
  rw [val_ofN, ← hr] at hpw
  refine ⟨i + kf, by omega, by show l.length - (i + kf) < l.length - i; omega, ?_, rfl⟩
  simp -implicitDefEqProofs [l65_1, h0, h, hpw]
 ·right
  have : i = l.length := by omega
  subst this
  rw [List.take_length]
  constructor <;> simp -implicitDefEqProofs [l65_1]
end
section
variable {T : Tbl} [CProd T] [CDigits T]
theorem digits_read (l : List UInt8) (hl : l.length ≤ 1000000) : callF T 65 [.s l] = some (.tup (if 0 ≤ wrongI l then [.sl [] .an, .agg [.i .i64 1, .i .i64 0, .i .i64 0, .i .i64 (wrongI l)]]
  else [.sl (u32s (ofN (rd l))) .an, .agg [.i .i64 0, .i .i64 0, .i .i64 0, .i .i64 0]])) := by
 have hw := digits_wrong (T := T) l hl
 rw [f65 _ rfl, b65]
 by_cases h0 : 0 ≤ wrongI l
 ·simp -implicitDefEqProofs [hw, h0]
 ·have h1 : wrAt 0 l < 0 := by
   unfold wrongI at h0
   split at h0
   ·omega
   ·omega
  obtain ⟨h2, h3⟩ := wrAt_neg 0 l (Nat.zero_le _) h1
  have h := ro_loop (T := T) l (by omega) h3 0 (Nat.zero_le _)
  simp [show rd [] = 0 from rfl] at h
  simp -implicitDefEqProofs [hw, h0, h]
end
end Go.Ab
end

section
namespace Go.Ab
def sg (n : Bool) (k : Nat) : Int := if n then -(k : Int) else k
def wv (n : Bool) (a : List UInt32) : Int := sg n (val a)
abbrev wh (n : Bool) (a : List UInt32) : AV := .agg [.b n, .sl (u32s a) .an]
abbrev ez (z : Int) : AV := wh (decide (z < 0)) (ofN z.natAbs)
def sgI (z : Int) : Int := if z < 0 then -1 else if z = 0 then 0 else 1
theorem sg_neg (n : Bool) (k : Nat) : decide (sg n k < 0) = (n && decide (k ≠ 0)) := by
 cases n
 ·simp [sg]
 ·by_cases h : k = 0 <;> simp [sg, h]
  omega
theorem sg_abs (n : Bool) (k : Nat) : (sg n k).natAbs = k := by cases n <;> simp [sg]
@[simp] theorem wv_ez (z : Int) : wv (decide (z < 0)) (ofN z.natAbs) = z := by
 unfold wv
 rw [val_ofN]
 by_cases h : z < 0
 ·simp [sg, h]; omega
 ·simp [sg, h]; omega
theorem wv_val (n : Bool) (a : List UInt32) : (wv n a).natAbs = val a := sg_abs n _
theorem ez_sg (n : Bool) (k : Nat) : ez (sg n k) = wh (n && decide (k ≠ 0)) (ofN k) := by
 unfold ez
 rw [sg_neg, sg_abs]
theorem sg_add_same (n : Bool) (x y : Nat) : sg n (x + y) = sg n x + sg n y := by cases n <;> simp [sg] <;> omega
theorem sg_add_lt {n m : Bool} (h : n ≠ m) {x y : Nat} (hxy : x < y) : sg m (y - x) = sg n x + sg m y := by
 cases n <;> cases m <;> simp [sg] at h ⊢ <;> omega
theorem sg_add_ge {n m : Bool} (h : n ≠ m) {x y : Nat} (hxy : ¬ x < y) : sg n (x - y) = sg n x + sg m y := by
 cases n <;> cases m <;> simp [sg] at h ⊢ <;> omega
theorem sg_not (n : Bool) (x : Nat) : sg (!n) x = - sg n x := by cases n <;> simp [sg]
theorem sg_mul (n m : Bool) (x y : Nat) : sg (n != m) (x * y) = sg n x * sg m y := by cases n <;> cases m <;> simp [sg, Int.mul_neg, Int.neg_mul]
theorem sg_sgI (n : Bool) (x : Nat) : sgI (sg n x) = if x = 0 then 0 else if n then -1 else 1 := by
 unfold sgI
 cases n <;> simp [sg] <;> split <;> (try split) <;> omega
theorem floor_unique {a b q r : Int} (hb : b ≠ 0) (h : a = b * q + r) (hr : (0 ≤ r ∧ r < b) ∨ (b < r ∧ r ≤ 0)) : q = a.fdiv b ∧ r = a.fmod b := by
 have h1 := Int.fmod_add_mul_fdiv a b
 have key : q = a.fdiv b := by
  rcases Int.lt_or_gt_of_ne hb with hneg | hpos
  ·rw [← Int.neg_fdiv_neg, Int.fdiv_eq_ediv_of_nonneg _ (by omega)]
   refine ((Int.ediv_emod_unique (a := -a) (b := -b) (r := -r) (q := q) (by omega)).2 ⟨?_, by omega, by omega⟩).1.symm
   rw [h, Int.neg_mul]
   omega
  ·rw [Int.fdiv_eq_ediv_of_nonneg _ (by omega)]
   refine ((Int.ediv_emod_unique (a := a) (b := b) (r := r) (q := q) hpos).2 ⟨?_, by omega, by omega⟩).1.symm
   omega
 refine ⟨key, ?_⟩
 subst key
 omega
theorem floor_of {n m : Bool} {x y : Nat} (hy : y ≠ 0) :
  (sgI (sg n x - sg (n != m) (x / y) * sg m y) * sgI (sg m y) < 0 → sg (n != m) (x / y) - 1 = (sg n x).fdiv (sg m y) ∧ sg n x - sg (n != m) (x / y) * sg m y + sg m y = (sg n x).fmod (sg m y)) ∧
  (¬ sgI (sg n x - sg (n != m) (x / y) * sg m y) * sgI (sg m y) < 0 → sg (n != m) (x / y) = (sg n x).fdiv (sg m y) ∧ sg n x - sg (n != m) (x / y) * sg m y = (sg n x).fmod (sg m y)) := by
 have hd := Nat.div_add_mod x y
 have hlt := Nat.mod_lt x (Nat.pos_of_ne_zero hy)
 have hr : sg n x - sg (n != m) (x / y) * sg m y = sg n (x % y) := by
  have e : sg n x = sg (n != m) (x / y) * sg m y + sg n (x % y) := by
   rw [← sg_mul]
   have e2 : ((n != m) != m) = n := by cases n <;> cases m <;> rfl
   rw [e2, Nat.mul_comm, ← sg_add_same, hd]
  omega
 have hx : sg n x = sg m y * sg (n != m) (x / y) + sg n (x % y) := by rw [Int.mul_comm]; omega
 rw [hr]
 have hb : sg m y ≠ 0 := by cases m <;> simp [sg] <;> omega
 generalize hq : sg (n != m) (x / y) = q at *
 constructor
 ·intro h
  refine floor_unique (q := q - 1) (r := sg n (x % y) + sg m y) hb (by rw [hx, Int.mul_sub]; omega) ?_
  revert h
  cases n <;> cases m <;> simp [sg, sgI] <;> (repeat' split) <;> omega
 ·intro h
  refine floor_unique (q := q) (r := sg n (x % y)) hb hx ?_
  revert h
  cases n <;> cases m <;> simp [sg, sgI] <;> (repeat' split) <;> omega
def textZ (z : Int) : List UInt8 := if z < 0 then 45 :: textN z.natAbs else textN z.natAbs
theorem textN_len {n : Nat} : ∀ {k : Nat}, n < 10 ^ (k + 1) → (textN n).length ≤ k + 1 := by
 induction n using Nat.strongRecOn with
 | _ n ih =>
  intro k h
  by_cases h0 : n < 10
  ·rw [textN_small h0]; simp
  ·rw [textN_big h0]
   cases k with
   | zero => simp at h; omega
   | succ k =>
    have := ih (n / 10) (by omega) (k := k) (Nat.div_lt_of_lt_mul (by rw [Nat.mul_comm, ← Nat.pow_succ]; exact h))
    simp
    omega
theorem textN_words {a : List UInt32} (h : a.length ≤ 1000) : (textN (val a)).length ≤ 10000 := by
 obtain ⟨K, hK⟩ : ∃ K, K = 9999 := ⟨_, rfl⟩
 have h1 := val_lt a
 have h2 : 4294967296 ^ a.length ≤ (10 ^ 10) ^ a.length := Nat.pow_le_pow_left (by decide) _
 rw [← Nat.pow_mul] at h2
 have h3 : 10 ^ (10 * a.length) ≤ 10 ^ (K + 1) := Nat.pow_le_pow_right (by decide) (by omega)
 have h4 := textN_len (k := K) (Nat.lt_of_lt_of_le h1 (Nat.le_trans h2 h3))
 clear h1 h2 h3
 omega
theorem abs_add_len {x y : Int} {L : Nat} (hx : (ofN x.natAbs).length ≤ L) (hy : (ofN y.natAbs).length ≤ L) : (ofN (x + y).natAbs).length ≤ L + 1 := by
 refine ofN_length_le' ?_
 have h1 := val_lt (ofN x.natAbs)
 have h2 := val_lt (ofN y.natAbs)
 rw [val_ofN] at h1 h2
 have h3 : 4294967296 ^ (ofN x.natAbs).length ≤ 4294967296 ^ L := Nat.pow_le_pow_right (by decide) hx
 have h4 : 4294967296 ^ (ofN y.natAbs).length ≤ 4294967296 ^ L := Nat.pow_le_pow_right (by decide) hy
 rw [Nat.pow_succ]
 generalize 4294967296 ^ L = p at *
 omega
theorem abs_neg_len (x : Int) : ofN (-x).natAbs = ofN x.natAbs := by rw [Int.natAbs_neg]
theorem abs_mul_len {x y : Int} {L M : Nat} (hx : (ofN x.natAbs).length ≤ L) (hy : (ofN y.natAbs).length ≤ M) : (ofN (x * y).natAbs).length ≤ L + M := by
 refine ofN_length_le' ?_
 have h1 := val_lt (ofN x.natAbs)
 have h2 := val_lt (ofN y.natAbs)
 rw [val_ofN] at h1 h2
 rw [Int.natAbs_mul, Nat.pow_add]
 exact Nat.mul_lt_mul'' (Nat.lt_of_lt_of_le h1 (Nat.pow_le_pow_right (by decide) hx)) (Nat.lt_of_lt_of_le h2 (Nat.pow_le_pow_right (by decide) hy))
theorem wv_len (n : Bool) (a : List UInt32) : (ofN (wv n a).natAbs).length ≤ a.length := by rw [wv_val]; exact ofN_length_le a
def readZ (l : List UInt8) : Int := sg (l.head? = some 45) (rd (if l.head? = some 45 then l.tail else l))
def wrongZ (l : List UInt8) : Int := wrongI (if l.head? = some 45 then l.tail else l)
def minus (l : List UInt8) : Int := if l.head? = some 45 then 1 else 0
theorem read_len {l : List UInt8} (h0 : ¬ 0 ≤ wrongZ l) : (ofN (readZ l).natAbs).length ≤ 60 := by
 unfold wrongZ at h0
 unfold readZ
 rw [sg_abs]
 generalize (if l.head? = some 45 then l.tail else l) = l' at *
 have h1 : wrAt 0 l' < 0 := by
  unfold wrongI at h0
  split at h0
  ·omega
  ·omega
 obtain ⟨h2, h3⟩ := wrAt_neg 0 l' (Nat.zero_le _) h1
 refine ofN_length_le' (k := 60) ?_
 have h4 := rd_lt h3
 have h5 : 10 ^ l'.length ≤ 10 ^ 60 := Nat.pow_le_pow_right (by decide) (by omega)
 exact Nat.lt_of_lt_of_le h4 (Nat.le_trans h5 (by decide))
end Go.Ab
end

section
namespace Go.Ab
def b55 : AX :=
 (.seq
 (.reg [⟨(some 4), none, .alloc [(.b false), (.sl [] .nl)]⟩])
 (.seq
 (.reg [⟨(some 5), none, .mov (.t 0)⟩,
 ⟨(some 6), none, .mov (.t 5)⟩,
 ⟨(some 7), (some (6, true)), .mov (.t 1)⟩,
 ⟨(some 8), (some (6, true)), .len (.t 7)⟩,
 ⟨(some 9), (some (6, true)), .bin .gtr (.t 8) (.c (.i .i64 0))⟩,
 ⟨(some 10), none, .pick (.t 6) (.t 9) (.c (.b false))⟩,
 ⟨(some 11), none, .mov (.t 1)⟩,
 ⟨(some 12), none, .build [(.b false), (.sl [] .nl)] [(0, 1, (.t 10)), (1, 1, (.t 11))]⟩,
 ⟨none, none, .store 2 (.t 4) (.t 12)⟩])
 (.pre (.norm false [4]) .ret)))
def b38 : AX :=
 (.seq
 (.reg [⟨(some 1), none, .xop (.box 2) [(.t 0)]⟩,
 ⟨(some 2), none, .alloc [(.b false), (.sl [] .nl)]⟩])
 (.seq
 (.drawT [⟨(some 3), none, .fad 0 (.t 1)⟩,
 ⟨(some 4), none, .load none (.t 3)⟩,
 ⟨(some 5), none, .fad 1 (.t 1)⟩,
 ⟨(some 6), none, .load none (.t 5)⟩,
 ⟨(some 7), none, .call 71 [(.t 6)]⟩]
 [⟨(some 8), none, .call 55 [(.t 4), (.t 7)]⟩,
 ⟨none, none, .store 2 (.t 2) (.t 8)⟩])
 (.pre (.norm false [2]) .ret)))
def b40 : AX :=
 (.seq
 (.reg [⟨(some 1), none, .xop (.box 2) [(.t 0)]⟩,
 ⟨(some 2), none, .alloc [(.b false), (.sl [] .nl)]⟩])
 (.seq
 (.drawT [⟨(some 3), none, .fad 0 (.t 1)⟩,
 ⟨(some 4), none, .load none (.t 3)⟩,
 ⟨(some 5), none, .un .not (.t 4)⟩,
 ⟨(some 6), none, .fad 1 (.t 1)⟩,
 ⟨(some 7), none, .load none (.t 6)⟩,
 ⟨(some 8), none, .call 71 [(.t 7)]⟩]
 [⟨(some 9), none, .call 55 [(.t 5), (.t 8)]⟩,
 ⟨none, none, .store 2 (.t 2) (.t 9)⟩])
 (.pre (.norm false [2]) .ret)))
def b23 : AX :=
 (.seq
 (.reg [⟨(some 2), none, .xop (.box 2) [(.t 0)]⟩,
 ⟨(some 3), none, .xop (.box 2) [(.t 1)]⟩,
 ⟨(some 4), none, .alloc [(.b false), (.sl [] .nl)]⟩])
 (.seq
 (.seq
 (.reg [⟨(some 7), none, .fad 0 (.t 2)⟩,
 ⟨(some 8), none, .load none (.t 7)⟩,
 ⟨(some 9), none, .fad 0 (.t 3)⟩,
 ⟨(some 10), none, .load none (.t 9)⟩,
 ⟨(some 11), none, .eqb false (.t 8) (.t 10)⟩])
 (.cond (.t 11)
 (.seq
 (.drawT [⟨(some 12), none, .fad 0 (.t 2)⟩,
 ⟨(some 13), none, .load none (.t 12)⟩,
 ⟨(some 14), none, .fad 1 (.t 2)⟩,
 ⟨(some 15), none, .load none (.t 14)⟩,
 ⟨(some 16), none, .fad 1 (.t 3)⟩,
 ⟨(some 17), none, .load none (.t 16)⟩,
 ⟨(some 18), none, .bsl 1 [(.sl [] .nl)] 2 [(0, (.t 15)), (1, (.t 17))]⟩,
 ⟨(some 19), none, .call 56 [(.t 18)]⟩]
 [⟨(some 20), none, .call 55 [(.t 13), (.t 19)]⟩,
 ⟨none, none, .store 2 (.t 4) (.t 20)⟩])
 (.pre (.norm false [4]) .ret))
 .skip))
 (.seq
 (.reg [⟨(some 22), none, .fad 1 (.t 2)⟩,
 ⟨(some 23), none, .load none (.t 22)⟩,
 ⟨(some 24), none, .fad 1 (.t 3)⟩,
 ⟨(some 25), none, .load none (.t 24)⟩,
 ⟨(some 26), none, .call 57 [(.t 23), (.t 25)]⟩,
 ⟨(some 21), none, .mov (.t 26)⟩,
 ⟨(some 27), none, .ext (.t 21) 0⟩,
 ⟨(some 28), none, .ext (.t 21) 1⟩,
 ⟨(some 5), none, .mov (.t 27)⟩,
 ⟨(some 6), none, .mov (.t 28)⟩])
 (.seq
 (.seq
 (.reg [⟨(some 29), none, .mov (.t 6)⟩,
 ⟨(some 30), none, .bin .lss (.t 29) (.c (.i .i64 0))⟩])
 (.cond (.t 30)
 (.seq
 (.reg [⟨(some 31), none, .fad 0 (.t 3)⟩,
 ⟨(some 32), none, .load none (.t 31)⟩,
 ⟨(some 33), none, .mov (.t 5)⟩,
 ⟨(some 34), none, .call 55 [(.t 32), (.t 33)]⟩,
 ⟨none, none, .store 2 (.t 4) (.t 34)⟩])
 (.pre (.norm false [4]) .ret))
 .skip))
 (.seq
 (.reg [⟨(some 35), none, .fad 0 (.t 2)⟩,
 ⟨(some 36), none, .load none (.t 35)⟩,
 ⟨(some 37), none, .mov (.t 5)⟩,
 ⟨(some 38), none, .call 55 [(.t 36), (.t 37)]⟩,
 ⟨none, none, .store 2 (.t 4) (.t 38)⟩])
 (.pre (.norm false [4]) .ret))))))
def b25 : AX :=
 (.seq
 (.reg [⟨(some 2), none, .xop (.box 2) [(.t 0)]⟩,
 ⟨(some 3), none, .xop (.box 2) [(.t 1)]⟩,
 ⟨(some 4), none, .alloc [(.b false), (.sl [] .nl)]⟩])
 (.seq
 (.drawT [⟨(some 5), none, .load (some 2) (.t 2)⟩,
 ⟨(some 6), none, .load (some 2) (.t 3)⟩,
 ⟨(some 7), none, .call 40 [(.t 6)]⟩]
 [⟨(some 8), none, .call 23 [(.t 5), (.t 7)]⟩,
 ⟨none, none, .store 2 (.t 4) (.t 8)⟩])
 (.pre (.norm false [4]) .ret)))
def b27 : AX :=
 (.seq
 (.reg [⟨(some 2), none, .xop (.box 2) [(.t 0)]⟩,
 ⟨(some 3), none, .xop (.box 2) [(.t 1)]⟩,
 ⟨(some 4), none, .alloc [(.b false), (.sl [] .nl)]⟩])
 (.seq
 (.drawT [⟨(some 5), none, .fad 0 (.t 2)⟩,
 ⟨(some 6), none, .load none (.t 5)⟩,
 ⟨(some 7), none, .fad 0 (.t 3)⟩,
 ⟨(some 8), none, .load none (.t 7)⟩,
 ⟨(some 9), none, .eqb true (.t 6) (.t 8)⟩,
 ⟨(some 10), none, .fad 1 (.t 2)⟩,
 ⟨(some 11), none, .load none (.t 10)⟩,
 ⟨(some 12), none, .fad 1 (.t 3)⟩,
 ⟨(some 13), none, .load none (.t 12)⟩,
 ⟨(some 14), none, .call 60 [(.t 11), (.t 13)]⟩]
 [⟨(some 15), none, .call 55 [(.t 9), (.t 14)]⟩,
 ⟨none, none, .store 2 (.t 4) (.t 15)⟩])
 (.pre (.norm false [4]) .ret)))
def b37 : AX :=
 (.seq
 (.reg [⟨(some 1), none, .xop (.box 2) [(.t 0)]⟩,
 ⟨(some 2), none, .mov (.c (.i .i64 0))⟩])
 (.seq
 (.block 0
 (.seq
 (.reg [⟨(some 4), none, .fad 1 (.t 1)⟩,
 ⟨(some 5), none, .load none (.t 4)⟩,
 ⟨(some 6), none, .call 70 [(.t 5)]⟩,
 ⟨(some 3), none, .mov (.t 6)⟩])
 (.cond (.t 3)
 (.seq
 (.reg [⟨(some 2), none, .mov (.c (.i .i64 0))⟩])
 (.pre (.norm false [2]) .ret))
 (.seq
 (.reg [⟨(some 8), none, .fad 0 (.t 1)⟩,
 ⟨(some 9), none, .load none (.t 8)⟩,
 ⟨(some 7), none, .mov (.t 9)⟩])
 (.cond (.t 7)
 (.seq
 (.reg [⟨(some 2), none, .mov (.c (.i .i64 (-1)))⟩])
 (.pre (.norm false [2]) .ret))
 .skip)))))
 (.seq
 (.reg [⟨(some 2), none, .mov (.c (.i .i64 1))⟩])
 (.pre (.norm false [2]) .ret))))
def b41 : AX :=
 (.seq
 (.reg [⟨(some 2), none, .alloc [(.b false), (.sl [] .nl)]⟩])
 (.seq
 (.seq
 (.reg [⟨(some 3), none, .mov (.t 0)⟩,
 ⟨(some 4), none, .bin .lss (.t 3) (.c (.i .i64 0))⟩])
 (.cond (.t 4)
 (.seq
 (.reg [⟨(some 5), none, .mov (.t 0)⟩,
 ⟨(some 6), none, .conv .u64 (.t 5)⟩,
 ⟨(some 7), none, .un .neg (.t 6)⟩,
 ⟨(some 8), none, .call 72 [(.t 7)]⟩,
 ⟨(some 9), none, .call 55 [(.c (.b true)), (.t 8)]⟩,
 ⟨none, none, .store 2 (.t 2) (.t 9)⟩])
 (.pre (.norm false [2]) .ret))
 .skip))
 (.seq
 (.reg [⟨(some 10), none, .mov (.t 0)⟩,
 ⟨(some 11), none, .conv .u64 (.t 10)⟩,
 ⟨(some 12), none, .call 72 [(.t 11)]⟩,
 ⟨(some 13), none, .call 55 [(.c (.b false)), (.t 12)]⟩,
 ⟨none, none, .store 2 (.t 2) (.t 13)⟩])
 (.pre (.norm false [2]) .ret))))
def b36 : AX :=
 (.seq
 (.reg [⟨(some 2), none, .xop (.box 2) [(.t 0)]⟩,
 ⟨(some 3), none, .xop (.box 2) [(.t 1)]⟩,
 ⟨(some 4), none, .mov (.c (.i .i64 0))⟩])
 (.seq
 (.reg [⟨(some 5), none, .load (some 2) (.t 2)⟩,
 ⟨(some 6), none, .load (some 2) (.t 3)⟩,
 ⟨(some 7), none, .call 25 [(.t 5), (.t 6)]⟩,
 ⟨(some 8), none, .call 37 [(.t 7)]⟩,
 ⟨(some 4), none, .mov (.t 8)⟩])
 (.pre (.norm false [4]) .ret)))
def b29 : AX :=
 (.seq
 (.reg [⟨(some 2), none, .xop (.box 2) [(.t 0)]⟩,
 ⟨(some 3), none, .xop (.box 2) [(.t 1)]⟩,
 ⟨(some 4), none, .alloc [(.b false), (.sl [] .nl)]⟩,
 ⟨(some 5), none, .alloc [(.b false), (.sl [] .nl)]⟩,
 ⟨(some 6), none, .mov (.c (.b false))⟩])
 (.seq
 (.reg [⟨(some 10), none, .fad 1 (.t 2)⟩,
 ⟨(some 11), none, .load none (.t 10)⟩,
 ⟨(some 12), none, .fad 1 (.t 3)⟩,
 ⟨(some 13), none, .load none (.t 12)⟩,
 ⟨(some 14), none, .call 62 [(.t 11), (.t 13)]⟩,
 ⟨(some 9), none, .mov (.t 14)⟩,
 ⟨(some 15), none, .ext (.t 9) 0⟩,
 ⟨(some 16), none, .ext (.t 9) 1⟩,
 ⟨(some 17), none, .ext (.t 9) 2⟩,
 ⟨(some 7), none, .mov (.t 15)⟩,
 ⟨(some 8), none, .mov (.t 16)⟩,
 ⟨(some 6), none, .mov (.t 17)⟩])
 (.seq
 (.seq
 (.reg [⟨(some 18), none, .mov (.t 6)⟩,
 ⟨(some 19), none, .un .not (.t 18)⟩])
 (.cond (.t 19)
 (.seq
 (.reg [⟨(some 20), none, .build [(.b false), (.sl [] .nl)] []⟩,
 ⟨(some 21), none, .build [(.b false), (.sl [] .nl)] []⟩,
 ⟨none, none, .store 2 (.t 4) (.t 20)⟩,
 ⟨none, none, .store 2 (.t 5) (.t 21)⟩,
 ⟨(some 6), none, .mov (.c (.b false))⟩])
 (.pre (.norm false [4, 5, 6]) .ret))
 .skip))
 (.seq
 (.reg [⟨(some 22), none, .fad 0 (.t 2)⟩,
 ⟨(some 23), none, .load none (.t 22)⟩,
 ⟨(some 24), none, .fad 0 (.t 3)⟩,
 ⟨(some 25), none, .load none (.t 24)⟩,
 ⟨(some 26), none, .eqb true (.t 23) (.t 25)⟩,
 ⟨(some 27), none, .mov (.t 7)⟩,
 ⟨(some 28), none, .call 55 [(.t 26), (.t 27)]⟩,
 ⟨none, none, .store 2 (.t 4) (.t 28)⟩])
 (.seq
 (.drawT [⟨(some 29), none, .load (some 2) (.t 2)⟩,
 ⟨(some 30), none, .load (some 2) (.t 4)⟩,
 ⟨(some 31), none, .load (some 2) (.t 3)⟩,
 ⟨(some 32), none, .call 27 [(.t 30), (.t 31)]⟩]
 [⟨(some 33), none, .call 25 [(.t 29), (.t 32)]⟩,
 ⟨none, none, .store 2 (.t 5) (.t 33)⟩])
 (.seq
 (.seq
 (.drawT [⟨(some 34), none, .load (some 2) (.t 5)⟩,
 ⟨(some 35), none, .call 37 [(.t 34)]⟩,
 ⟨(some 36), none, .load (some 2) (.t 3)⟩]
 [⟨(some 37), none, .call 37 [(.t 36)]⟩,
 ⟨(some 38), none, .bin .mul (.t 35) (.t 37)⟩,
 ⟨(some 39), none, .bin .lss (.t 38) (.c (.i .i64 0))⟩])
 (.cond (.t 39)
 (.seq
 (.drawT [⟨(some 40), none, .load (some 2) (.t 4)⟩,
 ⟨(some 41), none, .call 41 [(.c (.i .i64 1))]⟩]
 [⟨(some 42), none, .call 25 [(.t 40), (.t 41)]⟩,
 ⟨none, none, .store 2 (.t 4) (.t 42)⟩])
 (.reg [⟨(some 43), none, .load (some 2) (.t 5)⟩,
 ⟨(some 44), none, .load (some 2) (.t 3)⟩,
 ⟨(some 45), none, .call 23 [(.t 43), (.t 44)]⟩,
 ⟨none, none, .store 2 (.t 5) (.t 45)⟩]))
 .skip))
 (.seq
 (.draw [⟨⟨(some 46), none, .load (some 2) (.t 4)⟩, 0, 0⟩,
 ⟨⟨(some 47), none, .load (some 2) (.t 5)⟩, 0, 1⟩,
 ⟨⟨none, none, .store 2 (.t 4) (.t 46)⟩, 0, 1⟩,
 ⟨⟨none, none, .store 2 (.t 5) (.t 47)⟩, 1, 2⟩,
 ⟨⟨(some 6), none, .mov (.c (.b true))⟩, 2, 2⟩])
 (.pre (.norm false [4, 5, 6]) .ret))))))))
def b34 : AX :=
 (.seq
 (.reg [⟨(some 1), none, .xop (.box 2) [(.t 0)]⟩,
 ⟨(some 2), none, .mov (.c (.s []))⟩])
 (.seq
 (.reg [⟨(some 4), none, .fad 1 (.t 1)⟩,
 ⟨(some 5), none, .load none (.t 4)⟩,
 ⟨(some 6), none, .call 68 [(.t 5)]⟩,
 ⟨(some 3), none, .mov (.t 6)⟩])
 (.seq
 (.seq
 (.reg [⟨(some 7), none, .load (some 2) (.t 1)⟩,
 ⟨(some 8), none, .call 37 [(.t 7)]⟩,
 ⟨(some 9), none, .bin .lss (.t 8) (.c (.i .i64 0))⟩])
 (.cond (.t 9)
 (.seq
 (.reg [⟨(some 10), none, .mov (.t 3)⟩,
 ⟨(some 11), none, .bin .add (.c (.s [45])) (.t 10)⟩,
 ⟨(some 2), none, .mov (.t 11)⟩])
 (.pre (.norm false [2]) .ret))
 .skip))
 (.seq
 (.reg [⟨(some 12), none, .mov (.t 3)⟩,
 ⟨(some 2), none, .mov (.t 12)⟩])
 (.pre (.norm false [2]) .ret)))))
def b32 : AX :=
 (.seq
 (.reg [⟨(some 2), none, .alloc [(.b false), (.sl [] .nl)]⟩,
 ⟨(some 3), none, .alloc [(.i .i64 0), (.i .i64 0), (.i .i64 0), (.i .i64 0)]⟩])
 (.seq
 (.reg [⟨(some 9), none, .mov (.t 0)⟩,
 ⟨(some 10), none, .call 64 [(.t 9), (.c (.s [45]))]⟩,
 ⟨(some 8), none, .mov (.t 10)⟩,
 ⟨(some 11), none, .ext (.t 8) 0⟩,
 ⟨(some 12), none, .ext (.t 8) 1⟩,
 ⟨(some 4), none, .mov (.t 11)⟩,
 ⟨(some 5), none, .mov (.t 12)⟩])
 (.seq
 (.reg [⟨(some 14), none, .mov (.t 4)⟩,
 ⟨(some 15), none, .call 65 [(.t 14)]⟩,
 ⟨(some 13), none, .mov (.t 15)⟩,
 ⟨(some 16), none, .ext (.t 13) 0⟩,
 ⟨(some 17), none, .ext (.t 13) 1⟩,
 ⟨(some 7), none, .alloc [(.i .i64 0), (.i .i64 0), (.i .i64 0), (.i .i64 0)]⟩,
 ⟨(some 6), none, .mov (.t 16)⟩,
 ⟨none, none, .store 4 (.t 7) (.t 17)⟩])
 (.seq
 (.seq
 (.reg [⟨(some 18), none, .load (some 4) (.t 7)⟩,
 ⟨(some 19), none, .build [(.i .i64 0), (.i .i64 0), (.i .i64 0), (.i .i64 0)] []⟩,
 ⟨(some 20), none, .eqs true [(0, .int), (1, .int), (2, .int), (3, .int)] (.t 18) (.t 19)⟩])
 (.cond (.t 20)
 (.seq
 (.reg [⟨(some 21), none, .fad 3 (.t 7)⟩,
 ⟨(some 22), none, .load none (.t 21)⟩,
 ⟨(some 23), none, .mov (.t 0)⟩,
 ⟨(some 24), none, .lens (.t 23)⟩,
 ⟨(some 25), none, .mov (.t 4)⟩,
 ⟨(some 26), none, .lens (.t 25)⟩,
 ⟨(some 27), none, .bin .sub (.t 24) (.t 26)⟩,
 ⟨(some 28), none, .bin .add (.t 22) (.t 27)⟩,
 ⟨(some 29), none, .fad 3 (.t 7)⟩,
 ⟨none, none, .store 1 (.t 29) (.t 28)⟩])
 (.seq
 (.draw [⟨⟨(some 30), none, .build [(.b false), (.sl [] .nl)] []⟩, 0, 0⟩,
 ⟨⟨(some 31), none, .load (some 4) (.t 7)⟩, 0, 1⟩,
 ⟨⟨none, none, .store 2 (.t 2) (.t 30)⟩, 0, 1⟩,
 ⟨⟨none, none, .store 4 (.t 3) (.t 31)⟩, 1, 2⟩])
 (.pre (.norm false [2, 3]) .ret)))
 .skip))
 (.seq
 (.reg [⟨(some 32), none, .mov (.t 5)⟩,
 ⟨(some 33), none, .mov (.t 6)⟩,
 ⟨(some 34), none, .call 55 [(.t 32), (.t 33)]⟩,
 ⟨(some 35), none, .build [(.i .i64 0), (.i .i64 0), (.i .i64 0), (.i .i64 0)] []⟩,
 ⟨none, none, .store 2 (.t 2) (.t 34)⟩,
 ⟨none, none, .store 4 (.t 3) (.t 35)⟩])
 (.pre (.norm false [2, 3]) .ret))))))
class CWhole (T : Tbl) : Prop where
 h55 : T 55 = some ⟨2, 13, [.cell 4 (some 2)], b55, none, false⟩
 h38 : T 38 = some ⟨1, 9, [.cell 2 (some 2)], b38, none, false⟩
 h40 : T 40 = some ⟨1, 10, [.cell 2 (some 2)], b40, none, false⟩
 h23 : T 23 = some ⟨2, 39, [.cell 4 (some 2)], b23, none, false⟩
 h25 : T 25 = some ⟨2, 9, [.cell 4 (some 2)], b25, none, false⟩
 h27 : T 27 = some ⟨2, 16, [.cell 4 (some 2)], b27, none, false⟩
 h37 : T 37 = some ⟨1, 10, [.t 2], b37, none, false⟩
 h41 : T 41 = some ⟨1, 14, [.cell 2 (some 2)], b41, none, false⟩
 h36 : T 36 = some ⟨2, 9, [.t 4], b36, none, false⟩
 h29 : T 29 = some ⟨2, 48, [.cell 4 (some 2), .cell 5 (some 2), .t 6], b29, none, false⟩
 h34 : T 34 = some ⟨1, 13, [.t 2], b34, none, false⟩
 h32 : T 32 = some ⟨1, 36, [.cell 2 (some 2), .cell 3 (some 4)], b32, none, false⟩
section
variable {T : Tbl} [CWhole T] {d : Option Nat} {st : St}
@[simp] theorem x55 (xs : List AV) : callX (orc T) T 55 xs d st = bL (frzL st.heap xs) fun ys => cR (callF T 55 (ys.map (wkIf false))) xs d st := callX_pure CWhole.h55
theorem f55 (xs : List AV) (hn : xs.length = 2) : callF T 55 xs = retF [.cell 4 (some 2)] false (evX (orc T) T 0 b55 ⟨argEnv xs, [], 1⟩) := callF_eq CWhole.h55 hn
@[simp] theorem x38 (xs : List AV) : callX (orc T) T 38 xs d st = bL (frzL st.heap xs) fun ys => cR (callF T 38 (ys.map (wkIf false))) xs d st := callX_pure CWhole.h38
theorem f38 (xs : List AV) (hn : xs.length = 1) : callF T 38 xs = retF [.cell 2 (some 2)] false (evX (orc T) T 0 b38 ⟨argEnv xs, [], 1⟩) := callF_eq CWhole.h38 hn
@[simp] theorem y40 {e : Env} {h : Heap} {older : List Heap} (args : List Opd) : opD (orc T) T (.call 40 args) e h older = dR (callF T 40 ((args.map (ev e.get)).map (wkIf false))) (args.map (ev e.get)) := opD_call CWhole.h40
theorem f40 (xs : List AV) (hn : xs.length = 1) : callF T 40 xs = retF [.cell 2 (some 2)] false (evX (orc T) T 0 b40 ⟨argEnv xs, [], 1⟩) := callF_eq CWhole.h40 hn
@[simp] theorem x23 (xs : List AV) : callX (orc T) T 23 xs d st = bL (frzL st.heap xs) fun ys => cR (callF T 23 (ys.map (wkIf false))) xs d st := callX_pure CWhole.h23
@[simp] theorem y23 {e : Env} {h : Heap} {older : List Heap} (args : List Opd) : opD (orc T) T (.call 23 args) e h older = dR (callF T 23 ((args.map (ev e.get)).map (wkIf false))) (args.map (ev e.get)) := opD_call CWhole.h23
theorem f23 (xs : List AV) (hn : xs.length = 2) : callF T 23 xs = retF [.cell 4 (some 2)] false (evX (orc T) T 0 b23 ⟨argEnv xs, [], 1⟩) := callF_eq CWhole.h23 hn
@[simp] theorem x25 (xs : List AV) : callX (orc T) T 25 xs d st = bL (frzL st.heap xs) fun ys => cR (callF T 25 (ys.map (wkIf false))) xs d st := callX_pure CWhole.h25
@[simp] theorem y25 {e : Env} {h : Heap} {older : List Heap} (args : List Opd) : opD (orc T) T (.call 25 args) e h older = dR (callF T 25 ((args.map (ev e.get)).map (wkIf false))) (args.map (ev e.get)) := opD_call CWhole.h25
theorem f25 (xs : List AV) (hn : xs.length = 2) : callF T 25 xs = retF [.cell 4 (some 2)] false (evX (orc T) T 0 b25 ⟨argEnv xs, [], 1⟩) := callF_eq CWhole.h25 hn
@[simp] theorem x27 (xs : List AV) : callX (orc T) T 27 xs d st = bL (frzL st.heap xs) fun ys => cR (callF T 27 (ys.map (wkIf false))) xs d st := callX_pure CWhole.h27
@[simp] theorem y27 {e : Env} {h : Heap} {older : List Heap} (args : List Opd) : opD (orc T) T (.call 27 args) e h older = dR (callF T 27 ((args.map (ev e.get)).map (wkIf false))) (args.map (ev e.get)) := opD_call CWhole.h27
theorem f27 (xs : List AV) (hn : xs.length = 2) : callF T 27 xs = retF [.cell 4 (some 2)] false (evX (orc T) T 0 b27 ⟨argEnv xs, [], 1⟩) := callF_eq CWhole.h27 hn
@[simp] theorem x37 (xs : List AV) : callX (orc T) T 37 xs d st = bL (frzL st.heap xs) fun ys => cR (callF T 37 (ys.map (wkIf false))) xs d st := callX_pure CWhole.h37
@[simp] theorem y37 {e : Env} {h : Heap} {older : List Heap} (args : List Opd) : opD (orc T) T (.call 37 args) e h older = dR (callF T 37 ((args.map (ev e.get)).map (wkIf false))) (args.map (ev e.get)) := opD_call CWhole.h37
theorem f37 (xs : List AV) (hn : xs.length = 1) : callF T 37 xs = retF [.t 2] false (evX (orc T) T 0 b37 ⟨argEnv xs, [], 1⟩) := callF_eq CWhole.h37 hn
@[simp] theorem x41 (xs : List AV) : callX (orc T) T 41 xs d st = bL (frzL st.heap xs) fun ys => cR (callF T 41 (ys.map (wkIf false))) xs d st := callX_pure CWhole.h41
@[simp] theorem y41 {e : Env} {h : Heap} {older : List Heap} (args : List Opd) : opD (orc T) T (.call 41 args) e h older = dR (callF T 41 ((args.map (ev e.get)).map (wkIf false))) (args.map (ev e.get)) := opD_call CWhole.h41
theorem f41 (xs : List AV) (hn : xs.length = 1) : callF T 41 xs = retF [.cell 2 (some 2)] false (evX (orc T) T 0 b41 ⟨argEnv xs, [], 1⟩) := callF_eq CWhole.h41 hn
@[simp] theorem x36 (xs : List AV) : callX (orc T) T 36 xs d st = bL (frzL st.heap xs) fun ys => cR (callF T 36 (ys.map (wkIf false))) xs d st := callX_pure CWhole.h36
theorem f36 (xs : List AV) (hn : xs.length = 2) : callF T 36 xs = retF [.t 4] false (evX (orc T) T 0 b36 ⟨argEnv xs, [], 1⟩) := callF_eq CWhole.h36 hn
@[simp] theorem x29 (xs : List AV) : callX (orc T) T 29 xs d st = bL (frzL st.heap xs) fun ys => cR (callF T 29 (ys.map (wkIf false))) xs d st := callX_pure CWhole.h29
theorem f29 (xs : List AV) (hn : xs.length = 2) : callF T 29 xs = retF [.cell 4 (some 2), .cell 5 (some 2), .t 6] false (evX (orc T) T 0 b29 ⟨argEnv xs, [], 1⟩) := callF_eq CWhole.h29 hn
@[simp] theorem x34 (xs : List AV) : callX (orc T) T 34 xs d st = bL (frzL st.heap xs) fun ys => cR (callF T 34 (ys.map (wkIf false))) xs d st := callX_pure CWhole.h34
theorem f34 (xs : List AV) (hn : xs.length = 1) : callF T 34 xs = retF [.t 2] false (evX (orc T) T 0 b34 ⟨argEnv xs, [], 1⟩) := callF_eq CWhole.h34 hn
@[simp] theorem x32 (xs : List AV) : callX (orc T) T 32 xs d st = bL (frzL st.heap xs) fun ys => cR (callF T 32 (ys.map (wkIf false))) xs d st := callX_pure CWhole.h32
theorem f32 (xs : List AV) (hn : xs.length = 1) : callF T 32 xs = retF [.cell 2 (some 2), .cell 3 (some 4)] false (evX (orc T) T 0 b32 ⟨argEnv xs, [], 1⟩) := callF_eq CWhole.h32 hn
end
end Go.Ab
end

section
namespace Go.Ab
open Go.RowKit
abbrev mv (d s : Nat) : AO := ⟨some d, none, .mov (.t s)⟩
abbrev rg (d : Nat) (op : AOp) : AO := ⟨some d, none, op⟩
abbrev gd (d t : Nat) (b : Bool) (op : AOp) : AO := ⟨some d, some (t, b), op⟩
abbrev so (op : AOp) : AO := ⟨none, none, op⟩
section
variable (T : Tbl) (u : Nat) (ex : Bool) (ms : List Bool) (xs : List AV) (d : Option Nat) (st : St) (ps : List Opd) (e : Env)
@[simp] noncomputable def cP : Option St := bL (frzL st.heap xs) fun ys => cR (callF T u (ys.map (wkIf ex))) xs d st
@[simp] noncomputable def cL : Option St := bL (frzM st.heap ms xs) fun ys => lentX ys (shareIds (refsM ms xs) st.heap) (reach (shareIds (refsM ms xs) st.heap) 40 (rootsM ms xs) []) T u ex d st
@[simp] noncomputable def dP : Option AV := dR (callF T u ((ps.map (ev e.get)).map (wkIf ex))) (ps.map (ev e.get))
end
section
variable {T : Tbl} {k : Nat}
theorem range_loop {id : Nat} {g2 : Gh} {c : AX} (S : Nat → St) (n : Nat) (G : Option (Ex × St)) (step : ∀ i, i < n → evX (orc T) T k c (S i) = some (.n, S (i + 1)))
  (fin : isEx (evX (orc T) T k c (S n)) = true ∧ finX k id g2 (evX (orc T) T k c (S n)) = G) : loopN T k id g2 c (S 0) = G :=
 loopN_eq S (fun i => i ≤ n) (fun i => n - i) (fun _ => G) (by
  intro i hi
  by_cases h : i < n
  ·exact .inl ⟨i + 1, h, by show n - (i + 1) < n - i; omega, step i h, rfl⟩
  ·have : i = n := by omega
   subst this
   exact .inr fin) 0 (Nat.zero_le _)
end
theorem wrapS {i n : Nat} (h : i < n) (hn : n ≤ 4294967296) : IntKind.wrap .i64 ((i : Int) + 1) = ((i + 1 : Nat) : Int) := wrap_i64 _ (by omega)
end Go.Ab
end

section
namespace Go.Ab
def l198_0 : AX :=
 (.note
 (.seq
 (.seq
 (.reg [mv 5 1, rg 6 (.bin .neq (.t 5) (.c (u64 0)))])
 (.cond (.t 6)
 .skip
 (.exit 0)))
 (.block 1
 (.drawT [mv 7 1, mv 8 0, mv 9 1, rg 10 (.bin .rem (.t 8) (.t 9)), mv 0 7]
 [mv 1 10])))
 (.norm false [0, 1]))
def b198 : AX :=
 (.seq
 (.reg [rg 4 (.mov (.c (u64 0)))])
 (.seq
 (.lp 0 (.norm false [0, 1]) l198_0 (.norm false [0]))
 (.seq
 (.reg [mv 11 0, mv 4 11])
 (.pre (.norm false [4]) .ret))))
def l199_0 : AX :=
 (.note
 (.seq
 (.seq
 (.reg [mv 19 1, rg 20 (.len (.t 19)), rg 21 (.bin .gtr (.t 20) (.c (.i .i64 2)))])
 (.cond (.t 21)
 .skip
 (.exit 0)))
 (.block 1
 (.seq
 (.reg [mv 23 0, mv 24 1, rg 25 (.call 62 [(.t 23), (.t 24)]), mv 22 25, rg 26 (.ext (.t 22) 0), rg 27 (.ext (.t 22) 1), rg 28 (.ext (.t 22) 2), mv 5 26,
 mv 6 27, mv 7 28])
 (.reg [mv 29 1, mv 30 6, mv 0 29, mv 1 30]))))
 (.norm false [0, 1]))
def b199 : AX :=
 (.seq
 (.reg [rg 4 (.mov (.c (.sl [] .nl)))])
 (.seq
 (.reg [mv 15 0, rg 16 (.call 71 [(.t 15)]), mv 17 1, rg 18 (.call 71 [(.t 17)]), mv 0 16, mv 1 18])
 (.seq
 (.lp 0 (.norm false [0, 1]) l199_0 (.norm false [0, 1]))
 (.seq
 (.seq
 (.reg [mv 31 1, rg 32 (.len (.t 31)), rg 33 (.bin .eql (.t 32) (.c (.i .i64 0)))])
 (.cond (.t 33)
 (.seq
 (.reg [mv 34 0, mv 4 34])
 (.pre (.norm false [4]) .ret))
 .skip))
 (.seq
 (.reg [mv 36 0, mv 37 1, rg 38 (.call 62 [(.t 36), (.t 37)]), mv 35 38, rg 39 (.ext (.t 35) 0), rg 40 (.ext (.t 35) 1), rg 41 (.ext (.t 35) 2), mv 8 39,
 mv 9 40, mv 10 41])
 (.seq
 (.reg [mv 43 1, rg 44 (.call 73 [(.t 43)]), mv 42 44, rg 45 (.ext (.t 42) 0), rg 46 (.ext (.t 42) 1), mv 11 45, mv 12 46])
 (.seq
 (.reg [mv 48 9, rg 49 (.call 73 [(.t 48)]), mv 47 49, rg 50 (.ext (.t 47) 0), rg 51 (.ext (.t 47) 1), mv 13 50, mv 14 51])
 (.seq
 (.reg [mv 52 11, mv 53 13, rg 54 (.call 198 [(.t 52), (.t 53)]), rg 55 (.call 72 [(.t 54)]), mv 4 55])
 (.pre (.norm false [4]) .ret)))))))))
def b200 : AX :=
 (.seq
 (.reg [rg 2 (.mov (.c (.b false)))])
 (.seq
 (.reg [mv 3 0, rg 4 (.len (.t 3)), rg 5 (.bin .eql (.t 4) (.c (.i .i64 1))), mv 6 5, gd 7 6 true (.mov (.t 0)), gd 8 6 true (.iad 1 (.t 7) (.c (.i .i64 0))),
 gd 9 6 true (.load none (.t 8)), gd 10 6 true (.bin .eql (.t 9) (.c (u32 1))), rg 11 (.pick (.t 6) (.t 10) (.c (.b false))), mv 2 11])
 (.pre (.norm false [2]) .ret)))
def b201 : AX :=
 (.seq
 (.reg [rg 4 (.mov (.c (.sl [] .nl))), rg 5 (.mov (.c (.sl [] .nl)))])
 (.seq
 (.reg [mv 7 0, mv 8 1, rg 9 (.call 199 [(.t 7), (.t 8)]), mv 6 9])
 (.seq
 (.block 0
 (.seq
 (.reg [mv 11 6, rg 12 (.len (.t 11)), rg 13 (.bin .eql (.t 12) (.c (.i .i64 0))), mv 10 13])
 (.cond (.t 10)
 (.seq
 (.reg [rg 4 (.mov (.c (.sl [] .nl))), rg 5 (.mov (.c (.sl [] .nl)))])
 (.pre (.norm false [4, 5]) .ret))
 (.seq
 (.reg [mv 15 6, rg 16 (.call 200 [(.t 15)]), mv 14 16])
 (.cond (.t 14)
 (.seq
 (.reg [mv 17 0, rg 18 (.call 71 [(.t 17)]), mv 19 1, rg 20 (.call 71 [(.t 19)]), mv 4 18, mv 5 20])
 (.pre (.norm false [4, 5]) .ret))
 .skip)))))
 (.seq
 (.reg [mv 22 0, mv 23 6, rg 24 (.call 62 [(.t 22), (.t 23)]), mv 21 24, rg 25 (.ext (.t 21) 0), rg 26 (.ext (.t 21) 1), rg 27 (.ext (.t 21) 2), mv 4 25])
 (.seq
 (.reg [mv 29 1, mv 30 6, rg 31 (.call 62 [(.t 29), (.t 30)]), mv 28 31, rg 32 (.ext (.t 28) 0), rg 33 (.ext (.t 28) 1), rg 34 (.ext (.t 28) 2), mv 5 32])
 (.seq
 (.reg [mv 35 4, mv 36 5, mv 4 35, mv 5 36])
 (.pre (.norm false [4, 5]) .ret)))))))
class CCommon (T : Tbl) : Prop where
 h198 : T 198 = some ⟨2, 12, [.t 4], b198, none, false⟩
 h199 : T 199 = some ⟨2, 56, [.t 4], b199, none, false⟩
 h200 : T 200 = some ⟨1, 12, [.t 2], b200, none, false⟩
 h201 : T 201 = some ⟨2, 37, [.t 4, .t 5], b201, none, false⟩
section
variable {T : Tbl} [CCommon T] {d : Option Nat} {st : St} {xs : List AV} {ps : List Opd} {e : Env} {h : Heap} {ol : List Heap}
@[simp] theorem x198 : callX (orc T) T 198 xs d st = cP T 198 false xs d st := callX_pure CCommon.h198
theorem f198 (xs : List AV) (hn : xs.length = 2) : callF T 198 xs = retF [.t 4] false (evX (orc T) T 0 b198 ⟨argEnv xs, [], 1⟩) := callF_eq CCommon.h198 hn
@[simp] theorem x199 : callX (orc T) T 199 xs d st = cP T 199 false xs d st := callX_pure CCommon.h199
theorem f199 (xs : List AV) (hn : xs.length = 2) : callF T 199 xs = retF [.t 4] false (evX (orc T) T 0 b199 ⟨argEnv xs, [], 1⟩) := callF_eq CCommon.h199 hn
@[simp] theorem x200 : callX (orc T) T 200 xs d st = cP T 200 false xs d st := callX_pure CCommon.h200
theorem f200 (xs : List AV) (hn : xs.length = 1) : callF T 200 xs = retF [.t 2] false (evX (orc T) T 0 b200 ⟨argEnv xs, [], 1⟩) := callF_eq CCommon.h200 hn
@[simp] theorem x201 : callX (orc T) T 201 xs d st = cP T 201 false xs d st := callX_pure CCommon.h201
theorem f201 (xs : List AV) (hn : xs.length = 2) : callF T 201 xs = retF [.t 4, .t 5] false (evX (orc T) T 0 b201 ⟨argEnv xs, [], 1⟩) := callF_eq CCommon.h201 hn
end
end Go.Ab
end

section
namespace Go.Ab
def b202 : AX :=
 (.seq
 (.reg [rg 2 (.xop (.box 2) [(.t 0)]), rg 4 (.alloc [(.b false), (.sl [] .nl), (.sl [] .nl)])])
 (.seq
 (.reg [rg 8 (.fad 1 (.t 2)), rg 9 (.load none (.t 8)), mv 10 1, rg 11 (.call 201 [(.t 9), (.t 10)]), mv 7 11, rg 12 (.ext (.t 7) 0), rg 13 (.ext (.t 7) 1),
 mv 5 12, mv 6 13])
 (.seq
 (.reg [rg 14 (.fad 0 (.t 2)), rg 15 (.load none (.t 14)), mv 16 5, rg 17 (.build [(.b false), (.sl [] .nl)] [(0, 1, (.t 15)), (1, 1, (.t 16))]),
 rg 18 (.call 38 [(.t 17)]), mv 19 6, rg 20 (.build [(.b false), (.sl [] .nl), (.sl [] .nl)] [(0, 2, (.t 18)), (2, 1, (.t 19))]),
 so (.store 3 (.t 4) (.t 20))])
 (.pre (.norm false [4]) .ret))))
def b203 : AX :=
 (.seq
 (.reg [rg 1 (.xop (.box 3) [(.t 0)]), rg 2 (.alloc [(.b false), (.sl [] .nl)]), rg 3 (.mov (.c (.sl [] .nl)))])
 (.seq
 (.seq
 (.reg [rg 4 (.fad 2 (.t 1)), rg 5 (.load none (.t 4)), rg 6 (.call 70 [(.t 5)])])
 (.cond (.t 6)
 (.seq
 (.reg [rg 7 (.build [(.b false), (.sl [] .nl)] []), rg 8 (.call 72 [(.c (u64 1))]), so (.store 2 (.t 2) (.t 7)), mv 3 8])
 (.pre (.norm false [2, 3]) .ret))
 .skip))
 (.seq
 (.draw [⟨rg 9 (.fad 0 (.t 1)), 0, 0⟩, ⟨rg 10 (.load (some 2) (.t 9)), 0, 0⟩, ⟨rg 11 (.fad 2 (.t 1)), 0, 1⟩, ⟨rg 12 (.load none (.t 11)), 0, 1⟩,
 ⟨so (.store 2 (.t 2) (.t 10)), 0, 1⟩, ⟨mv 3 12, 1, 1⟩])
 (.pre (.norm false [2, 3]) .ret))))
def b205 : AX :=
 (.seq
 (.reg [rg 2 (.alloc [(.b false), (.sl [] .nl), (.sl [] .nl)])])
 (.seq
 (.reg [mv 3 0, rg 4 (.call 41 [(.t 3)]), rg 5 (.call 72 [(.c (u64 1))]),
 rg 6 (.build [(.b false), (.sl [] .nl), (.sl [] .nl)] [(0, 2, (.t 4)), (2, 1, (.t 5))]), so (.store 3 (.t 2) (.t 6))])
 (.pre (.norm false [2]) .ret)))
def b207 : AX :=
 (.seq
 (.reg [rg 1 (.xop (.box 3) [(.t 0)]), rg 2 (.alloc [(.b false), (.sl [] .nl), (.sl [] .nl)])])
 (.seq
 (.reg [rg 3 (.load (some 3) (.t 1)), rg 4 (.call 203 [(.t 3)]), rg 5 (.ext (.t 4) 0), rg 6 (.ext (.t 4) 1), rg 7 (.call 202 [(.t 5), (.t 6)]),
 so (.store 3 (.t 2) (.t 7))])
 (.pre (.norm false [2]) .ret)))
def b209 : AX :=
 (.seq
 (.reg [rg 1 (.xop (.box 3) [(.t 0)]), rg 2 (.mov (.c (.i .i64 0)))])
 (.seq
 (.reg [rg 6 (.load (some 3) (.t 1)), rg 7 (.call 203 [(.t 6)]), mv 5 7, rg 8 (.ext (.t 5) 0), rg 9 (.ext (.t 5) 1), rg 3 (.alloc [(.b false), (.sl [] .nl)]),
 so (.store 2 (.t 3) (.t 8)), mv 4 9])
 (.seq
 (.reg [rg 10 (.load (some 2) (.t 3)), rg 11 (.call 37 [(.t 10)]), mv 2 11])
 (.pre (.norm false [2]) .ret))))
def b210 : AX :=
 (.seq
 (.reg [rg 2 (.xop (.box 2) [(.t 0)]), rg 4 (.alloc [(.b false), (.sl [] .nl)])])
 (.seq
 (.reg [rg 5 (.load (some 2) (.t 2)), mv 6 1, rg 7 (.build [(.b false), (.sl [] .nl)] [(1, 1, (.t 6))]), rg 8 (.call 27 [(.t 5), (.t 7)]),
 so (.store 2 (.t 4) (.t 8))])
 (.pre (.norm false [4]) .ret)))
def b211 : AX :=
 (.seq
 (.reg [rg 2 (.xop (.box 3) [(.t 0)]), rg 3 (.xop (.box 3) [(.t 1)]), rg 4 (.mov (.c (.i .i64 0)))])
 (.seq
 (.reg [rg 10 (.load (some 3) (.t 2)), rg 11 (.call 203 [(.t 10)]), mv 9 11, rg 12 (.ext (.t 9) 0), rg 13 (.ext (.t 9) 1),
 rg 5 (.alloc [(.b false), (.sl [] .nl)]), so (.store 2 (.t 5) (.t 12)), mv 6 13])
 (.seq
 (.reg [rg 15 (.load (some 3) (.t 3)), rg 16 (.call 203 [(.t 15)]), mv 14 16, rg 17 (.ext (.t 14) 0), rg 18 (.ext (.t 14) 1),
 rg 7 (.alloc [(.b false), (.sl [] .nl)]), so (.store 2 (.t 7) (.t 17)), mv 8 18])
 (.seq
 (.drawT [rg 19 (.load (some 2) (.t 5)), mv 20 8, rg 21 (.call 210 [(.t 19), (.t 20)]), rg 22 (.load (some 2) (.t 7)), mv 23 6]
 [rg 24 (.call 210 [(.t 22), (.t 23)]), rg 25 (.call 36 [(.t 21), (.t 24)]), mv 4 25])
 (.pre (.norm false [4]) .ret)))))
def b212 : AX :=
 (.seq
 (.reg [rg 2 (.xop (.box 3) [(.t 0)]), rg 3 (.xop (.box 3) [(.t 1)]), rg 4 (.mov (.c (.b false)))])
 (.seq
 (.reg [rg 5 (.load (some 3) (.t 2)), rg 6 (.load (some 3) (.t 3)), rg 7 (.call 211 [(.t 5), (.t 6)]), rg 8 (.bin .eql (.t 7) (.c (.i .i64 0))), mv 4 8])
 (.pre (.norm false [4]) .ret)))
def b215 : AX :=
 (.seq
 (.reg [rg 2 (.xop (.box 3) [(.t 0)]), rg 3 (.xop (.box 3) [(.t 1)]), rg 4 (.alloc [(.b false), (.sl [] .nl), (.sl [] .nl)])])
 (.seq
 (.reg [rg 10 (.load (some 3) (.t 2)), rg 11 (.call 203 [(.t 10)]), mv 9 11, rg 12 (.ext (.t 9) 0), rg 13 (.ext (.t 9) 1),
 rg 5 (.alloc [(.b false), (.sl [] .nl)]), so (.store 2 (.t 5) (.t 12)), mv 6 13])
 (.seq
 (.reg [rg 15 (.load (some 3) (.t 3)), rg 16 (.call 203 [(.t 15)]), mv 14 16, rg 17 (.ext (.t 14) 0), rg 18 (.ext (.t 14) 1),
 rg 7 (.alloc [(.b false), (.sl [] .nl)]), so (.store 2 (.t 7) (.t 17)), mv 8 18])
 (.seq
 (.drawT [rg 19 (.load (some 2) (.t 5)), mv 20 8, rg 21 (.call 210 [(.t 19), (.t 20)]), rg 22 (.load (some 2) (.t 7)), mv 23 6,
 rg 24 (.call 210 [(.t 22), (.t 23)]), rg 25 (.call 23 [(.t 21), (.t 24)]), mv 26 6, mv 27 8]
 [rg 28 (.call 60 [(.t 26), (.t 27)]), rg 29 (.call 202 [(.t 25), (.t 28)]), so (.store 3 (.t 4) (.t 29))])
 (.pre (.norm false [4]) .ret)))))
def b216 : AX :=
 (.seq
 (.reg [rg 2 (.xop (.box 3) [(.t 0)]), rg 3 (.xop (.box 3) [(.t 1)]), rg 4 (.alloc [(.b false), (.sl [] .nl), (.sl [] .nl)])])
 (.seq
 (.reg [rg 10 (.load (some 3) (.t 2)), rg 11 (.call 203 [(.t 10)]), mv 9 11, rg 12 (.ext (.t 9) 0), rg 13 (.ext (.t 9) 1),
 rg 5 (.alloc [(.b false), (.sl [] .nl)]), so (.store 2 (.t 5) (.t 12)), mv 6 13])
 (.seq
 (.reg [rg 15 (.load (some 3) (.t 3)), rg 16 (.call 203 [(.t 15)]), mv 14 16, rg 17 (.ext (.t 14) 0), rg 18 (.ext (.t 14) 1),
 rg 7 (.alloc [(.b false), (.sl [] .nl)]), so (.store 2 (.t 7) (.t 17)), mv 8 18])
 (.seq
 (.drawT [rg 19 (.load (some 2) (.t 5)), mv 20 8, rg 21 (.call 210 [(.t 19), (.t 20)]), rg 22 (.load (some 2) (.t 7)), mv 23 6,
 rg 24 (.call 210 [(.t 22), (.t 23)]), rg 25 (.call 25 [(.t 21), (.t 24)]), mv 26 6, mv 27 8]
 [rg 28 (.call 60 [(.t 26), (.t 27)]), rg 29 (.call 202 [(.t 25), (.t 28)]), so (.store 3 (.t 4) (.t 29))])
 (.pre (.norm false [4]) .ret)))))
def b217 : AX :=
 (.seq
 (.reg [rg 2 (.xop (.box 3) [(.t 0)]), rg 3 (.xop (.box 3) [(.t 1)]), rg 4 (.alloc [(.b false), (.sl [] .nl), (.sl [] .nl)])])
 (.seq
 (.reg [rg 10 (.load (some 3) (.t 2)), rg 11 (.call 203 [(.t 10)]), mv 9 11, rg 12 (.ext (.t 9) 0), rg 13 (.ext (.t 9) 1),
 rg 5 (.alloc [(.b false), (.sl [] .nl)]), so (.store 2 (.t 5) (.t 12)), mv 6 13])
 (.seq
 (.reg [rg 15 (.load (some 3) (.t 3)), rg 16 (.call 203 [(.t 15)]), mv 14 16, rg 17 (.ext (.t 14) 0), rg 18 (.ext (.t 14) 1),
 rg 7 (.alloc [(.b false), (.sl [] .nl)]), so (.store 2 (.t 7) (.t 17)), mv 8 18])
 (.seq
 (.reg [rg 19 (.load (some 2) (.t 5)), rg 20 (.load (some 2) (.t 7)), rg 21 (.call 27 [(.t 19), (.t 20)]), mv 22 6, mv 23 8, rg 24 (.call 60 [(.t 22), (.t 23)]),
 rg 25 (.call 202 [(.t 21), (.t 24)]), so (.store 3 (.t 4) (.t 25))])
 (.pre (.norm false [4]) .ret)))))
def b218 : AX :=
 (.seq
 (.reg [rg 2 (.xop (.box 3) [(.t 0)]), rg 3 (.xop (.box 3) [(.t 1)]), rg 4 (.alloc [(.b false), (.sl [] .nl), (.sl [] .nl)]), rg 5 (.mov (.c (.b false)))])
 (.seq
 (.reg [rg 12 (.load (some 3) (.t 2)), rg 13 (.call 203 [(.t 12)]), mv 11 13, rg 14 (.ext (.t 11) 0), rg 15 (.ext (.t 11) 1),
 rg 6 (.alloc [(.b false), (.sl [] .nl)]), so (.store 2 (.t 6) (.t 14)), mv 7 15])
 (.seq
 (.reg [rg 17 (.load (some 3) (.t 3)), rg 18 (.call 203 [(.t 17)]), mv 16 18, rg 19 (.ext (.t 16) 0), rg 20 (.ext (.t 16) 1),
 rg 8 (.alloc [(.b false), (.sl [] .nl)]), so (.store 2 (.t 8) (.t 19)), mv 9 20])
 (.seq
 (.seq
 (.reg [rg 21 (.load (some 2) (.t 8)), rg 22 (.call 37 [(.t 21)]), rg 23 (.bin .eql (.t 22) (.c (.i .i64 0)))])
 (.cond (.t 23)
 (.seq
 (.reg [rg 24 (.call 205 [(.c (.i .i64 0))]), so (.store 3 (.t 4) (.t 24)), rg 5 (.mov (.c (.b false)))])
 (.pre (.norm false [4, 5]) .ret))
 .skip))
 (.seq
 (.reg [rg 25 (.load (some 2) (.t 6)), mv 26 9, rg 27 (.call 210 [(.t 25), (.t 26)]), rg 10 (.alloc [(.b false), (.sl [] .nl)]), so (.store 2 (.t 10) (.t 27))])
 (.seq
 (.reg [rg 28 (.fad 0 (.t 10)), rg 29 (.load none (.t 28)), rg 30 (.fad 0 (.t 8)), rg 31 (.load none (.t 30)), rg 32 (.eqb true (.t 29) (.t 31)),
 rg 33 (.fad 0 (.t 10)), so (.store 1 (.t 33) (.t 32))])
 (.seq
 (.drawT [rg 34 (.load (some 2) (.t 10)), mv 35 7, rg 36 (.fad 1 (.t 8)), rg 37 (.load none (.t 36)), rg 38 (.call 60 [(.t 35), (.t 37)])]
 [rg 39 (.call 202 [(.t 34), (.t 38)]), so (.store 3 (.t 4) (.t 39)), rg 5 (.mov (.c (.b true)))])
 (.pre (.norm false [4, 5]) .ret))))))))
class CFrac (T : Tbl) : Prop where
 h202 : T 202 = some ⟨2, 21, [.cell 4 (some 3)], b202, none, false⟩
 h203 : T 203 = some ⟨1, 13, [.cell 2 (some 2), .t 3], b203, none, false⟩
 h205 : T 205 = some ⟨1, 7, [.cell 2 (some 3)], b205, none, false⟩
 h207 : T 207 = some ⟨1, 8, [.cell 2 (some 3)], b207, none, false⟩
 h209 : T 209 = some ⟨1, 12, [.t 2], b209, none, false⟩
 h210 : T 210 = some ⟨2, 9, [.cell 4 (some 2)], b210, none, false⟩
 h211 : T 211 = some ⟨2, 26, [.t 4], b211, none, false⟩
 h212 : T 212 = some ⟨2, 9, [.t 4], b212, none, false⟩
 h215 : T 215 = some ⟨2, 30, [.cell 4 (some 3)], b215, none, false⟩
 h216 : T 216 = some ⟨2, 30, [.cell 4 (some 3)], b216, none, false⟩
 h217 : T 217 = some ⟨2, 26, [.cell 4 (some 3)], b217, none, false⟩
 h218 : T 218 = some ⟨2, 40, [.cell 4 (some 3), .t 5], b218, none, false⟩
section
variable {T : Tbl} [CFrac T] {d : Option Nat} {st : St} {xs : List AV} {ps : List Opd} {e : Env} {h : Heap} {ol : List Heap}
@[simp] theorem x202 : callX (orc T) T 202 xs d st = cP T 202 false xs d st := callX_pure CFrac.h202
theorem f202 (xs : List AV) (hn : xs.length = 2) : callF T 202 xs = retF [.cell 4 (some 3)] false (evX (orc T) T 0 b202 ⟨argEnv xs, [], 1⟩) := callF_eq CFrac.h202 hn
@[simp] theorem x203 : callX (orc T) T 203 xs d st = cP T 203 false xs d st := callX_pure CFrac.h203
theorem f203 (xs : List AV) (hn : xs.length = 1) : callF T 203 xs = retF [.cell 2 (some 2), .t 3] false (evX (orc T) T 0 b203 ⟨argEnv xs, [], 1⟩) := callF_eq CFrac.h203 hn
@[simp] theorem x205 : callX (orc T) T 205 xs d st = cP T 205 false xs d st := callX_pure CFrac.h205
@[simp] theorem y205 : opD (orc T) T (.call 205 ps) e h ol = dP T 205 false ps e := opD_call CFrac.h205
theorem f205 (xs : List AV) (hn : xs.length = 1) : callF T 205 xs = retF [.cell 2 (some 3)] false (evX (orc T) T 0 b205 ⟨argEnv xs, [], 1⟩) := callF_eq CFrac.h205 hn
@[simp] theorem x207 : callX (orc T) T 207 xs d st = cP T 207 false xs d st := callX_pure CFrac.h207
theorem f207 (xs : List AV) (hn : xs.length = 1) : callF T 207 xs = retF [.cell 2 (some 3)] false (evX (orc T) T 0 b207 ⟨argEnv xs, [], 1⟩) := callF_eq CFrac.h207 hn
@[simp] theorem x209 : callX (orc T) T 209 xs d st = cP T 209 false xs d st := callX_pure CFrac.h209
theorem f209 (xs : List AV) (hn : xs.length = 1) : callF T 209 xs = retF [.t 2] false (evX (orc T) T 0 b209 ⟨argEnv xs, [], 1⟩) := callF_eq CFrac.h209 hn
@[simp] theorem x210 : callX (orc T) T 210 xs d st = cP T 210 false xs d st := callX_pure CFrac.h210
@[simp] theorem y210 : opD (orc T) T (.call 210 ps) e h ol = dP T 210 false ps e := opD_call CFrac.h210
theorem f210 (xs : List AV) (hn : xs.length = 2) : callF T 210 xs = retF [.cell 4 (some 2)] false (evX (orc T) T 0 b210 ⟨argEnv xs, [], 1⟩) := callF_eq CFrac.h210 hn
@[simp] theorem x211 : callX (orc T) T 211 xs d st = cP T 211 false xs d st := callX_pure CFrac.h211
theorem f211 (xs : List AV) (hn : xs.length = 2) : callF T 211 xs = retF [.t 4] false (evX (orc T) T 0 b211 ⟨argEnv xs, [], 1⟩) := callF_eq CFrac.h211 hn
theorem f212 (xs : List AV) (hn : xs.length = 2) : callF T 212 xs = retF [.t 4] false (evX (orc T) T 0 b212 ⟨argEnv xs, [], 1⟩) := callF_eq CFrac.h212 hn
@[simp] theorem x215 : callX (orc T) T 215 xs d st = cP T 215 false xs d st := callX_pure CFrac.h215
@[simp] theorem y215 : opD (orc T) T (.call 215 ps) e h ol = dP T 215 false ps e := opD_call CFrac.h215
theorem f215 (xs : List AV) (hn : xs.length = 2) : callF T 215 xs = retF [.cell 4 (some 3)] false (evX (orc T) T 0 b215 ⟨argEnv xs, [], 1⟩) := callF_eq CFrac.h215 hn
@[simp] theorem x216 : callX (orc T) T 216 xs d st = cP T 216 false xs d st := callX_pure CFrac.h216
theorem f216 (xs : List AV) (hn : xs.length = 2) : callF T 216 xs = retF [.cell 4 (some 3)] false (evX (orc T) T 0 b216 ⟨argEnv xs, [], 1⟩) := callF_eq CFrac.h216 hn
@[simp] theorem x217 : callX (orc T) T 217 xs d st = cP T 217 false xs d st := callX_pure CFrac.h217
@[simp] theorem y217 : opD (orc T) T (.call 217 ps) e h ol = dP T 217 false ps e := opD_call CFrac.h217
theorem f217 (xs : List AV) (hn : xs.length = 2) : callF T 217 xs = retF [.cell 4 (some 3)] false (evX (orc T) T 0 b217 ⟨argEnv xs, [], 1⟩) := callF_eq CFrac.h217 hn
@[simp] theorem x218 : callX (orc T) T 218 xs d st = cP T 218 false xs d st := callX_pure CFrac.h218
theorem f218 (xs : List AV) (hn : xs.length = 2) : callF T 218 xs = retF [.cell 4 (some 3), .t 5] false (evX (orc T) T 0 b218 ⟨argEnv xs, [], 1⟩) := callF_eq CFrac.h218 hn
end
end Go.Ab
end

section
namespace Go.Ab
def b204 : AX :=
 (.seq
 (.reg [rg 2 (.xop (.box 2) [(.t 0)]), rg 4 (.alloc [(.b false), (.sl [] .nl), (.sl [] .nl)]), rg 5 (.mov (.c (.b false)))])
 (.seq
 (.seq
 (.reg [mv 6 1, rg 7 (.call 70 [(.t 6)])])
 (.cond (.t 7)
 (.seq
 (.reg [rg 8 (.call 205 [(.c (.i .i64 0))]), so (.store 3 (.t 4) (.t 8)), rg 5 (.mov (.c (.b false)))])
 (.pre (.norm false [4, 5]) .ret))
 .skip))
 (.seq
 (.reg [rg 9 (.load (some 2) (.t 2)), mv 10 1, rg 11 (.call 202 [(.t 9), (.t 10)]), so (.store 3 (.t 4) (.t 11)), rg 5 (.mov (.c (.b true)))])
 (.pre (.norm false [4, 5]) .ret))))
def b206 : AX :=
 (.seq
 (.reg [rg 4 (.alloc [(.b false), (.sl [] .nl), (.sl [] .nl)]), rg 5 (.mov (.c (.b false)))])
 (.seq
 (.reg [mv 6 0, rg 7 (.call 205 [(.t 6)]), mv 8 1, rg 9 (.call 205 [(.t 8)]), rg 10 (.call 218 [(.t 7), (.t 9)]), rg 11 (.ext (.t 10) 0), rg 12 (.ext (.t 10) 1),
 so (.store 3 (.t 4) (.t 11)), mv 5 12])
 (.pre (.norm false [4, 5]) .ret)))
def b214 : AX :=
 (.seq
 (.reg [rg 1 (.xop (.box 3) [(.t 0)]), rg 2 (.alloc [(.b false), (.sl [] .nl), (.sl [] .nl)])])
 (.seq
 (.reg [rg 4 (.load (some 3) (.t 1)), rg 5 (.call 207 [(.t 4)]), rg 3 (.alloc [(.b false), (.sl [] .nl), (.sl [] .nl)]), so (.store 3 (.t 3) (.t 5))])
 (.seq
 (.reg [rg 6 (.fad 0 (.t 3)), rg 7 (.fad 0 (.t 6)), so (.store 1 (.t 7) (.c (.b false)))])
 (.seq
 (.reg [rg 8 (.load (some 3) (.t 3)), so (.store 3 (.t 2) (.t 8))])
 (.pre (.norm false [2]) .ret)))))
def b222 : AX :=
 (.seq
 (.reg [rg 1 (.xop (.box 3) [(.t 0)]), rg 2 (.alloc [(.b false), (.sl [] .nl)])])
 (.seq
 (.reg [rg 9 (.load (some 3) (.t 1)), rg 10 (.call 203 [(.t 9)]), mv 8 10, rg 11 (.ext (.t 8) 0), rg 12 (.ext (.t 8) 1),
 rg 3 (.alloc [(.b false), (.sl [] .nl)]), so (.store 2 (.t 3) (.t 11)), mv 4 12])
 (.seq
 (.reg [rg 14 (.load (some 2) (.t 3)), mv 15 4, rg 16 (.build [(.b false), (.sl [] .nl)] [(1, 1, (.t 15))]), rg 17 (.call 29 [(.t 14), (.t 16)]), mv 13 17,
 rg 18 (.ext (.t 13) 0), rg 19 (.ext (.t 13) 1), rg 20 (.ext (.t 13) 2), rg 5 (.alloc [(.b false), (.sl [] .nl)]),
 rg 6 (.alloc [(.b false), (.sl [] .nl)]), so (.store 2 (.t 5) (.t 18)), so (.store 2 (.t 6) (.t 19)), mv 7 20])
 (.seq
 (.reg [rg 21 (.load (some 2) (.t 5)), so (.store 2 (.t 2) (.t 21))])
 (.pre (.norm false [2]) .ret)))))
class CFrac2 (T : Tbl) : Prop where
 h204 : T 204 = some ⟨2, 12, [.cell 4 (some 3), .t 5], b204, none, false⟩
 h206 : T 206 = some ⟨2, 13, [.cell 4 (some 3), .t 5], b206, none, false⟩
 h214 : T 214 = some ⟨1, 9, [.cell 2 (some 3)], b214, none, false⟩
 h222 : T 222 = some ⟨1, 22, [.cell 2 (some 2)], b222, none, false⟩
section
variable {T : Tbl} [CFrac2 T] {d : Option Nat} {st : St} {xs : List AV} {ps : List Opd} {e : Env} {h : Heap} {ol : List Heap}
@[simp] theorem x204 : callX (orc T) T 204 xs d st = cP T 204 false xs d st := callX_pure CFrac2.h204
@[simp] theorem y204 : opD (orc T) T (.call 204 ps) e h ol = dP T 204 false ps e := opD_call CFrac2.h204
theorem f204 (xs : List AV) (hn : xs.length = 2) : callF T 204 xs = retF [.cell 4 (some 3), .t 5] false (evX (orc T) T 0 b204 ⟨argEnv xs, [], 1⟩) := callF_eq CFrac2.h204 hn
@[simp] theorem x206 : callX (orc T) T 206 xs d st = cP T 206 false xs d st := callX_pure CFrac2.h206
theorem f206 (xs : List AV) (hn : xs.length = 2) : callF T 206 xs = retF [.cell 4 (some 3), .t 5] false (evX (orc T) T 0 b206 ⟨argEnv xs, [], 1⟩) := callF_eq CFrac2.h206 hn
@[simp] theorem x214 : callX (orc T) T 214 xs d st = cP T 214 false xs d st := callX_pure CFrac2.h214
@[simp] theorem y214 : opD (orc T) T (.call 214 ps) e h ol = dP T 214 false ps e := opD_call CFrac2.h214
theorem f214 (xs : List AV) (hn : xs.length = 1) : callF T 214 xs = retF [.cell 2 (some 3)] false (evX (orc T) T 0 b214 ⟨argEnv xs, [], 1⟩) := callF_eq CFrac2.h214 hn
@[simp] theorem y222 : opD (orc T) T (.call 222 ps) e h ol = dP T 222 false ps e := opD_call CFrac2.h222
theorem f222 (xs : List AV) (hn : xs.length = 1) : callF T 222 xs = retF [.cell 2 (some 2)] false (evX (orc T) T 0 b222 ⟨argEnv xs, [], 1⟩) := callF_eq CFrac2.h222 hn
end
end Go.Ab
end

section
namespace Go.Ab
def prim344 : List AV → Option AV
 | [.s s, .s [47, 46]] => if s.length ≤ 1000000 then some (.i .i64 (Lib.indexAny s [47, 46])) else none
 | _ => none
def prim194 : List AV → Option AV
 | [.s s, .s [c]] => some (.i .i64 (Lib.indexByte s c))
 | _ => none
def prim361 : List AV → Option AV
 | [.s s, .s [c]] => some (.i .i64 (Lib.countByte s c))
 | _ => none
def prim343 : List AV → Option AV
 | [.s [48], .i .i64 n] => if 0 ≤ n ∧ n ≤ 64 then some (.s (List.replicate n.toNat 48)) else none
 | _ => none
end Go.Ab
end

section
namespace Go.Ab
class CStr (T : Tbl) : Prop where
 h343 : T 343 = some ⟨0, 0, [], .prim prim343, none, false⟩
 h344 : T 344 = some ⟨0, 0, [], .prim prim344, none, false⟩
section
variable {T : Tbl} [CStr T] {d : Option Nat} {st : St} {xs : List AV} {ps : List Opd} {e : Env} {h : Heap} {ol : List Heap}
@[simp] theorem x343 : callX (orc T) T 343 xs d st = cP T 343 false xs d st := callX_pure CStr.h343
theorem p343 (xs : List AV) : callF T 343 xs = prim343 xs := callF_prim CStr.h343
@[simp] theorem x344 : callX (orc T) T 344 xs d st = cP T 344 false xs d st := callX_pure CStr.h344
theorem p344 (xs : List AV) : callF T 344 xs = prim344 xs := callF_prim CStr.h344
end
end Go.Ab
end

section
namespace Go.Ab
def b345 : AX :=
 (.seq
 (.reg [rg 4 (.mov (.c (.b false)))])
 (.seq
 (.reg [mv 5 0, mv 6 1, rg 7 (.call 123 [(.t 5), (.t 6)]), mv 4 7])
 (.pre (.norm false [4]) .ret)))
class CSplit (T : Tbl) : Prop where
 h345 : T 345 = some ⟨2, 8, [.t 4], b345, none, false⟩
section
variable {T : Tbl} [CSplit T] {d : Option Nat} {st : St} {xs : List AV} {ps : List Opd} {e : Env} {h : Heap} {ol : List Heap}
@[simp] theorem y345 : opD (orc T) T (.call 345 ps) e h ol = dP T 345 false ps e := opD_call CSplit.h345
theorem f345 (xs : List AV) (hn : xs.length = 2) : callF T 345 xs = retF [.t 4] false (evX (orc T) T 0 b345 ⟨argEnv xs, [], 1⟩) := callF_eq CSplit.h345 hn
end
end Go.Ab
end

section
namespace Go.Ab
def l258_0 : AX :=
 (.note
 (.seq
 (.seq
 (.reg [mv 36 8, rg 37 (.bin .geq (.t 36) (.c (.i .i64 0)))])
 (.cond (.t 37)
 .skip
 (.exit 0)))
 (.seq
 (.block 1
 (.seq
 (.reg [mv 40 7, rg 41 (.call 357 [(.t 40)]), mv 7 41])
 (.seq
 (.reg [mv 42 1, mv 43 8, rg 44 (.bin .shr (.t 42) (.t 43)), rg 45 (.bin .and (.t 44) (.c (.i .i64 1))), rg 46 (.bin .eql (.t 45) (.c (.i .i64 1)))])
 (.cond (.t 46)
 (.reg [mv 47 7, mv 48 0, rg 49 (.call 60 [(.t 47), (.t 48)]), mv 7 49])
 .skip))))
 (.reg [mv 38 8, rg 39 (.bin .sub (.t 38) (.c (.i .i64 1))), mv 8 39])))
 (.norm false [0, 1, 7, 8]))
def b258 : AX :=
 (.seq
 (.reg [rg 4 (.mov (.c (.sl [] .nl))), rg 5 (.mov (.c (.b false)))])
 (.seq
 (.reg [mv 9 0, rg 10 (.call 356 [(.t 9)]), mv 6 10])
 (.seq
 (.seq
 (.reg [mv 11 1, rg 12 (.bin .lss (.t 11) (.c (.i .i64 0))), mv 13 12, gd 14 13 false (.mov (.t 6)), gd 15 13 false (.bin .gtr (.t 14) (.c (.i .i64 1))),
 gd 16 13 false (.mov (.t 15)), gd 17 16 true (.mov (.t 1)), gd 18 16 true (.mov (.t 6)), gd 19 16 true (.bin .quo (.c (.i .i64 65536)) (.t 18)),
 gd 20 16 true (.bin .gtr (.t 17) (.t 19)), gd 21 13 false (.pick (.t 16) (.t 20) (.c (.b false))), rg 22 (.pick (.t 13) (.c (.b true)) (.t 21))])
 (.cond (.t 22)
 (.seq
 (.reg [rg 4 (.mov (.c (.sl [] .nl))), rg 5 (.mov (.c (.b false)))])
 (.pre (.norm false [4, 5]) .ret))
 .skip))
 (.seq
 (.reg [rg 23 (.call 72 [(.c (u64 1))]), mv 7 23])
 (.seq
 (.seq
 (.reg [mv 24 6, rg 25 (.bin .lss (.t 24) (.c (.i .i64 2)))])
 (.cond (.t 25)
 (.seq
 (.seq
 (.reg [mv 26 1, rg 27 (.bin .gtr (.t 26) (.c (.i .i64 0)))])
 (.cond (.t 27)
 (.reg [mv 28 0, rg 29 (.call 71 [(.t 28)]), mv 7 29])
 .skip))
 (.seq
 (.reg [mv 30 7, mv 4 30, rg 5 (.mov (.c (.b true)))])
 (.pre (.norm false [4, 5]) .ret)))
 .skip))
 (.seq
 (.seq
 (.reg [mv 31 1, rg 32 (.conv .u64 (.t 31)), rg 33 (.call 72 [(.t 32)]), rg 34 (.call 356 [(.t 33)]), rg 35 (.bin .sub (.t 34) (.c (.i .i64 1))), mv 8 35])
 (.lp 0 (.norm false [0, 1, 7, 8]) l258_0 (.norm false [7])))
 (.seq
 (.reg [mv 50 7, mv 4 50, rg 5 (.mov (.c (.b true)))])
 (.pre (.norm false [4, 5]) .ret))))))))
def b356 : AX :=
 (.seq
 (.reg [rg 2 (.mov (.c (.i .i64 0)))])
 (.seq
 (.reg [mv 4 0, rg 5 (.call 71 [(.t 4)]), mv 0 5])
 (.seq
 (.reg [mv 6 0, rg 7 (.len (.t 6)), mv 3 7])
 (.seq
 (.seq
 (.reg [mv 8 3, rg 9 (.bin .eql (.t 8) (.c (.i .i64 0)))])
 (.cond (.t 9)
 (.seq
 (.reg [rg 2 (.mov (.c (.i .i64 0)))])
 (.pre (.norm false [2]) .ret))
 .skip))
 (.seq
 (.reg [mv 10 3, rg 11 (.bin .sub (.t 10) (.c (.i .i64 1))), rg 12 (.bin .mul (.c (.i .i64 32)) (.t 11)), mv 13 0, mv 14 3,
 rg 15 (.bin .sub (.t 14) (.c (.i .i64 1))), rg 16 (.iad 1 (.t 13) (.t 15)), rg 17 (.load none (.t 16)), rg 18 (.call 91 [(.t 17)]),
 rg 19 (.bin .add (.t 12) (.t 18)), mv 2 19])
 (.pre (.norm false [2]) .ret))))))
def l357_0 : AX :=
 (.note
 (.seq
 (.reg [rg 18 (.bin .lss (.t 17) (.t 16))])
 (.seq
 (.cond (.t 18)
 .skip
 (.exit 0))
 (.seq
 (.block 1
 (.seq
 (.reg [mv 19 17, rg 20 (.iad 1 (.t 15) (.t 17)), rg 21 (.load none (.t 20)), mv 4 19, mv 5 21])
 (.reg [mv 22 3, mv 23 4, rg 24 (.bin .mul (.c (.i .i64 2)) (.t 23)), rg 25 (.bin .add (.t 24) (.c (.i .i64 1))), mv 26 0, mv 27 4,
 rg 28 (.bin .add (.t 27) (.c (.i .i64 1))), rg 29 (.slc 1 (.t 26) (some (.t 28)) none none), mv 30 5,
 rg 31 (.call 89 [(.t 22), (.t 25), (.t 29), (.t 30), (.c (u32 0))])])))
 (.reg [rg 32 (.bin .add (.t 17) (.c (.i .i64 1))), mv 17 32]))))
 (.norm false [0, 3, 15, 16, 17]))
def l357_1 : AX :=
 (.note
 (.seq
 (.reg [rg 42 (.bin .lss (.t 41) (.t 40))])
 (.seq
 (.cond (.t 42)
 .skip
 (.exit 2))
 (.seq
 (.block 3
 (.seq
 (.reg [mv 43 41, rg 44 (.iad 1 (.t 39) (.t 41)), rg 45 (.load none (.t 44)), mv 8 43, mv 9 45])
 (.reg [mv 47 7, mv 48 8, rg 49 (.bin .mul (.c (.i .i64 2)) (.t 48)), rg 50 (.bin .add (.t 49) (.c (.i .i64 1))), mv 51 7, mv 52 8,
 rg 53 (.bin .mul (.c (.i .i64 2)) (.t 52)), mv 54 9, mv 55 9, rg 56 (.call 117 [(.t 54), (.t 55), (.c (u32 0)), (.c (u32 0))]), mv 46 56,
 rg 57 (.ext (.t 46) 0), rg 58 (.ext (.t 46) 1), rg 59 (.iad 1 (.t 47) (.t 50)), so (.store 1 (.t 59) (.t 57)), rg 60 (.iad 1 (.t 51) (.t 53)),
 so (.store 1 (.t 60) (.t 58))])))
 (.reg [rg 61 (.bin .add (.t 41) (.c (.i .i64 1))), mv 41 61]))))
 (.norm false [6, 7, 39, 40, 41]))
def b357 : AX :=
 (.seq
 (.reg [rg 2 (.mov (.c (.sl [] .nl)))])
 (.seq
 (.reg [mv 10 0, rg 11 (.len (.t 10)), rg 12 (.bin .mul (.c (.i .i64 2)) (.t 11)), rg 13 (.bin .add (.t 12) (.c (.i .i64 1))),
 rg 14 (.mks 1 [(u32 0)] (.t 13) (.t 13)), mv 3 14])
 (.seq
 (.seq
 (.reg [mv 15 0, rg 16 (.len (.t 15)), rg 17 (.mov (.c (.i .i64 0)))])
 (.lp 0 (.norm false [0, 3, 15, 16, 17]) l357_0 (.norm false [0, 3])))
 (.seq
 (.reg [mv 33 3, rg 34 (.call 92 [(.t 33), (.c (.i .i64 1))]), mv 6 34])
 (.seq
 (.reg [mv 35 0, rg 36 (.len (.t 35)), rg 37 (.bin .mul (.c (.i .i64 2)) (.t 36)), rg 38 (.mks 1 [(u32 0)] (.t 37) (.t 37)), mv 7 38])
 (.seq
 (.seq
 (.reg [mv 39 0, rg 40 (.len (.t 39)), rg 41 (.mov (.c (.i .i64 0)))])
 (.lp 2 (.norm false [6, 7, 39, 40, 41]) l357_1 (.norm false [6, 7])))
 (.seq
 (.reg [mv 62 6, mv 63 7, rg 64 (.bsl 1 [(.sl [] .nl)] 2 [(0, (.t 62)), (1, (.t 63))]), rg 65 (.call 56 [(.t 64)]), mv 2 65])
 (.pre (.norm false [2]) .ret))))))))
class CPow (T : Tbl) : Prop where
 h258 : T 258 = some ⟨2, 51, [.t 4, .t 5], b258, none, false⟩
 h356 : T 356 = some ⟨1, 20, [.t 2], b356, none, false⟩
 h357 : T 357 = some ⟨1, 66, [.t 2], b357, none, false⟩
section
variable {T : Tbl} [CPow T] {d : Option Nat} {st : St} {xs : List AV} {ps : List Opd} {e : Env} {h : Heap} {ol : List Heap}
@[simp] theorem x258 : callX (orc T) T 258 xs d st = cP T 258 false xs d st := callX_pure CPow.h258
theorem f258 (xs : List AV) (hn : xs.length = 2) : callF T 258 xs = retF [.t 4, .t 5] false (evX (orc T) T 0 b258 ⟨argEnv xs, [], 1⟩) := callF_eq CPow.h258 hn
@[simp] theorem x356 : callX (orc T) T 356 xs d st = cP T 356 false xs d st := callX_pure CPow.h356
theorem f356 (xs : List AV) (hn : xs.length = 1) : callF T 356 xs = retF [.t 2] false (evX (orc T) T 0 b356 ⟨argEnv xs, [], 1⟩) := callF_eq CPow.h356 hn
@[simp] theorem x357 : callX (orc T) T 357 xs d st = cP T 357 false xs d st := callX_pure CPow.h357
theorem f357 (xs : List AV) (hn : xs.length = 1) : callF T 357 xs = retF [.t 2] false (evX (orc T) T 0 b357 ⟨argEnv xs, [], 1⟩) := callF_eq CPow.h357 hn
end
end Go.Ab
end

section
namespace Go.Ab
def b252 : AX :=
 (.seq
 (.reg [rg 2 (.mov (.c (.sl [] .nl)))])
 (.seq
 (.reg [rg 6 (.call 72 [(.c (u64 10))]), mv 7 0, rg 8 (.call 258 [(.t 6), (.t 7)]), mv 5 8, rg 9 (.ext (.t 5) 0), rg 10 (.ext (.t 5) 1), mv 3 9, mv 4 10])
 (.seq
 (.reg [mv 11 3, mv 2 11])
 (.pre (.norm false [2]) .ret))))
def b253 : AX :=
 (.seq
 (.reg [rg 4 (.mov (.c (.sl [] .nl))), rg 5 (.alloc [(.i .i64 0), (.i .i64 0), (.i .i64 0), (.i .i64 0)])])
 (.seq
 (.reg [mv 9 0, mv 10 1, rg 11 (.slstr (.t 9) (some (.t 10)) none), rg 12 (.call 65 [(.t 11)]), mv 8 12, rg 13 (.ext (.t 8) 0), rg 14 (.ext (.t 8) 1),
 rg 7 (.alloc [(.i .i64 0), (.i .i64 0), (.i .i64 0), (.i .i64 0)]), mv 6 13, so (.store 4 (.t 7) (.t 14))])
 (.seq
 (.seq
 (.reg [rg 15 (.load (some 4) (.t 7)), rg 16 (.build [(.i .i64 0), (.i .i64 0), (.i .i64 0), (.i .i64 0)] []),
 rg 17 (.eqs true [(0, .int), (1, .int), (2, .int), (3, .int)] (.t 15) (.t 16))])
 (.cond (.t 17)
 (.reg [rg 18 (.fad 3 (.t 7)), rg 19 (.load none (.t 18)), mv 20 1, rg 21 (.bin .add (.t 19) (.t 20)), rg 22 (.fad 3 (.t 7)), so (.store 1 (.t 22) (.t 21))])
 .skip))
 (.seq
 (.drawT [mv 23 6, rg 24 (.load (some 4) (.t 7)), mv 4 23]
 [so (.store 4 (.t 5) (.t 24))])
 (.pre (.norm false [4, 5]) .ret)))))
def b254 : AX :=
 (.seq
 (.reg [rg 3 (.xop (.box 2) [(.t 0)]), rg 6 (.alloc [(.b false), (.sl [] .nl), (.sl [] .nl)]),
 rg 7 (.alloc [(.i .i64 0), (.i .i64 0), (.i .i64 0), (.i .i64 0)])])
 (.seq
 (.reg [mv 13 1, mv 14 2, rg 15 (.call 253 [(.t 13), (.t 14)]), mv 12 15, rg 16 (.ext (.t 12) 0), rg 17 (.ext (.t 12) 1),
 rg 9 (.alloc [(.i .i64 0), (.i .i64 0), (.i .i64 0), (.i .i64 0)]), mv 8 16, so (.store 4 (.t 9) (.t 17))])
 (.seq
 (.seq
 (.reg [rg 18 (.load (some 4) (.t 9)), rg 19 (.build [(.i .i64 0), (.i .i64 0), (.i .i64 0), (.i .i64 0)] []),
 rg 20 (.eqs true [(0, .int), (1, .int), (2, .int), (3, .int)] (.t 18) (.t 19))])
 (.cond (.t 20)
 (.seq
 (.draw [⟨rg 21 (.call 205 [(.c (.i .i64 0))]), 0, 0⟩, ⟨rg 22 (.load (some 4) (.t 9)), 0, 1⟩, ⟨so (.store 3 (.t 6) (.t 21)), 0, 1⟩,
 ⟨so (.store 4 (.t 7) (.t 22)), 1, 2⟩])
 (.pre (.norm false [6, 7]) .ret))
 .skip))
 (.seq
 (.reg [rg 24 (.load (some 2) (.t 3)), mv 25 8, rg 26 (.call 204 [(.t 24), (.t 25)]), mv 23 26, rg 27 (.ext (.t 23) 0), rg 28 (.ext (.t 23) 1),
 rg 10 (.alloc [(.b false), (.sl [] .nl), (.sl [] .nl)]), so (.store 3 (.t 10) (.t 27)), mv 11 28])
 (.seq
 (.seq
 (.reg [mv 29 11, rg 30 (.un .not (.t 29))])
 (.cond (.t 30)
 (.seq
 (.reg [rg 31 (.load (some 3) (.t 10)), mv 32 2, rg 33 (.build [(.i .i64 0), (.i .i64 0), (.i .i64 0), (.i .i64 0)] [(0, 1, (.c (.i .i64 2))), (3, 1, (.t 32))]),
 so (.store 3 (.t 6) (.t 31)), so (.store 4 (.t 7) (.t 33))])
 (.pre (.norm false [6, 7]) .ret))
 .skip))
 (.seq
 (.reg [rg 34 (.load (some 3) (.t 10)), rg 35 (.build [(.i .i64 0), (.i .i64 0), (.i .i64 0), (.i .i64 0)] []), so (.store 3 (.t 6) (.t 34)),
 so (.store 4 (.t 7) (.t 35))])
 (.pre (.norm false [6, 7]) .ret)))))))
def b255 : AX :=
 (.seq
 (.reg [rg 4 (.xop (.box 2) [(.t 0)]), rg 8 (.alloc [(.b false), (.sl [] .nl), (.sl [] .nl)]),
 rg 9 (.alloc [(.i .i64 0), (.i .i64 0), (.i .i64 0), (.i .i64 0)])])
 (.seq
 (.reg [mv 17 2, mv 18 3, rg 19 (.call 253 [(.t 17), (.t 18)]), mv 16 19, rg 20 (.ext (.t 16) 0), rg 21 (.ext (.t 16) 1),
 rg 11 (.alloc [(.i .i64 0), (.i .i64 0), (.i .i64 0), (.i .i64 0)]), mv 10 20, so (.store 4 (.t 11) (.t 21))])
 (.seq
 (.seq
 (.reg [rg 22 (.load (some 4) (.t 11)), rg 23 (.build [(.i .i64 0), (.i .i64 0), (.i .i64 0), (.i .i64 0)] []),
 rg 24 (.eqs true [(0, .int), (1, .int), (2, .int), (3, .int)] (.t 22) (.t 23))])
 (.cond (.t 24)
 (.seq
 (.draw [⟨rg 25 (.call 205 [(.c (.i .i64 0))]), 0, 0⟩, ⟨rg 26 (.load (some 4) (.t 11)), 0, 1⟩, ⟨so (.store 3 (.t 8) (.t 25)), 0, 1⟩,
 ⟨so (.store 4 (.t 9) (.t 26)), 1, 2⟩])
 (.pre (.norm false [8, 9]) .ret))
 .skip))
 (.seq
 (.reg [mv 27 2, rg 28 (.lens (.t 27)), mv 29 3, rg 30 (.bin .sub (.t 28) (.t 29)), rg 31 (.call 252 [(.t 30)]), mv 12 31])
 (.seq
 (.reg [rg 32 (.fad 1 (.t 4)), rg 33 (.load none (.t 32)), mv 34 12, rg 35 (.call 60 [(.t 33), (.t 34)]), mv 36 10,
 rg 37 (.bsl 1 [(.sl [] .nl)] 2 [(0, (.t 35)), (1, (.t 36))]), rg 38 (.call 56 [(.t 37)]), mv 13 38])
 (.seq
 (.reg [mv 40 1, mv 41 13, rg 42 (.build [(.b false), (.sl [] .nl)] [(0, 1, (.t 40)), (1, 1, (.t 41))]), mv 43 12, rg 44 (.call 204 [(.t 42), (.t 43)]),
 mv 39 44, rg 45 (.ext (.t 39) 0), rg 46 (.ext (.t 39) 1), rg 14 (.alloc [(.b false), (.sl [] .nl), (.sl [] .nl)]), so (.store 3 (.t 14) (.t 45)),
 mv 15 46])
 (.seq
 (.reg [rg 47 (.load (some 3) (.t 14)), rg 48 (.build [(.i .i64 0), (.i .i64 0), (.i .i64 0), (.i .i64 0)] []), so (.store 3 (.t 8) (.t 47)),
 so (.store 4 (.t 9) (.t 48))])
 (.pre (.norm false [8, 9]) .ret))))))))
def b256 : AX :=
 (.seq
 (.reg [rg 2 (.alloc [(.b false), (.sl [] .nl), (.sl [] .nl)]), rg 3 (.alloc [(.i .i64 0), (.i .i64 0), (.i .i64 0), (.i .i64 0)])])
 (.seq
 (.reg [mv 10 0, rg 11 (.call 344 [(.t 10), (.c (.s [47, 46]))]), mv 4 11])
 (.seq
 (.reg [mv 12 0, mv 5 12])
 (.seq
 (.seq
 (.reg [mv 13 4, rg 14 (.bin .geq (.t 13) (.c (.i .i64 0)))])
 (.cond (.t 14)
 (.reg [mv 15 0, mv 16 4, rg 17 (.slstr (.t 15) none (some (.t 16))), mv 5 17])
 .skip))
 (.seq
 (.reg [mv 19 5, rg 20 (.call 32 [(.t 19)]), mv 18 20, rg 21 (.ext (.t 18) 0), rg 22 (.ext (.t 18) 1), rg 6 (.alloc [(.b false), (.sl [] .nl)]),
 rg 7 (.alloc [(.i .i64 0), (.i .i64 0), (.i .i64 0), (.i .i64 0)]), so (.store 2 (.t 6) (.t 21)), so (.store 4 (.t 7) (.t 22))])
 (.seq
 (.block 0
 (.seq
 (.reg [rg 24 (.load (some 4) (.t 7)), rg 25 (.build [(.i .i64 0), (.i .i64 0), (.i .i64 0), (.i .i64 0)] []),
 rg 26 (.eqs true [(0, .int), (1, .int), (2, .int), (3, .int)] (.t 24) (.t 25)), mv 23 26])
 (.cond (.t 23)
 (.seq
 (.draw [⟨rg 27 (.call 205 [(.c (.i .i64 0))]), 0, 0⟩, ⟨rg 28 (.load (some 4) (.t 7)), 0, 1⟩, ⟨so (.store 3 (.t 2) (.t 27)), 0, 1⟩,
 ⟨so (.store 4 (.t 3) (.t 28)), 1, 2⟩])
 (.pre (.norm false [2, 3]) .ret))
 (.seq
 (.reg [mv 30 4, rg 31 (.bin .lss (.t 30) (.c (.i .i64 0))), mv 29 31])
 (.cond (.t 29)
 (.seq
 (.draw [⟨rg 33 (.load (some 2) (.t 6)), 0, 1⟩, ⟨rg 34 (.call 72 [(.c (u64 1))]), 0, 1⟩, ⟨rg 35 (.call 204 [(.t 33), (.t 34)]), 0, 1⟩, ⟨mv 32 35, 0, 1⟩,
 ⟨rg 36 (.ext (.t 32) 0), 0, 1⟩, ⟨rg 37 (.ext (.t 32) 1), 0, 2⟩, ⟨rg 8 (.alloc [(.b false), (.sl [] .nl), (.sl [] .nl)]), 0, 1⟩,
 ⟨so (.store 3 (.t 8) (.t 36)), 1, 2⟩, ⟨mv 9 37, 2, 2⟩])
 (.seq
 (.reg [rg 38 (.load (some 3) (.t 8)), rg 39 (.build [(.i .i64 0), (.i .i64 0), (.i .i64 0), (.i .i64 0)] []), so (.store 3 (.t 2) (.t 38)),
 so (.store 4 (.t 3) (.t 39))])
 (.pre (.norm false [2, 3]) .ret)))
 (.seq
 (.reg [mv 41 0, mv 42 4, rg 43 (.ixs (.t 41) (.t 42)), rg 44 (.bin .eql (.t 43) (.c (u8 47))), mv 40 44])
 (.cond (.t 40)
 (.seq
 (.reg [rg 45 (.load (some 2) (.t 6)), mv 46 0, mv 47 4, rg 48 (.bin .add (.t 47) (.c (.i .i64 1))), rg 49 (.call 254 [(.t 45), (.t 46), (.t 48)]),
 rg 50 (.ext (.t 49) 0), rg 51 (.ext (.t 49) 1), so (.store 3 (.t 2) (.t 50)), so (.store 4 (.t 3) (.t 51))])
 (.pre (.norm false [2, 3]) .ret))
 .skip)))))))
 (.seq
 (.drawT [rg 52 (.load (some 2) (.t 6)), mv 53 0, rg 54 (.call 345 [(.t 53), (.c (.s [45]))]), mv 55 0, mv 56 4, rg 57 (.bin .add (.t 56) (.c (.i .i64 1))),
 rg 58 (.call 255 [(.t 52), (.t 54), (.t 55), (.t 57)]), rg 59 (.ext (.t 58) 0), rg 60 (.ext (.t 58) 1)]
 [so (.store 3 (.t 2) (.t 59)), so (.store 4 (.t 3) (.t 60))])
 (.pre (.norm false [2, 3]) .ret))))))))
def b257 : AX :=
 (.seq
 (.reg [rg 2 (.xop (.box 3) [(.t 0)]), rg 4 (.mov (.c (.s [])))])
 (.seq
 (.reg [mv 16 1, rg 17 (.mm true [(.t 16), (.c (.i .i64 0))]), rg 18 (.mm false [(.t 17), (.c (.i .i64 60))]), mv 1 18])
 (.seq
 (.reg [mv 19 1, rg 20 (.call 252 [(.t 19)]), rg 21 (.build [(.b false), (.sl [] .nl)] [(1, 1, (.t 20))]), rg 5 (.alloc [(.b false), (.sl [] .nl)]),
 so (.store 2 (.t 5) (.t 21))])
 (.seq
 (.draw [⟨rg 23 (.load (some 2) (.t 5)), 0, 1⟩, ⟨rg 24 (.call 72 [(.c (u64 1))]), 0, 1⟩, ⟨rg 25 (.call 204 [(.t 23), (.t 24)]), 0, 1⟩, ⟨mv 22 25, 0, 1⟩,
 ⟨rg 26 (.ext (.t 22) 0), 0, 1⟩, ⟨rg 27 (.ext (.t 22) 1), 0, 2⟩, ⟨rg 6 (.alloc [(.b false), (.sl [] .nl), (.sl [] .nl)]), 0, 1⟩,
 ⟨so (.store 3 (.t 6) (.t 26)), 1, 2⟩, ⟨mv 7 27, 2, 2⟩])
 (.seq
 (.reg [rg 29 (.call 206 [(.c (.i .i64 1)), (.c (.i .i64 2))]), mv 28 29, rg 30 (.ext (.t 28) 0), rg 31 (.ext (.t 28) 1),
 rg 8 (.alloc [(.b false), (.sl [] .nl), (.sl [] .nl)]), so (.store 3 (.t 8) (.t 30)), mv 9 31])
 (.seq
 (.draw [⟨rg 32 (.load (some 3) (.t 2)), 0, 1⟩, ⟨rg 33 (.call 214 [(.t 32)]), 0, 1⟩, ⟨rg 34 (.load (some 3) (.t 6)), 0, 1⟩,
 ⟨rg 35 (.call 217 [(.t 33), (.t 34)]), 0, 1⟩, ⟨rg 36 (.load (some 3) (.t 8)), 0, 1⟩, ⟨rg 37 (.call 215 [(.t 35), (.t 36)]), 0, 1⟩,
 ⟨rg 38 (.call 222 [(.t 37)]), 0, 1⟩, ⟨rg 10 (.alloc [(.b false), (.sl [] .nl)]), 0, 1⟩, ⟨so (.store 2 (.t 10) (.t 38)), 1, 2⟩])
 (.seq
 (.reg [rg 40 (.load (some 2) (.t 10)), rg 41 (.load (some 2) (.t 5)), rg 42 (.call 29 [(.t 40), (.t 41)]), mv 39 42, rg 43 (.ext (.t 39) 0),
 rg 44 (.ext (.t 39) 1), rg 45 (.ext (.t 39) 2), rg 11 (.alloc [(.b false), (.sl [] .nl)]), rg 12 (.alloc [(.b false), (.sl [] .nl)]),
 so (.store 2 (.t 11) (.t 43)), so (.store 2 (.t 12) (.t 44)), mv 13 45])
 (.seq
 (.reg [rg 46 (.load (some 2) (.t 11)), rg 47 (.call 34 [(.t 46)]), mv 14 47])
 (.seq
 (.seq
 (.reg [mv 48 1, rg 49 (.bin .gtr (.t 48) (.c (.i .i64 0)))])
 (.cond (.t 49)
 (.seq
 (.reg [rg 50 (.load (some 2) (.t 12)), rg 51 (.call 34 [(.t 50)]), mv 15 51])
 (.reg [mv 52 14, mv 53 1, mv 54 15, rg 55 (.lens (.t 54)), rg 56 (.bin .sub (.t 53) (.t 55)), rg 57 (.call 343 [(.c (.s [48])), (.t 56)]),
 rg 58 (.bin .add (.c (.s [46])) (.t 57)), mv 59 15, rg 60 (.bin .add (.t 58) (.t 59)), rg 61 (.bin .add (.t 52) (.t 60)), mv 14 61]))
 .skip))
 (.seq
 (.seq
 (.reg [rg 62 (.load (some 3) (.t 2)), rg 63 (.call 209 [(.t 62)]), rg 64 (.bin .lss (.t 63) (.c (.i .i64 0))), mv 65 64, gd 66 65 true (.load (some 2) (.t 10)),
 gd 67 65 true (.call 37 [(.t 66)]), gd 68 65 true (.bin .neq (.t 67) (.c (.i .i64 0))), rg 69 (.pick (.t 65) (.t 68) (.c (.b false)))])
 (.cond (.t 69)
 (.reg [mv 70 14, rg 71 (.bin .add (.c (.s [45])) (.t 70)), mv 14 71])
 .skip))
 (.seq
 (.reg [mv 72 14, mv 4 72])
 (.pre (.norm false [4]) .ret))))))))))))
class CFig (T : Tbl) : Prop where
 h252 : T 252 = some ⟨1, 12, [.t 2], b252, none, false⟩
 h253 : T 253 = some ⟨2, 25, [.t 4, .cell 5 (some 4)], b253, none, false⟩
 h254 : T 254 = some ⟨3, 36, [.cell 6 (some 3), .cell 7 (some 4)], b254, none, false⟩
 h255 : T 255 = some ⟨4, 49, [.cell 8 (some 3), .cell 9 (some 4)], b255, none, false⟩
 h256 : T 256 = some ⟨1, 61, [.cell 2 (some 3), .cell 3 (some 4)], b256, none, false⟩
 h257 : T 257 = some ⟨2, 73, [.t 4], b257, none, false⟩
section
variable {T : Tbl} [CFig T] {d : Option Nat} {st : St} {xs : List AV} {ps : List Opd} {e : Env} {h : Heap} {ol : List Heap}
@[simp] theorem x252 : callX (orc T) T 252 xs d st = cP T 252 false xs d st := callX_pure CFig.h252
theorem f252 (xs : List AV) (hn : xs.length = 1) : callF T 252 xs = retF [.t 2] false (evX (orc T) T 0 b252 ⟨argEnv xs, [], 1⟩) := callF_eq CFig.h252 hn
@[simp] theorem x253 : callX (orc T) T 253 xs d st = cP T 253 false xs d st := callX_pure CFig.h253
theorem f253 (xs : List AV) (hn : xs.length = 2) : callF T 253 xs = retF [.t 4, .cell 5 (some 4)] false (evX (orc T) T 0 b253 ⟨argEnv xs, [], 1⟩) := callF_eq CFig.h253 hn
@[simp] theorem x254 : callX (orc T) T 254 xs d st = cP T 254 false xs d st := callX_pure CFig.h254
theorem f254 (xs : List AV) (hn : xs.length = 3) : callF T 254 xs = retF [.cell 6 (some 3), .cell 7 (some 4)] false (evX (orc T) T 0 b254 ⟨argEnv xs, [], 1⟩) := callF_eq CFig.h254 hn
@[simp] theorem y255 : opD (orc T) T (.call 255 ps) e h ol = dP T 255 false ps e := opD_call CFig.h255
theorem f255 (xs : List AV) (hn : xs.length = 4) : callF T 255 xs = retF [.cell 8 (some 3), .cell 9 (some 4)] false (evX (orc T) T 0 b255 ⟨argEnv xs, [], 1⟩) := callF_eq CFig.h255 hn
@[simp] theorem x256 : callX (orc T) T 256 xs d st = cP T 256 false xs d st := callX_pure CFig.h256
theorem f256 (xs : List AV) (hn : xs.length = 1) : callF T 256 xs = retF [.cell 2 (some 3), .cell 3 (some 4)] false (evX (orc T) T 0 b256 ⟨argEnv xs, [], 1⟩) := callF_eq CFig.h256 hn
@[simp] theorem x257 : callX (orc T) T 257 xs d st = cP T 257 false xs d st := callX_pure CFig.h257
theorem f257 (xs : List AV) (hn : xs.length = 2) : callF T 257 xs = retF [.t 4] false (evX (orc T) T 0 b257 ⟨argEnv xs, [], 1⟩) := callF_eq CFig.h257 hn
end
end Go.Ab
end

section
namespace Go.Ab
def isD (c : UInt8) : Bool := decide (48 ≤ c.toNat) && decide (c.toNat ≤ 57)
def isL (c : UInt8) : Bool := decide (97 ≤ c.toNat) && decide (c.toNat ≤ 122) || decide (65 ≤ c.toNat) && decide (c.toNat ≤ 90) || decide (c.toNat = 95)
def signB : List UInt8 := [43, 45, 42, 47, 94, 40, 41, 91, 93, 44, 59, 61]
def isS (c : UInt8) : Bool := signB.contains c
def kindN (c : UInt8) : Nat := if isD c then 1 else if isL c then 2 else if isS c then 3 else 0
def moreN (k : Nat) (c : UInt8) : Bool := decide (k = 1) && isD c || decide (k = 2) && (isL c || isD c)
def mostN (k : Nat) : Nat := if k = 1 then 60 else if k = 2 then 12 else 1
def isB (c : UInt8) : Bool := decide (c = 32) || decide (c = 9) || decide (c = 10) || decide (c = 13)
abbrev Wd := Nat × List UInt8 × Nat
def skipC : Bool → List UInt8 → Nat
 | _, [] => 0
 | note, c :: r =>
  let note' := if c = 35 then true else if c = 10 then false else note
  if (note' || isB c) = true then 1 + skipC note' r else 0
def firstN (k : Nat) (r : List UInt8) : Nat := 1 + (r.takeWhile (moreN k)).length
def scanL (l : List UInt8) (i : Nat) (acc : List Wd) : Except Nat (List Wd) :=
 match l with
 | [] => .ok acc
 | c :: r =>
  if kindN c = 0 then .error i
  else if mostN (kindN c) < firstN (kindN c) r then .error (i + mostN (kindN c))
  else scanL ((r.drop (firstN (kindN c) r - 1)).drop (skipC false (r.drop (firstN (kindN c) r - 1)))) (i + firstN (kindN c) r + skipC false (r.drop (firstN (kindN c) r - 1)))
   (acc ++ [(kindN c, (c :: r).take (firstN (kindN c) r), i)])
termination_by l.length
decreasing_by simp; omega
def stepWd (c : UInt8) (i : Nat) (acc : List Wd) : List Wd :=
 match acc.getLast? with
 | some (k, t, a) => if a + t.length = i ∧ moreN k c = true then acc.dropLast ++ [(k, t ++ [c], a)] else acc ++ [(kindN c, [c], i)]
 | none => acc ++ [(kindN c, [c], i)]
def badWd (acc : List Wd) : Bool :=
 match acc.getLast? with
 | some (k, t, _) => decide (k = 0) || decide (mostN k < t.length)
 | none => false
def refL : List UInt8 → Nat → Bool → List Wd → Except Nat (List Wd)
 | [], _, _, acc => .ok acc
 | c :: r, i, note, acc =>
  let note' := if c = 35 then true else if c = 10 then false else note
  if (note' || isB c) = true then refL r (i + 1) note' acc
  else if badWd (stepWd c i acc) = true then .error i
  else refL r (i + 1) note' (stepWd c i acc)
def Fresh (acc : List Wd) (i : Nat) (l : List UInt8) : Prop := ∀ k t a, acc.getLast? = some (k, t, a) → a + t.length = i → ∀ c r, l = c :: r → moreN k c = false
def prim187 : List AV → Option AV
 | [.i .u8 n] => if 0 ≤ n ∧ n < 256 then some (.b (isS (UInt8.ofNat n.toNat))) else none
 | _ => none
def prim184 : List AV → Option AV
 | [.s l, .s [10]] => if l.length ≤ 1000000 then some (.tup [.s (l.takeWhile (· != 10)), .s ((l.dropWhile (· != 10)).drop 1), .b (l.contains 10)]) else none
 | _ => none
def textOf : List AV → Option (List UInt8)
 | [.s l] => if l.length ≤ 10000 then some l else none
 | _ => none
def prim183 : List AV → Option AV
 | [.sl els .an, .s sep] => if els.length ≤ 1000 ∧ sep.length ≤ 100 then (els.mapM textOf).map fun ts => .s (List.intercalate sep ts) else none
 | _ => none
def rowsT (l : List (List UInt8)) : List (List AV) := l.map fun s => [.s s]
@[simp] theorem rowsT_length (l : List (List UInt8)) : (rowsT l).length = l.length := by simp [rowsT]
@[simp] theorem rowsT_wk (l : List (List UInt8)) : wkL (rowsT l) = rowsT l := by
 induction l with
 | nil => rfl
 | cons x l ih => simpa [rowsT, wkL, wkR] using ih
end Go.Ab
end

section
namespace Go.Ab
class CJoin (T : Tbl) : Prop where
end Go.Ab
end

section
namespace Go.Ab
def b251 : AX :=
 (.seq
 (.reg [rg 1 (.xop (.box 3) [(.t 0)]), rg 2 (.mov (.c (.s [])))])
 (.seq
 (.reg [rg 4 (.load (some 3) (.t 1)), rg 5 (.call 207 [(.t 4)]), so (.store 3 (.t 1) (.t 5))])
 (.seq
 (.reg [rg 6 (.fad 0 (.t 1)), rg 7 (.load (some 2) (.t 6)), rg 8 (.call 34 [(.t 7)]), mv 3 8])
 (.seq
 (.seq
 (.drawT [rg 9 (.fad 2 (.t 1)), rg 10 (.load none (.t 9)), rg 11 (.call 72 [(.c (u64 1))])]
 [rg 12 (.call 87 [(.t 10), (.t 11)]), rg 13 (.bin .neq (.t 12) (.c (.i .i64 0)))])
 (.cond (.t 13)
 (.reg [mv 14 3, rg 15 (.fad 2 (.t 1)), rg 16 (.load none (.t 15)), rg 17 (.call 68 [(.t 16)]), rg 18 (.bin .add (.c (.s [47])) (.t 17)),
 rg 19 (.bin .add (.t 14) (.t 18)), mv 3 19])
 .skip))
 (.seq
 (.reg [mv 20 3, mv 2 20])
 (.pre (.norm false [2]) .ret))))))
def l263_0 : AX :=
 (.note
 (.seq
 (.reg [rg 12 (.bin .lss (.t 11) (.t 10))])
 (.seq
 (.cond (.t 12)
 .skip
 (.exit 0))
 (.seq
 (.block 1
 (.seq
 (.reg [mv 13 11, mv 4 13])
 (.reg [mv 14 3, mv 15 4, rg 16 (.call 205 [(.c (.i .i64 0))]), rg 17 (.iad 3 (.t 14) (.t 15)), so (.store 3 (.t 17) (.t 16))])))
 (.reg [rg 18 (.bin .add (.t 11) (.c (.i .i64 1))), mv 11 18]))))
 (.norm false [3, 10, 11]))
def b263 : AX :=
 (.seq
 (.reg [rg 2 (.mov (.c (.sl [] .nl)))])
 (.seq
 (.reg [mv 5 0, rg 6 (.mm true [(.t 5), (.c (.i .i64 0))]), rg 7 (.mm false [(.t 6), (.c (.i .i64 300))]), mv 0 7])
 (.seq
 (.reg [mv 8 0, rg 9 (.mks 3 [(.b false), (.sl [] .nl), (.sl [] .nl)] (.t 8) (.t 8)), mv 3 9])
 (.seq
 (.seq
 (.reg [mv 10 0, rg 11 (.mov (.c (.i .i64 0)))])
 (.lp 0 (.norm false [3, 10, 11]) l263_0 (.norm false [3])))
 (.seq
 (.reg [mv 19 3, mv 2 19])
 (.pre (.norm false [2]) .ret))))))
def b264 : AX :=
 (.seq
 (.reg [rg 4 (.mov (.c (.sl [] .nl)))])
 (.seq
 (.reg [mv 6 0, rg 7 (.call 2263 [(.t 6)]), mv 5 7])
 (.seq
 (.seq
 (.reg [mv 8 1, rg 9 (.bin .geq (.t 8) (.c (.i .i64 0))), mv 10 9, gd 11 10 true (.mov (.t 1)), gd 12 10 true (.mov (.t 5)), gd 13 10 true (.len (.t 12)),
 gd 14 10 true (.bin .lss (.t 11) (.t 13)), rg 15 (.pick (.t 10) (.t 14) (.c (.b false)))])
 (.cond (.t 15)
 (.reg [mv 16 5, mv 17 1, rg 18 (.call 205 [(.c (.i .i64 1))]), rg 19 (.iad 3 (.t 16) (.t 17)), so (.store 3 (.t 19) (.t 18))])
 .skip))
 (.seq
 (.reg [mv 20 5, mv 4 20])
 (.pre (.norm false [4]) .ret)))))
def l266_0 : AX :=
 (.note
 (.seq
 (.reg [rg 9 (.bin .lss (.t 8) (.t 7))])
 (.seq
 (.cond (.t 9)
 .skip
 (.exit 0))
 (.seq
 (.block 1
 (.seq
 (.reg [rg 10 (.iad 3 (.t 6) (.t 8)), rg 11 (.load (some 3) (.t 10)), rg 5 (.alloc [(.b false), (.sl [] .nl), (.sl [] .nl)]), so (.store 3 (.t 5) (.t 11))])
 (.reg [mv 12 3, rg 13 (.load (some 3) (.t 5)), rg 14 (.call 207 [(.t 13)]), rg 15 (.bsl 3 [(.b false), (.sl [] .nl), (.sl [] .nl)] 1 [(0, (.t 14))]),
 rg 16 (.app 3 (.t 12) (.t 15)), mv 3 16])))
 (.reg [rg 17 (.bin .add (.t 8) (.c (.i .i64 1))), mv 8 17]))))
 (.norm false [3, 6, 7, 8]))
def b266 : AX :=
 (.seq
 (.reg [rg 2 (.mov (.c (.sl [] .nl)))])
 (.seq
 (.note (.reg [rg 3 (.mov (.c (.sl [] .nl)))]) (.nil 3 3))
 (.seq
 (.seq
 (.reg [mv 6 0, rg 7 (.len (.t 6)), rg 8 (.mov (.c (.i .i64 0)))])
 (.lp 0 (.norm false [3, 6, 7, 8]) l266_0 (.norm false [3])))
 (.seq
 (.reg [mv 18 3, mv 2 18])
 (.pre (.norm false [2]) .ret)))))
class CRow (T : Tbl) : Prop where
 h251 : T 251 = some ⟨1, 21, [.t 2], b251, none, false⟩
 h263 : T 263 = some ⟨1, 20, [.t 2], b263, none, false⟩
 h264 : T 264 = some ⟨2, 21, [.t 4], b264, none, false⟩
 h266 : T 266 = some ⟨1, 19, [.t 2], b266, none, false⟩
section
variable {T : Tbl} [CRow T] {d : Option Nat} {st : St} {xs : List AV} {ps : List Opd} {e : Env} {h : Heap} {ol : List Heap}
@[simp] theorem x251 : callX (orc T) T 251 xs d st = cP T 251 false xs d st := callX_pure CRow.h251
theorem f251 (xs : List AV) (hn : xs.length = 1) : callF T 251 xs = retF [.t 2] false (evX (orc T) T 0 b251 ⟨argEnv xs, [], 1⟩) := callF_eq CRow.h251 hn
theorem f263 (xs : List AV) (hn : xs.length = 1) : callF T 263 xs = retF [.t 2] false (evX (orc T) T 0 b263 ⟨argEnv xs, [], 1⟩) := callF_eq CRow.h263 hn
theorem f264 (xs : List AV) (hn : xs.length = 2) : callF T 264 xs = retF [.t 4] false (evX (orc T) T 0 b264 ⟨argEnv xs, [], 1⟩) := callF_eq CRow.h264 hn
theorem f266 (xs : List AV) (hn : xs.length = 1) : callF T 266 xs = retF [.t 2] false (evX (orc T) T 0 b266 ⟨argEnv xs, [], 1⟩) := callF_eq CRow.h266 hn
end
end Go.Ab
end

section
namespace Go.Ab
class CRow2 (T : Tbl) : Prop where
end Go.Ab
end

section
namespace Go.Ab
def l43_0 : AX :=
 (.note
 (.seq
 (.seq
 (.reg [⟨(some 6), none, .mov (.t 3)⟩,
 ⟨(some 7), none, .bin .gtr (.t 6) (.c (.i .i64 0))⟩,
 ⟨(some 8), none, .mov (.t 7)⟩,
 ⟨(some 9), (some (8, true)), .mov (.t 0)⟩,
 ⟨(some 10), (some (8, true)), .mov (.t 3)⟩,
 ⟨(some 11), (some (8, true)), .bin .sub (.t 10) (.c (.i .i64 1))⟩,
 ⟨(some 12), (some (8, true)), .iad 1 (.t 9) (.t 11)⟩,
 ⟨(some 13), (some (8, true)), .load none (.t 12)⟩,
 ⟨(some 14), (some (8, true)), .bin .eql (.t 13) (.c (u32 0))⟩,
 ⟨(some 15), none, .pick (.t 8) (.t 14) (.c (.b false))⟩])
 (.cond (.t 15)
 .skip
 (.exit 0)))
 (.block 1
 (.reg [⟨(some 16), none, .mov (.t 3)⟩,
 ⟨(some 17), none, .bin .sub (.t 16) (.c (.i .i64 1))⟩,
 ⟨(some 3), none, .mov (.t 17)⟩])))
 (.norm false [0, 3]))
def b43 : AX :=
 (.seq
 (.reg [⟨(some 2), none, .mov (.c (.sl [] .nl))⟩])
 (.seq
 (.reg [⟨(some 4), none, .mov (.t 0)⟩,
 ⟨(some 5), none, .len (.t 4)⟩,
 ⟨(some 3), none, .mov (.t 5)⟩])
 (.seq
 (.lp 0 (.norm false [0, 3]) l43_0 (.norm false [0, 3]))
 (.seq
 (.reg [⟨(some 18), none, .bsl 1 [(u32 0)] 0 []⟩,
 ⟨(some 19), none, .mov (.t 0)⟩,
 ⟨(some 20), none, .mov (.t 3)⟩,
 ⟨(some 21), none, .slc 1 (.t 19) none (some (.t 20)) none⟩,
 ⟨(some 22), none, .app 1 (.t 18) (.t 21)⟩,
 ⟨(some 2), none, .mov (.t 22)⟩])
 (.pre (.norm false [2]) .ret)))))
def b84 : AX :=
 (.seq
 (.reg [⟨(some 4), none, .mov (.c (u32 0))⟩])
 (.seq
 (.seq
 (.reg [⟨(some 5), none, .mov (.t 1)⟩,
 ⟨(some 6), none, .mov (.t 0)⟩,
 ⟨(some 7), none, .len (.t 6)⟩,
 ⟨(some 8), none, .bin .lss (.t 5) (.t 7)⟩])
 (.cond (.t 8)
 (.seq
 (.reg [⟨(some 9), none, .mov (.t 0)⟩,
 ⟨(some 10), none, .mov (.t 1)⟩,
 ⟨(some 11), none, .iad 1 (.t 9) (.t 10)⟩,
 ⟨(some 12), none, .load none (.t 11)⟩,
 ⟨(some 4), none, .mov (.t 12)⟩])
 (.pre (.norm false [4]) .ret))
 .skip))
 (.seq
 (.reg [⟨(some 4), none, .mov (.c (u32 0))⟩])
 (.pre (.norm false [4]) .ret))))
def l52_0 : AX :=
 (.note
 (.seq
 (.seq
 (.reg [⟨(some 14), none, .mov (.t 5)⟩,
 ⟨(some 15), none, .bin .geq (.t 14) (.c (.i .i64 0))⟩])
 (.cond (.t 15)
 .skip
 (.exit 0)))
 (.seq
 (.block 1
 (.seq
 (.reg [⟨(some 18), none, .mov (.t 0)⟩,
 ⟨(some 19), none, .mov (.t 5)⟩,
 ⟨(some 20), none, .call 84 [(.t 18), (.t 19)]⟩,
 ⟨(some 6), none, .mov (.t 20)⟩])
 (.seq
 (.reg [⟨(some 21), none, .mov (.t 1)⟩,
 ⟨(some 22), none, .mov (.t 5)⟩,
 ⟨(some 23), none, .call 84 [(.t 21), (.t 22)]⟩,
 ⟨(some 7), none, .mov (.t 23)⟩])
 (.seq
 (.seq
 (.reg [⟨(some 24), none, .mov (.t 6)⟩,
 ⟨(some 25), none, .mov (.t 7)⟩,
 ⟨(some 26), none, .bin .lss (.t 24) (.t 25)⟩])
 (.cond (.t 26)
 (.seq
 (.reg [⟨(some 4), none, .mov (.c (.i .i64 (-1)))⟩])
 (.pre (.norm false [4]) .ret))
 .skip))
 (.seq
 (.reg [⟨(some 27), none, .mov (.t 6)⟩,
 ⟨(some 28), none, .mov (.t 7)⟩,
 ⟨(some 29), none, .bin .gtr (.t 27) (.t 28)⟩])
 (.cond (.t 29)
 (.seq
 (.reg [⟨(some 4), none, .mov (.c (.i .i64 1))⟩])
 (.pre (.norm false [4]) .ret))
 .skip))))))
 (.reg [⟨(some 16), none, .mov (.t 5)⟩,
 ⟨(some 17), none, .bin .sub (.t 16) (.c (.i .i64 1))⟩,
 ⟨(some 5), none, .mov (.t 17)⟩])))
 (.norm false [0, 1, 5]))
def b52 : AX :=
 (.seq
 (.reg [⟨(some 4), none, .mov (.c (.i .i64 0))⟩])
 (.seq
 (.seq
 (.reg [⟨(some 8), none, .mov (.t 0)⟩,
 ⟨(some 9), none, .len (.t 8)⟩,
 ⟨(some 10), none, .mov (.t 1)⟩,
 ⟨(some 11), none, .len (.t 10)⟩,
 ⟨(some 12), none, .mm true [(.t 9), (.t 11)]⟩,
 ⟨(some 13), none, .bin .sub (.t 12) (.c (.i .i64 1))⟩,
 ⟨(some 5), none, .mov (.t 13)⟩])
 (.lp 0 (.norm false [0, 1, 5]) l52_0 (.norm false [])))
 (.seq
 (.reg [⟨(some 4), none, .mov (.c (.i .i64 0))⟩])
 (.pre (.norm false [4]) .ret))))
def l54_0 : AX :=
 (.note
 (.seq
 (.seq
 (.reg [⟨(some 11), none, .mov (.t 5)⟩,
 ⟨(some 12), none, .mov (.t 0)⟩,
 ⟨(some 13), none, .len (.t 12)⟩,
 ⟨(some 14), none, .bin .lss (.t 11) (.t 13)⟩])
 (.cond (.t 14)
 .skip
 (.exit 0)))
 (.seq
 (.block 1
 (.seq
 (.drawT [⟨(some 17), none, .mov (.t 0)⟩,
 ⟨(some 18), none, .mov (.t 5)⟩,
 ⟨(some 19), none, .iad 1 (.t 17) (.t 18)⟩,
 ⟨(some 20), none, .load none (.t 19)⟩,
 ⟨(some 21), none, .mov (.t 1)⟩,
 ⟨(some 22), none, .mov (.t 5)⟩,
 ⟨(some 23), none, .iad 1 (.t 21) (.t 22)⟩,
 ⟨(some 24), none, .load none (.t 23)⟩]
 [⟨(some 25), none, .bin .neq (.t 20) (.t 24)⟩])
 (.cond (.t 25)
 (.seq
 (.reg [⟨(some 4), none, .mov (.c (.b false))⟩])
 (.pre (.norm false [4]) .ret))
 .skip)))
 (.reg [⟨(some 15), none, .mov (.t 5)⟩,
 ⟨(some 16), none, .bin .add (.t 15) (.c (.i .i64 1))⟩,
 ⟨(some 5), none, .mov (.t 16)⟩])))
 (.norm false [0, 1, 5]))
def b54 : AX :=
 (.seq
 (.reg [⟨(some 4), none, .mov (.c (.b false))⟩])
 (.seq
 (.seq
 (.reg [⟨(some 6), none, .mov (.t 0)⟩,
 ⟨(some 7), none, .len (.t 6)⟩,
 ⟨(some 8), none, .mov (.t 1)⟩,
 ⟨(some 9), none, .len (.t 8)⟩,
 ⟨(some 10), none, .bin .neq (.t 7) (.t 9)⟩])
 (.cond (.t 10)
 (.seq
 (.reg [⟨(some 4), none, .mov (.c (.b false))⟩])
 (.pre (.norm false [4]) .ret))
 .skip))
 (.seq
 (.seq
 (.reg [⟨(some 5), none, .mov (.c (.i .i64 0))⟩])
 (.lp 0 (.norm false [0, 1, 5]) l54_0 (.norm false [])))
 (.seq
 (.reg [⟨(some 4), none, .mov (.c (.b true))⟩])
 (.pre (.norm false [4]) .ret)))))
def l58_0 : AX :=
 (.note
 (.seq
 (.seq
 (.reg [⟨(some 17), none, .mov (.t 8)⟩,
 ⟨(some 18), none, .mov (.t 5)⟩,
 ⟨(some 19), none, .bin .lss (.t 17) (.t 18)⟩])
 (.cond (.t 19)
 .skip
 (.exit 0)))
 (.seq
 (.block 1
 (.seq
 (.reg [⟨(some 22), none, .mov (.t 7)⟩,
 ⟨(some 23), none, .mov (.t 0)⟩,
 ⟨(some 24), none, .mov (.t 8)⟩,
 ⟨(some 25), none, .call 84 [(.t 23), (.t 24)]⟩,
 ⟨(some 26), none, .conv .u64 (.t 25)⟩,
 ⟨(some 27), none, .mov (.t 1)⟩,
 ⟨(some 28), none, .mov (.t 8)⟩,
 ⟨(some 29), none, .call 84 [(.t 27), (.t 28)]⟩,
 ⟨(some 30), none, .conv .u64 (.t 29)⟩,
 ⟨(some 31), none, .bin .add (.t 26) (.t 30)⟩,
 ⟨(some 32), none, .bin .add (.t 22) (.t 31)⟩,
 ⟨(some 7), none, .mov (.t 32)⟩])
 (.seq
 (.reg [⟨(some 33), none, .mov (.t 6)⟩,
 ⟨(some 34), none, .mov (.t 8)⟩,
 ⟨(some 35), none, .mov (.t 7)⟩,
 ⟨(some 36), none, .bin .rem (.t 35) (.c (u64 4294967296))⟩,
 ⟨(some 37), none, .conv .u32 (.t 36)⟩,
 ⟨(some 38), none, .iad 1 (.t 33) (.t 34)⟩,
 ⟨none, none, .store 1 (.t 38) (.t 37)⟩])
 (.reg [⟨(some 39), none, .mov (.t 7)⟩,
 ⟨(some 40), none, .bin .quo (.t 39) (.c (u64 4294967296))⟩,
 ⟨(some 7), none, .mov (.t 40)⟩]))))
 (.reg [⟨(some 20), none, .mov (.t 8)⟩,
 ⟨(some 21), none, .bin .add (.t 20) (.c (.i .i64 1))⟩,
 ⟨(some 8), none, .mov (.t 21)⟩])))
 (.norm false [0, 1, 5, 6, 7, 8]))
def b58 : AX :=
 (.seq
 (.reg [⟨(some 4), none, .mov (.c (.sl [] .nl))⟩])
 (.seq
 (.reg [⟨(some 9), none, .mov (.t 0)⟩,
 ⟨(some 10), none, .len (.t 9)⟩,
 ⟨(some 11), none, .mov (.t 1)⟩,
 ⟨(some 12), none, .len (.t 11)⟩,
 ⟨(some 13), none, .mm true [(.t 10), (.t 12)]⟩,
 ⟨(some 14), none, .bin .add (.t 13) (.c (.i .i64 1))⟩,
 ⟨(some 5), none, .mov (.t 14)⟩])
 (.seq
 (.reg [⟨(some 15), none, .mov (.t 5)⟩,
 ⟨(some 16), none, .mks 1 [(u32 0)] (.t 15) (.t 15)⟩,
 ⟨(some 6), none, .mov (.t 16)⟩])
 (.seq
 (.reg [⟨(some 7), none, .mov (.c (u64 0))⟩])
 (.seq
 (.seq
 (.reg [⟨(some 8), none, .mov (.c (.i .i64 0))⟩])
 (.lp 0 (.norm false [0, 1, 5, 6, 7, 8]) l58_0 (.norm false [6])))
 (.seq
 (.reg [⟨(some 41), none, .mov (.t 6)⟩,
 ⟨(some 42), none, .call 43 [(.t 41)]⟩,
 ⟨(some 4), none, .mov (.t 42)⟩])
 (.pre (.norm false [4]) .ret)))))))
class CRef02 (T : Tbl) : Prop where
 h43 : T 43 = some ⟨1, 23, [.t 2], b43, none, false⟩
 h84 : T 84 = some ⟨2, 13, [.t 4], b84, none, false⟩
 h52 : T 52 = some ⟨2, 30, [.t 4], b52, none, false⟩
 h54 : T 54 = some ⟨2, 26, [.t 4], b54, none, false⟩
 h58 : T 58 = some ⟨2, 43, [.t 4], b58, none, false⟩
end Go.Ab
end

section
namespace Go.Ab
section
variable {T : Tbl} [CRef02 T]
def atW (a : List UInt32) (i : Nat) : Nat := (a[i]?.map UInt32.toNat).getD 0
end
section
variable {T : Tbl} [CRef02 T]
def stAdd2 (a b : List UInt32) (n : Nat) (y : Nat × Nat × List UInt32) : St :=
 ⟨[(0, .sl (u32s a) .an), (1, .sl (u32s b) .an), (5, .i .i64 n), (6, .bs (.loc 16) 1 1 0 n), (7, u64 y.2.1), (8, .i .i64 y.1)], [(.loc 16, ⟨1, .own, 1, u32s y.2.2⟩)], 3⟩
def stSub2 (a b : List UInt32) (n : Nat) (y : Nat × Nat × List UInt32) : St :=
 ⟨[(0, .sl (u32s a) .an), (1, .sl (u32s b) .an), (5, .i .i64 n), (6, .bs (.loc 17) 1 1 0 n), (7, u64 y.2.1), (8, .i .i64 y.1)], [(.loc 17, ⟨1, .own, 1, u32s y.2.2⟩)], 3⟩
end
end Go.Ab
end

section
namespace Go.Ab
def l61_0 : AX :=
 (.note
 (.seq
 (.seq
 (.reg [⟨(some 21), none, .mov (.t 8)⟩,
 ⟨(some 22), none, .mov (.t 1)⟩,
 ⟨(some 23), none, .len (.t 22)⟩,
 ⟨(some 24), none, .bin .lss (.t 21) (.t 23)⟩])
 (.cond (.t 24)
 .skip
 (.exit 2)))
 (.seq
 (.block 3
 (.seq
 (.drawT [⟨(some 27), none, .mov (.t 7)⟩,
 ⟨(some 28), none, .mov (.t 0)⟩,
 ⟨(some 29), none, .mov (.t 6)⟩,
 ⟨(some 30), none, .iad 1 (.t 28) (.t 29)⟩,
 ⟨(some 31), none, .load none (.t 30)⟩,
 ⟨(some 32), none, .conv .u64 (.t 31)⟩,
 ⟨(some 33), none, .mov (.t 1)⟩,
 ⟨(some 34), none, .mov (.t 8)⟩,
 ⟨(some 35), none, .iad 1 (.t 33) (.t 34)⟩,
 ⟨(some 36), none, .load none (.t 35)⟩,
 ⟨(some 37), none, .conv .u64 (.t 36)⟩,
 ⟨(some 38), none, .bin .mul (.t 32) (.t 37)⟩,
 ⟨(some 39), none, .mov (.t 5)⟩,
 ⟨(some 40), none, .mov (.t 6)⟩,
 ⟨(some 41), none, .mov (.t 8)⟩,
 ⟨(some 42), none, .bin .add (.t 40) (.t 41)⟩,
 ⟨(some 43), none, .iad 1 (.t 39) (.t 42)⟩,
 ⟨(some 44), none, .load none (.t 43)⟩,
 ⟨(some 45), none, .conv .u64 (.t 44)⟩,
 ⟨(some 46), none, .bin .add (.t 38) (.t 45)⟩]
 [⟨(some 47), none, .bin .add (.t 27) (.t 46)⟩,
 ⟨(some 7), none, .mov (.t 47)⟩])
 (.seq
 (.reg [⟨(some 48), none, .mov (.t 5)⟩,
 ⟨(some 49), none, .mov (.t 6)⟩,
 ⟨(some 50), none, .mov (.t 8)⟩,
 ⟨(some 51), none, .bin .add (.t 49) (.t 50)⟩,
 ⟨(some 52), none, .mov (.t 7)⟩,
 ⟨(some 53), none, .bin .rem (.t 52) (.c (u64 4294967296))⟩,
 ⟨(some 54), none, .conv .u32 (.t 53)⟩,
 ⟨(some 55), none, .iad 1 (.t 48) (.t 51)⟩,
 ⟨none, none, .store 1 (.t 55) (.t 54)⟩])
 (.reg [⟨(some 56), none, .mov (.t 7)⟩,
 ⟨(some 57), none, .bin .quo (.t 56) (.c (u64 4294967296))⟩,
 ⟨(some 7), none, .mov (.t 57)⟩]))))
 (.reg [⟨(some 25), none, .mov (.t 8)⟩,
 ⟨(some 26), none, .bin .add (.t 25) (.c (.i .i64 1))⟩,
 ⟨(some 8), none, .mov (.t 26)⟩])))
 (.norm false [0, 1, 5, 6, 7, 8]))
def l61_1 : AX :=
 (.note
 (.seq
 (.seq
 (.reg [⟨(some 15), none, .mov (.t 6)⟩,
 ⟨(some 16), none, .mov (.t 0)⟩,
 ⟨(some 17), none, .len (.t 16)⟩,
 ⟨(some 18), none, .bin .lss (.t 15) (.t 17)⟩])
 (.cond (.t 18)
 .skip
 (.exit 0)))
 (.seq
 (.block 1
 (.seq
 (.reg [⟨(some 7), none, .mov (.c (u64 0))⟩])
 (.seq
 (.seq
 (.reg [⟨(some 8), none, .mov (.c (.i .i64 0))⟩])
 (.lp 2 (.norm false [0, 1, 5, 6, 7, 8]) l61_0 (.norm false [0, 1, 5, 6, 7])))
 (.reg [⟨(some 58), none, .mov (.t 5)⟩,
 ⟨(some 59), none, .mov (.t 6)⟩,
 ⟨(some 60), none, .mov (.t 1)⟩,
 ⟨(some 61), none, .len (.t 60)⟩,
 ⟨(some 62), none, .bin .add (.t 59) (.t 61)⟩,
 ⟨(some 63), none, .mov (.t 7)⟩,
 ⟨(some 64), none, .conv .u32 (.t 63)⟩,
 ⟨(some 65), none, .iad 1 (.t 58) (.t 62)⟩,
 ⟨none, none, .store 1 (.t 65) (.t 64)⟩]))))
 (.reg [⟨(some 19), none, .mov (.t 6)⟩,
 ⟨(some 20), none, .bin .add (.t 19) (.c (.i .i64 1))⟩,
 ⟨(some 6), none, .mov (.t 20)⟩])))
 (.norm false [0, 1, 5, 6]))
def b61 : AX :=
 (.seq
 (.reg [⟨(some 4), none, .mov (.c (.sl [] .nl))⟩])
 (.seq
 (.reg [⟨(some 9), none, .mov (.t 0)⟩,
 ⟨(some 10), none, .len (.t 9)⟩,
 ⟨(some 11), none, .mov (.t 1)⟩,
 ⟨(some 12), none, .len (.t 11)⟩,
 ⟨(some 13), none, .bin .add (.t 10) (.t 12)⟩,
 ⟨(some 14), none, .mks 1 [(u32 0)] (.t 13) (.t 13)⟩,
 ⟨(some 5), none, .mov (.t 14)⟩])
 (.seq
 (.seq
 (.reg [⟨(some 6), none, .mov (.c (.i .i64 0))⟩])
 (.lp 0 (.norm false [0, 1, 5, 6]) l61_1 (.norm false [5])))
 (.seq
 (.reg [⟨(some 66), none, .mov (.t 5)⟩,
 ⟨(some 67), none, .call 43 [(.t 66)]⟩,
 ⟨(some 4), none, .mov (.t 67)⟩])
 (.pre (.norm false [4]) .ret)))))
class CRef04 (T : Tbl) : Prop extends CRef02 T where
 h61 : T 61 = some ⟨2, 68, [.t 4], b61, none, false⟩
end Go.Ab
end

section
namespace Go.Ab
section
variable {T : Tbl} [CRef04 T]
def stIn4 (P S a b : List UInt32) (y : Nat × Nat × List UInt32) : St :=
 ⟨[(0, .sl (u32s a) .an), (1, .sl (u32s b) .an), (5, .bs (.loc 14) 1 1 0 (P.length + S.length)), (6, .i .i64 P.length), (7, u64 y.2.1), (8, .i .i64 y.1)], [(.loc 14, ⟨1, .own, 1, u32s (P ++ (y.2.2 ++ S.drop y.1))⟩)], 3⟩
end
section
variable {T : Tbl} [CRef04 T]
def stMul4 (a b : List UInt32) (y : Nat × List UInt32) : St :=
 ⟨[(0, .sl (u32s a) .an), (1, .sl (u32s b) .an), (5, .bs (.loc 14) 1 1 0 (a.length + b.length)), (6, .i .i64 y.1)], [(.loc 14, ⟨1, .own, 1, u32s (y.2 ++ List.replicate (a.length - y.1) 0)⟩)], 3⟩
end
end Go.Ab
end

section
namespace Go.Ab
def l122_0 : AX :=
 (.note
 (.seq
 (.seq
 (.reg [⟨(some 21), none, .mov (.t 6)⟩,
 ⟨(some 22), none, .mov (.t 1)⟩,
 ⟨(some 23), none, .bin .rem (.t 22) (.c (.i .i64 32))⟩,
 ⟨(some 24), none, .bin .lss (.t 21) (.t 23)⟩])
 (.cond (.t 24)
 .skip
 (.exit 0)))
 (.seq
 (.block 1
 (.reg [⟨(some 27), none, .mov (.t 5)⟩,
 ⟨(some 28), none, .bin .quo (.t 27) (.c (u32 2))⟩,
 ⟨(some 5), none, .mov (.t 28)⟩]))
 (.reg [⟨(some 25), none, .mov (.t 6)⟩,
 ⟨(some 26), none, .bin .add (.t 25) (.c (.i .i64 1))⟩,
 ⟨(some 6), none, .mov (.t 26)⟩])))
 (.norm false [1, 5, 6]))
def b122 : AX :=
 (.seq
 (.reg [⟨(some 4), none, .mov (.c (.b false))⟩])
 (.seq
 (.seq
 (.reg [⟨(some 7), none, .mov (.t 1)⟩,
 ⟨(some 8), none, .bin .lss (.t 7) (.c (.i .i64 0))⟩,
 ⟨(some 9), none, .mov (.t 8)⟩,
 ⟨(some 10), (some (9, false)), .mov (.t 1)⟩,
 ⟨(some 11), (some (9, false)), .bin .quo (.t 10) (.c (.i .i64 32))⟩,
 ⟨(some 12), (some (9, false)), .mov (.t 0)⟩,
 ⟨(some 13), (some (9, false)), .len (.t 12)⟩,
 ⟨(some 14), (some (9, false)), .bin .geq (.t 11) (.t 13)⟩,
 ⟨(some 15), none, .pick (.t 9) (.c (.b true)) (.t 14)⟩])
 (.cond (.t 15)
 (.seq
 (.reg [⟨(some 4), none, .mov (.c (.b false))⟩])
 (.pre (.norm false [4]) .ret))
 .skip))
 (.seq
 (.reg [⟨(some 16), none, .mov (.t 0)⟩,
 ⟨(some 17), none, .mov (.t 1)⟩,
 ⟨(some 18), none, .bin .quo (.t 17) (.c (.i .i64 32))⟩,
 ⟨(some 19), none, .iad 1 (.t 16) (.t 18)⟩,
 ⟨(some 20), none, .load none (.t 19)⟩,
 ⟨(some 5), none, .mov (.t 20)⟩])
 (.seq
 (.seq
 (.reg [⟨(some 6), none, .mov (.c (.i .i64 0))⟩])
 (.lp 0 (.norm false [1, 5, 6]) l122_0 (.norm false [5])))
 (.seq
 (.reg [⟨(some 29), none, .mov (.t 5)⟩,
 ⟨(some 30), none, .bin .rem (.t 29) (.c (u32 2))⟩,
 ⟨(some 31), none, .bin .eql (.t 30) (.c (u32 1))⟩,
 ⟨(some 4), none, .mov (.t 31)⟩])
 (.pre (.norm false [4]) .ret))))))
def l95_0 : AX :=
 (.note
 (.seq
 (.seq
 (.reg [⟨(some 7), none, .mov (.t 3)⟩,
 ⟨(some 8), none, .bin .gtr (.t 7) (.c (.i .i64 0))⟩,
 ⟨(some 9), none, .mov (.t 8)⟩,
 ⟨(some 10), (some (9, true)), .mov (.t 0)⟩,
 ⟨(some 11), (some (9, true)), .mov (.t 3)⟩,
 ⟨(some 12), (some (9, true)), .bin .sub (.t 11) (.c (.i .i64 1))⟩,
 ⟨(some 13), (some (9, true)), .call 122 [(.t 10), (.t 12)]⟩,
 ⟨(some 14), (some (9, true)), .un .not (.t 13)⟩,
 ⟨(some 15), none, .pick (.t 9) (.t 14) (.c (.b false))⟩])
 (.cond (.t 15)
 .skip
 (.exit 0)))
 (.block 1
 (.reg [⟨(some 16), none, .mov (.t 3)⟩,
 ⟨(some 17), none, .bin .sub (.t 16) (.c (.i .i64 1))⟩,
 ⟨(some 3), none, .mov (.t 17)⟩])))
 (.norm false [0, 3]))
def b95 : AX :=
 (.seq
 (.reg [⟨(some 2), none, .mov (.c (.i .i64 0))⟩])
 (.seq
 (.reg [⟨(some 4), none, .mov (.t 0)⟩,
 ⟨(some 5), none, .len (.t 4)⟩,
 ⟨(some 6), none, .bin .mul (.c (.i .i64 32)) (.t 5)⟩,
 ⟨(some 3), none, .mov (.t 6)⟩])
 (.seq
 (.lp 0 (.norm false [0, 3]) l95_0 (.norm false [3]))
 (.seq
 (.reg [⟨(some 18), none, .mov (.t 3)⟩,
 ⟨(some 2), none, .mov (.t 18)⟩])
 (.pre (.norm false [2]) .ret)))))
def l96_0 : AX :=
 (.note
 (.seq
 (.seq
 (.reg [⟨(some 8), none, .mov (.t 5)⟩,
 ⟨(some 9), none, .mov (.t 0)⟩,
 ⟨(some 10), none, .len (.t 9)⟩,
 ⟨(some 11), none, .bin .lss (.t 8) (.t 10)⟩])
 (.cond (.t 11)
 .skip
 (.exit 0)))
 (.seq
 (.block 1
 (.seq
 (.reg [⟨(some 14), none, .mov (.t 0)⟩,
 ⟨(some 15), none, .mov (.t 5)⟩,
 ⟨(some 16), none, .iad 1 (.t 14) (.t 15)⟩,
 ⟨(some 17), none, .load none (.t 16)⟩,
 ⟨(some 18), none, .bin .quo (.t 17) (.c (u32 2147483648))⟩,
 ⟨(some 6), none, .mov (.t 18)⟩])
 (.seq
 (.reg [⟨(some 19), none, .mov (.t 0)⟩,
 ⟨(some 20), none, .mov (.t 5)⟩,
 ⟨(some 21), none, .mov (.t 0)⟩,
 ⟨(some 22), none, .mov (.t 5)⟩,
 ⟨(some 23), none, .iad 1 (.t 21) (.t 22)⟩,
 ⟨(some 24), none, .load none (.t 23)⟩,
 ⟨(some 25), none, .bin .mul (.t 24) (.c (u32 2))⟩,
 ⟨(some 26), none, .mov (.t 4)⟩,
 ⟨(some 27), none, .bin .add (.t 25) (.t 26)⟩,
 ⟨(some 28), none, .iad 1 (.t 19) (.t 20)⟩,
 ⟨none, none, .store 1 (.t 28) (.t 27)⟩])
 (.reg [⟨(some 29), none, .mov (.t 6)⟩,
 ⟨(some 4), none, .mov (.t 29)⟩]))))
 (.reg [⟨(some 12), none, .mov (.t 5)⟩,
 ⟨(some 13), none, .bin .add (.t 12) (.c (.i .i64 1))⟩,
 ⟨(some 5), none, .mov (.t 13)⟩])))
 (.norm false [0, 4, 5]))
def b96 : AX :=
 (.seq
 (.reg [⟨(some 4), none, .mov (.c (u32 0))⟩])
 (.seq
 (.seq
 (.reg [⟨(some 7), none, .mov (.t 1)⟩])
 (.cond (.t 7)
 (.reg [⟨(some 4), none, .mov (.c (u32 1))⟩])
 .skip))
 (.seq
 (.reg [⟨(some 5), none, .mov (.c (.i .i64 0))⟩])
 (.lp 0 (.norm false [0, 4, 5]) l96_0 (.norm false [])))))
def l97_0 : AX :=
 (.note
 (.seq
 (.seq
 (.reg [⟨(some 8), none, .mov (.t 5)⟩,
 ⟨(some 9), none, .mov (.t 0)⟩,
 ⟨(some 10), none, .len (.t 9)⟩,
 ⟨(some 11), none, .bin .lss (.t 8) (.t 10)⟩])
 (.cond (.t 11)
 .skip
 (.exit 0)))
 (.seq
 (.block 1
 (.seq
 (.reg [⟨(some 14), none, .mov (.t 0)⟩,
 ⟨(some 15), none, .mov (.t 5)⟩,
 ⟨(some 16), none, .iad 1 (.t 14) (.t 15)⟩,
 ⟨(some 17), none, .load none (.t 16)⟩,
 ⟨(some 18), none, .conv .u64 (.t 17)⟩,
 ⟨(some 6), none, .mov (.t 18)⟩])
 (.seq
 (.reg [⟨(some 19), none, .mov (.t 1)⟩,
 ⟨(some 20), none, .mov (.t 5)⟩,
 ⟨(some 21), none, .call 84 [(.t 19), (.t 20)]⟩,
 ⟨(some 22), none, .conv .u64 (.t 21)⟩,
 ⟨(some 23), none, .mov (.t 4)⟩,
 ⟨(some 24), none, .bin .add (.t 22) (.t 23)⟩,
 ⟨(some 7), none, .mov (.t 24)⟩])
 (.seq
 (.reg [⟨(some 4), none, .mov (.c (u64 0))⟩])
 (.seq
 (.seq
 (.reg [⟨(some 25), none, .mov (.t 6)⟩,
 ⟨(some 26), none, .mov (.t 7)⟩,
 ⟨(some 27), none, .bin .lss (.t 25) (.t 26)⟩])
 (.cond (.t 27)
 (.seq
 (.reg [⟨(some 28), none, .mov (.t 6)⟩,
 ⟨(some 29), none, .bin .add (.t 28) (.c (u64 4294967296))⟩,
 ⟨(some 6), none, .mov (.t 29)⟩])
 (.reg [⟨(some 4), none, .mov (.c (u64 1))⟩]))
 .skip))
 (.reg [⟨(some 30), none, .mov (.t 0)⟩,
 ⟨(some 31), none, .mov (.t 5)⟩,
 ⟨(some 32), none, .mov (.t 6)⟩,
 ⟨(some 33), none, .mov (.t 7)⟩,
 ⟨(some 34), none, .bin .sub (.t 32) (.t 33)⟩,
 ⟨(some 35), none, .conv .u32 (.t 34)⟩,
 ⟨(some 36), none, .iad 1 (.t 30) (.t 31)⟩,
 ⟨none, none, .store 1 (.t 36) (.t 35)⟩]))))))
 (.reg [⟨(some 12), none, .mov (.t 5)⟩,
 ⟨(some 13), none, .bin .add (.t 12) (.c (.i .i64 1))⟩,
 ⟨(some 5), none, .mov (.t 13)⟩])))
 (.norm false [0, 1, 4, 5]))
def b97 : AX :=
 (.seq
 (.reg [⟨(some 4), none, .mov (.c (u64 0))⟩])
 (.seq
 (.reg [⟨(some 5), none, .mov (.c (.i .i64 0))⟩])
 (.lp 0 (.norm false [0, 1, 4, 5]) l97_0 (.norm false []))))
def l63_0 : AX :=
 (.note
 (.seq
 (.seq
 (.reg [⟨(some 19), none, .mov (.t 8)⟩,
 ⟨(some 20), none, .bin .geq (.t 19) (.c (.i .i64 0))⟩])
 (.cond (.t 20)
 .skip
 (.exit 0)))
 (.seq
 (.block 1
 (.seq
 (.drawT [⟨(some 23), none, .mov (.t 7)⟩,
 ⟨(some 24), none, .mov (.t 0)⟩,
 ⟨(some 25), none, .mov (.t 8)⟩,
 ⟨(some 26), none, .bin .quo (.t 25) (.c (.i .i64 32))⟩,
 ⟨(some 27), none, .iad 1 (.t 24) (.t 26)⟩,
 ⟨(some 28), none, .load none (.t 27)⟩,
 ⟨(some 29), none, .mov (.t 8)⟩,
 ⟨(some 30), none, .bin .rem (.t 29) (.c (.i .i64 32))⟩,
 ⟨(some 31), none, .bin .shl (.c (u32 1)) (.t 30)⟩,
 ⟨(some 32), none, .bin .quo (.t 28) (.t 31)⟩,
 ⟨(some 33), none, .bin .rem (.t 32) (.c (u32 2))⟩,
 ⟨(some 34), none, .bin .eql (.t 33) (.c (u32 1))⟩]
 [⟨(some 35), none, .call 96 [(.t 23), (.t 34)]⟩])
 (.seq
 (.reg [⟨(some 36), none, .mov (.t 6)⟩,
 ⟨(some 37), none, .call 96 [(.t 36), (.c (.b false))]⟩])
 (.seq
 (.reg [⟨(some 38), none, .mov (.t 7)⟩,
 ⟨(some 39), none, .mov (.t 1)⟩,
 ⟨(some 40), none, .call 52 [(.t 38), (.t 39)]⟩,
 ⟨(some 41), none, .bin .geq (.t 40) (.c (.i .i64 0))⟩])
 (.cond (.t 41)
 (.seq
 (.reg [⟨(some 42), none, .mov (.t 7)⟩,
 ⟨(some 43), none, .mov (.t 1)⟩,
 ⟨(some 44), none, .call 97 [(.t 42), (.t 43)]⟩])
 (.reg [⟨(some 45), none, .mov (.t 6)⟩,
 ⟨(some 46), none, .iad 1 (.t 45) (.c (.i .i64 0))⟩,
 ⟨(some 47), none, .load none (.t 46)⟩,
 ⟨(some 48), none, .bin .add (.t 47) (.c (u32 1))⟩,
 ⟨(some 49), none, .iad 1 (.t 45) (.c (.i .i64 0))⟩,
 ⟨none, none, .store 1 (.t 49) (.t 48)⟩]))
 .skip)))))
 (.reg [⟨(some 21), none, .mov (.t 8)⟩,
 ⟨(some 22), none, .bin .sub (.t 21) (.c (.i .i64 1))⟩,
 ⟨(some 8), none, .mov (.t 22)⟩])))
 (.norm false [0, 1, 6, 7, 8]))
def b63 : AX :=
 (.seq
 (.reg [⟨(some 4), none, .mov (.c (.sl [] .nl))⟩,
 ⟨(some 5), none, .mov (.c (.sl [] .nl))⟩])
 (.seq
 (.reg [⟨(some 9), none, .mov (.t 0)⟩,
 ⟨(some 10), none, .len (.t 9)⟩,
 ⟨(some 11), none, .mks 1 [(u32 0)] (.t 10) (.t 10)⟩,
 ⟨(some 6), none, .mov (.t 11)⟩])
 (.seq
 (.reg [⟨(some 12), none, .mov (.t 1)⟩,
 ⟨(some 13), none, .len (.t 12)⟩,
 ⟨(some 14), none, .bin .add (.t 13) (.c (.i .i64 1))⟩,
 ⟨(some 15), none, .mks 1 [(u32 0)] (.t 14) (.t 14)⟩,
 ⟨(some 7), none, .mov (.t 15)⟩])
 (.seq
 (.seq
 (.reg [⟨(some 16), none, .mov (.t 0)⟩,
 ⟨(some 17), none, .call 95 [(.t 16)]⟩,
 ⟨(some 18), none, .bin .sub (.t 17) (.c (.i .i64 1))⟩,
 ⟨(some 8), none, .mov (.t 18)⟩])
 (.lp 0 (.norm false [0, 1, 6, 7, 8]) l63_0 (.norm false [6, 7])))
 (.seq
 (.reg [⟨(some 50), none, .mov (.t 6)⟩,
 ⟨(some 51), none, .call 43 [(.t 50)]⟩,
 ⟨(some 52), none, .mov (.t 7)⟩,
 ⟨(some 53), none, .call 43 [(.t 52)]⟩,
 ⟨(some 4), none, .mov (.t 51)⟩,
 ⟨(some 5), none, .mov (.t 53)⟩])
 (.pre (.norm false [4, 5]) .ret))))))
class CRef05 (T : Tbl) : Prop extends CRef04 T where
 h122 : T 122 = some ⟨2, 32, [.t 4], b122, none, false⟩
 h95 : T 95 = some ⟨1, 19, [.t 2], b95, none, false⟩
 h96 : T 96 = some ⟨2, 30, [], b96, (some [true, false]), false⟩
 h97 : T 97 = some ⟨2, 37, [], b97, (some [true, false]), false⟩
 h63 : T 63 = some ⟨2, 54, [.t 4, .t 5], b63, none, false⟩
end Go.Ab
end

section
namespace Go.Ab
section
variable {T : Tbl} [CRef05 T]
def stDb (a : List UInt32) (y : Nat × Nat × List UInt32) : St :=
 ⟨[(0, .bs (.bor 0) 0 1 0 a.length), (4, u32 y.2.1), (5, .i .i64 y.1)], [(.bor 0, ⟨0, .own, 1, u32s (y.2.2 ++ a.drop y.1)⟩)], 4⟩
end
section
variable {T : Tbl} [CRef05 T]
def stLs (a b : List UInt32) (y : Nat × Nat × List UInt32) : St :=
 ⟨[(0, .bs (.bor 0) 0 1 0 a.length), (1, .sl (u32s b) .an), (4, u64 y.2.1), (5, .i .i64 y.1)], [(.bor 0, ⟨0, .own, 1, u32s (y.2.2 ++ a.drop y.1)⟩)], 4⟩
def stHs (x i : Nat) (y : Nat) : St := ⟨[(1, .i .i64 i), (5, u32 (x / 2 ^ y)), (6, .i .i64 y)], [], 2⟩
end
section
variable {T : Tbl} [CRef05 T]
def stLn (a : List UInt32) (y : Nat) : St := ⟨[(0, .sl (u32s a) .an), (3, .i .i64 y)], [], 2⟩
end
end Go.Ab
end

section
namespace Go.Ab
section
variable {T : Tbl} [CRef05 T]
def stDv (a b : List UInt32) (y : Nat × List UInt32 × List UInt32) : St :=
  ⟨[(0, .sl (u32s a) .an), (1, .sl (u32s b) .an), (6, .bs (.loc 11) 1 1 0 a.length), (7, .bs (.loc 15) 2 1 0 (b.length + 1)), (8, .i .i64 ((y.1 : Int) - 1))], [(.loc 11, ⟨1, .own, 1, u32s y.2.1⟩), (.loc 15, ⟨2, .own, 1, u32s y.2.2⟩)], 4⟩
end
end Go.Ab
end

section
namespace Go.Ab
def l2043_0 : AX :=
 (.note
 (.seq
 (.seq
 (.reg [⟨(some 6), none, .mov (.t 3)⟩,
 ⟨(some 7), none, .bin .gtr (.t 6) (.c (.i .i64 0))⟩,
 ⟨(some 8), none, .mov (.t 7)⟩,
 ⟨(some 9), (some (8, true)), .mov (.t 0)⟩,
 ⟨(some 10), (some (8, true)), .mov (.t 3)⟩,
 ⟨(some 11), (some (8, true)), .bin .sub (.t 10) (.c (.i .i64 1))⟩,
 ⟨(some 12), (some (8, true)), .iad 1 (.t 9) (.t 11)⟩,
 ⟨(some 13), (some (8, true)), .load none (.t 12)⟩,
 ⟨(some 14), (some (8, true)), .bin .eql (.t 13) (.c (u32 0))⟩,
 ⟨(some 15), none, .pick (.t 8) (.t 14) (.c (.b false))⟩])
 (.cond (.t 15)
 .skip
 (.exit 0)))
 (.block 1
 (.reg [⟨(some 16), none, .mov (.t 3)⟩,
 ⟨(some 17), none, .bin .sub (.t 16) (.c (.i .i64 1))⟩,
 ⟨(some 3), none, .mov (.t 17)⟩])))
 (.norm false [0, 3]))
def b2043 : AX :=
 (.seq
 (.reg [⟨(some 2), none, .mov (.c (.sl [] .nl))⟩])
 (.seq
 (.reg [⟨(some 4), none, .mov (.t 0)⟩,
 ⟨(some 5), none, .len (.t 4)⟩,
 ⟨(some 3), none, .mov (.t 5)⟩])
 (.seq
 (.lp 0 (.norm false [0, 3]) l2043_0 (.norm false [0, 3]))
 (.seq
 (.reg [⟨(some 18), none, .bsl 1 [(u32 0)] 0 []⟩,
 ⟨(some 19), none, .mov (.t 0)⟩,
 ⟨(some 20), none, .mov (.t 3)⟩,
 ⟨(some 21), none, .slc 1 (.t 19) none (some (.t 20)) none⟩,
 ⟨(some 22), none, .app 1 (.t 18) (.t 21)⟩,
 ⟨(some 2), none, .mov (.t 22)⟩])
 (.pre (.norm false [2]) .ret)))))
def l105_0 : AX :=
 (.note
 (.seq
 (.seq
 (.reg [⟨(some 8), none, .mov (.t 4)⟩,
 ⟨(some 9), none, .bin .geq (.t 8) (.c (.i .i64 0))⟩])
 (.cond (.t 9)
 .skip
 (.exit 0)))
 (.seq
 (.block 1
 (.seq
 (.reg [⟨(some 12), none, .mov (.t 3)⟩,
 ⟨(some 13), none, .bin .mul (.t 12) (.c (u64 4294967296))⟩,
 ⟨(some 14), none, .mov (.t 0)⟩,
 ⟨(some 15), none, .mov (.t 4)⟩,
 ⟨(some 16), none, .iad 1 (.t 14) (.t 15)⟩,
 ⟨(some 17), none, .load none (.t 16)⟩,
 ⟨(some 18), none, .conv .u64 (.t 17)⟩,
 ⟨(some 19), none, .bin .add (.t 13) (.t 18)⟩,
 ⟨(some 3), none, .mov (.t 19)⟩])
 (.seq
 (.reg [⟨(some 20), none, .mov (.t 0)⟩,
 ⟨(some 21), none, .mov (.t 4)⟩,
 ⟨(some 22), none, .mov (.t 3)⟩,
 ⟨(some 23), none, .bin .quo (.t 22) (.c (u64 10))⟩,
 ⟨(some 24), none, .conv .u32 (.t 23)⟩,
 ⟨(some 25), none, .iad 1 (.t 20) (.t 21)⟩,
 ⟨none, none, .store 1 (.t 25) (.t 24)⟩])
 (.reg [⟨(some 26), none, .mov (.t 3)⟩,
 ⟨(some 27), none, .bin .rem (.t 26) (.c (u64 10))⟩,
 ⟨(some 3), none, .mov (.t 27)⟩]))))
 (.reg [⟨(some 10), none, .mov (.t 4)⟩,
 ⟨(some 11), none, .bin .sub (.t 10) (.c (.i .i64 1))⟩,
 ⟨(some 4), none, .mov (.t 11)⟩])))
 (.norm false [0, 3, 4]))
def b105 : AX :=
 (.seq
 (.reg [⟨(some 2), none, .mov (.c (u64 0))⟩])
 (.seq
 (.reg [⟨(some 3), none, .mov (.c (u64 0))⟩])
 (.seq
 (.seq
 (.reg [⟨(some 5), none, .mov (.t 0)⟩,
 ⟨(some 6), none, .len (.t 5)⟩,
 ⟨(some 7), none, .bin .sub (.t 6) (.c (.i .i64 1))⟩,
 ⟨(some 4), none, .mov (.t 7)⟩])
 (.lp 0 (.norm false [0, 3, 4]) l105_0 (.norm false [3])))
 (.seq
 (.reg [⟨(some 28), none, .mov (.t 3)⟩,
 ⟨(some 2), none, .mov (.t 28)⟩])
 (.pre (.norm false [2]) .ret)))))
def l66_0 : AX :=
 (.note
 (.seq
 (.seq
 (.reg [⟨(some 6), none, .mov (.t 3)⟩,
 ⟨(some 7), none, .mov (.t 0)⟩,
 ⟨(some 8), none, .lens (.t 7)⟩,
 ⟨(some 9), none, .bin .lss (.t 6) (.t 8)⟩])
 (.cond (.t 9)
 .skip
 (.exit 0)))
 (.seq
 (.block 1
 (.seq
 (.reg [⟨(some 12), none, .mov (.t 0)⟩,
 ⟨(some 13), none, .mov (.t 3)⟩,
 ⟨(some 14), none, .ixs (.t 12) (.t 13)⟩,
 ⟨(some 15), none, .bin .lss (.t 14) (.c (u8 48))⟩,
 ⟨(some 16), none, .mov (.t 15)⟩,
 ⟨(some 17), (some (16, false)), .mov (.t 0)⟩,
 ⟨(some 18), (some (16, false)), .mov (.t 3)⟩,
 ⟨(some 19), (some (16, false)), .ixs (.t 17) (.t 18)⟩,
 ⟨(some 20), (some (16, false)), .bin .gtr (.t 19) (.c (u8 57))⟩,
 ⟨(some 21), none, .pick (.t 16) (.c (.b true)) (.t 20)⟩,
 ⟨(some 22), none, .mov (.t 21)⟩,
 ⟨(some 23), (some (22, false)), .mov (.t 3)⟩,
 ⟨(some 24), (some (22, false)), .bin .geq (.t 23) (.c (.i .i64 60))⟩,
 ⟨(some 25), none, .pick (.t 22) (.c (.b true)) (.t 24)⟩])
 (.cond (.t 25)
 (.seq
 (.reg [⟨(some 26), none, .mov (.t 3)⟩,
 ⟨(some 2), none, .mov (.t 26)⟩])
 (.pre (.norm false [2]) .ret))
 .skip)))
 (.reg [⟨(some 10), none, .mov (.t 3)⟩,
 ⟨(some 11), none, .bin .add (.t 10) (.c (.i .i64 1))⟩,
 ⟨(some 3), none, .mov (.t 11)⟩])))
 (.norm false [0, 3]))
def b66 : AX :=
 (.seq
 (.reg [⟨(some 2), none, .mov (.c (.i .i64 0))⟩])
 (.seq
 (.seq
 (.reg [⟨(some 4), none, .mov (.t 0)⟩,
 ⟨(some 5), none, .bin .eql (.t 4) (.c (.s []))⟩])
 (.cond (.t 5)
 (.seq
 (.reg [⟨(some 2), none, .mov (.c (.i .i64 0))⟩])
 (.pre (.norm false [2]) .ret))
 .skip))
 (.seq
 (.seq
 (.reg [⟨(some 3), none, .mov (.c (.i .i64 0))⟩])
 (.lp 0 (.norm false [0, 3]) l66_0 (.norm false [])))
 (.seq
 (.reg [⟨(some 2), none, .mov (.c (.i .i64 (-1)))⟩])
 (.pre (.norm false [2]) .ret)))))
def l67_0 : AX :=
 (.note
 (.seq
 (.seq
 (.reg [⟨(some 6), none, .mov (.t 4)⟩,
 ⟨(some 7), none, .mov (.t 0)⟩,
 ⟨(some 8), none, .lens (.t 7)⟩,
 ⟨(some 9), none, .bin .lss (.t 6) (.t 8)⟩])
 (.cond (.t 9)
 .skip
 (.exit 0)))
 (.seq
 (.block 1
 (.drawT [⟨(some 12), none, .mov (.t 3)⟩,
 ⟨(some 13), none, .bsl 1 [(u32 0)] 1 [(0, (.c (u32 10)))]⟩,
 ⟨(some 14), none, .call 61 [(.t 12), (.t 13)]⟩,
 ⟨(some 15), none, .mov (.t 0)⟩,
 ⟨(some 16), none, .mov (.t 4)⟩,
 ⟨(some 17), none, .ixs (.t 15) (.t 16)⟩,
 ⟨(some 18), none, .conv .u32 (.t 17)⟩,
 ⟨(some 19), none, .bin .sub (.t 18) (.c (u32 48))⟩,
 ⟨(some 20), none, .bsl 1 [(u32 0)] 1 [(0, (.t 19))]⟩]
 [⟨(some 21), none, .call 58 [(.t 14), (.t 20)]⟩,
 ⟨(some 3), none, .mov (.t 21)⟩]))
 (.reg [⟨(some 10), none, .mov (.t 4)⟩,
 ⟨(some 11), none, .bin .add (.t 10) (.c (.i .i64 1))⟩,
 ⟨(some 4), none, .mov (.t 11)⟩])))
 (.norm false [0, 3, 4]))
def b67 : AX :=
 (.seq
 (.reg [⟨(some 2), none, .mov (.c (.sl [] .nl))⟩])
 (.seq
 (.reg [⟨(some 5), none, .bsl 1 [(u32 0)] 0 []⟩,
 ⟨(some 3), none, .mov (.t 5)⟩])
 (.seq
 (.seq
 (.reg [⟨(some 4), none, .mov (.c (.i .i64 0))⟩])
 (.lp 0 (.norm false [0, 3, 4]) l67_0 (.norm false [3])))
 (.seq
 (.reg [⟨(some 22), none, .mov (.t 3)⟩,
 ⟨(some 2), none, .mov (.t 22)⟩])
 (.pre (.norm false [2]) .ret)))))
class CRef07 (T : Tbl) : Prop extends CRef05 T where
 h2043 : T 2043 = some ⟨1, 23, [.t 2], b2043, (some [false]), false⟩
 h105 : T 105 = some ⟨1, 29, [.t 2], b105, (some [true]), false⟩
 h66 : T 66 = some ⟨1, 27, [.t 2], b66, none, false⟩
 h67 : T 67 = some ⟨1, 23, [.t 2], b67, none, false⟩
section
variable {T : Tbl} [CRef07 T] {d : Option Nat} {st : St}
theorem f105 (xs : List AV) (hb : Heap) (hn : xs.length = 1) : callH T 105 xs hb = retH [.t 2] false hb.length (evX (orc T) T hb.length b105 ⟨argEnv xs, hb, hb.length + 1⟩) := callH_eq CRef07.h105 hn
end
end Go.Ab
end

section
namespace Go.Ab
def l224_0 : AX :=
 (.note
 (.seq
 (.seq
 (.reg [mv 6 0, rg 7 (.bin .rem (.t 6) (.c (u32 2))), rg 8 (.bin .eql (.t 7) (.c (u32 0)))])
 (.cond (.t 8)
 .skip
 (.exit 0)))
 (.block 1
 (.seq
 (.reg [mv 9 0, rg 10 (.bin .quo (.t 9) (.c (u32 2))), mv 0 10])
 (.reg [mv 11 3, rg 12 (.bin .add (.t 11) (.c (.i .i64 1))), mv 3 12]))))
 (.norm false [0, 3]))
def b224 : AX :=
 (.seq
 (.reg [rg 2 (.mov (.c (.i .i64 0)))])
 (.seq
 (.seq
 (.reg [mv 4 0, rg 5 (.bin .eql (.t 4) (.c (u32 0)))])
 (.cond (.t 5)
 (.seq
 (.reg [rg 2 (.mov (.c (.i .i64 32)))])
 (.pre (.norm false [2]) .ret))
 .skip))
 (.seq
 (.reg [rg 3 (.mov (.c (.i .i64 0)))])
 (.seq
 (.lp 0 (.norm false [0, 3]) l224_0 (.norm false [3]))
 (.seq
 (.reg [mv 13 3, mv 2 13])
 (.pre (.norm false [2]) .ret))))))
def l225_0 : AX :=
 (.note
 (.seq
 (.seq
 (.reg [mv 7 5, mv 8 0, rg 9 (.len (.t 8)), rg 10 (.bin .lss (.t 7) (.t 9))])
 (.cond (.t 10)
 .skip
 (.exit 0)))
 (.seq
 (.block 1
 (.seq
 (.reg [rg 6 (.mov (.c (u64 0)))])
 (.seq
 (.seq
 (.reg [mv 13 5, rg 14 (.bin .add (.t 13) (.c (.i .i64 1))), mv 15 0, rg 16 (.len (.t 15)), rg 17 (.bin .lss (.t 14) (.t 16))])
 (.cond (.t 17)
 (.reg [mv 18 0, mv 19 5, rg 20 (.bin .add (.t 19) (.c (.i .i64 1))), rg 21 (.iad 1 (.t 18) (.t 20)), rg 22 (.load none (.t 21)), rg 23 (.conv .u64 (.t 22)),
 mv 6 23])
 .skip))
 (.reg [mv 24 0, mv 25 5, mv 26 6, rg 27 (.bin .mul (.t 26) (.c (u64 4294967296))), mv 28 0, mv 29 5, rg 30 (.iad 1 (.t 28) (.t 29)), rg 31 (.load none (.t 30)),
 rg 32 (.conv .u64 (.t 31)), rg 33 (.bin .add (.t 27) (.t 32)), mv 34 1, rg 35 (.bin .shr (.t 33) (.t 34)), rg 36 (.conv .u32 (.t 35)),
 rg 37 (.iad 1 (.t 24) (.t 25)), so (.store 1 (.t 37) (.t 36))]))))
 (.reg [mv 11 5, rg 12 (.bin .add (.t 11) (.c (.i .i64 1))), mv 5 12])))
 (.norm false [0, 1, 5]))
def l225_1 : AX :=
 (.note
 (.seq
 (.seq
 (.reg [mv 38 0, rg 39 (.len (.t 38)), rg 40 (.bin .gtr (.t 39) (.c (.i .i64 0))), mv 41 40, gd 42 41 true (.mov (.t 0)), gd 43 41 true (.mov (.t 0)),
 gd 44 41 true (.len (.t 43)), gd 45 41 true (.bin .sub (.t 44) (.c (.i .i64 1))), gd 46 41 true (.iad 1 (.t 42) (.t 45)),
 gd 47 41 true (.load none (.t 46)), gd 48 41 true (.bin .eql (.t 47) (.c (u32 0))), rg 49 (.pick (.t 41) (.t 48) (.c (.b false)))])
 (.cond (.t 49)
 .skip
 (.exit 2)))
 (.block 3
 (.reg [mv 50 0, mv 51 0, rg 52 (.len (.t 51)), rg 53 (.bin .sub (.t 52) (.c (.i .i64 1))), rg 54 (.slc 1 (.t 50) none (some (.t 53)) none), mv 0 54])))
 (.norm false [0]))
def b225 : AX :=
 (.seq
 (.reg [rg 4 (.mov (.c (.sl [] .nl)))])
 (.seq
 (.seq
 (.reg [rg 5 (.mov (.c (.i .i64 0)))])
 (.lp 0 (.norm false [0, 1, 5]) l225_0 (.norm false [0])))
 (.seq
 (.lp 2 (.norm false [0]) l225_1 (.norm false [0]))
 (.seq
 (.reg [mv 55 0, mv 4 55])
 (.pre (.norm false [4]) .ret)))))
def l226_0 : AX :=
 (.note
 (.seq
 (.seq
 (.reg [mv 6 0, rg 7 (.iad 1 (.t 6) (.c (.i .i64 0))), rg 8 (.load none (.t 7)), rg 9 (.bin .eql (.t 8) (.c (u32 0)))])
 (.cond (.t 9)
 .skip
 (.exit 0)))
 (.block 1
 (.seq
 (.reg [mv 10 0, rg 11 (.slc 1 (.t 10) (some (.c (.i .i64 1))) none none), mv 0 11])
 (.reg [mv 12 4, rg 13 (.bin .add (.t 12) (.c (.i .i64 32))), mv 4 13]))))
 (.norm false [0, 4]))
def b226 : AX :=
 (.seq
 (.reg [rg 2 (.mov (.c (.sl [] .nl))), rg 3 (.mov (.c (.i .i64 0)))])
 (.seq
 (.reg [rg 4 (.mov (.c (.i .i64 0)))])
 (.seq
 (.lp 0 (.norm false [0, 4]) l226_0 (.norm false [0, 4]))
 (.seq
 (.reg [mv 14 0, rg 15 (.iad 1 (.t 14) (.c (.i .i64 0))), rg 16 (.load none (.t 15)), rg 17 (.call 224 [(.t 16)]), mv 5 17])
 (.seq
 (.reg [mv 18 0, mv 19 5, rg 20 (.call 225 [(.t 18), (.t 19)]), mv 21 4, mv 22 5, rg 23 (.bin .add (.t 21) (.t 22)), mv 2 20, mv 3 23])
 (.pre (.norm false [2, 3]) .ret))))))
def b227 : AX :=
 (.seq
 (.reg [rg 4 (.mov (.c (.sl [] .nl)))])
 (.seq
 (.reg [mv 6 1, rg 7 (.bin .quo (.t 6) (.c (.i .i64 32))), rg 8 (.mks 1 [(u32 0)] (.t 7) (.t 7)), mv 9 0, rg 10 (.app 1 (.t 8) (.t 9)), mv 5 10])
 (.seq
 (.reg [mv 11 5, mv 12 1, rg 13 (.bin .rem (.t 12) (.c (.i .i64 32))), rg 14 (.bin .shl (.c (u32 1)) (.t 13)), rg 15 (.bsl 1 [(u32 0)] 1 [(0, (.t 14))]),
 rg 16 (.call 61 [(.t 11), (.t 15)]), mv 4 16])
 (.pre (.norm false [4]) .ret))))
def l228_0 : AX :=
 (.note
 (.block 1
 (.seq
 (.reg [mv 33 5, mv 34 6, rg 35 (.call 52 [(.t 33), (.t 34)]), mv 9 35])
 (.seq
 (.seq
 (.reg [mv 36 9, rg 37 (.bin .eql (.t 36) (.c (.i .i64 0)))])
 (.cond (.t 37)
 (.exit 0)
 .skip))
 (.seq
 (.seq
 (.reg [mv 38 9, rg 39 (.bin .lss (.t 38) (.c (.i .i64 0)))])
 (.cond (.t 39)
 (.seq
 (.reg [mv 40 5, mv 10 40])
 (.seq
 (.reg [mv 41 6, mv 5 41])
 (.reg [mv 42 10, mv 6 42])))
 .skip))
 (.seq
 (.reg [mv 43 5, mv 44 6, rg 45 (.call 2097 [(.t 43), (.t 44)])])
 (.reg [mv 47 5, rg 48 (.call 226 [(.t 47)]), mv 46 48, rg 49 (.ext (.t 46) 0), rg 50 (.ext (.t 46) 1), mv 5 49]))))))
 (.norm false [5, 6, 7, 8]))
def b228 : AX :=
 (.seq
 (.reg [rg 4 (.mov (.c (.sl [] .nl)))])
 (.seq
 (.reg [mv 11 0, rg 12 (.call 2043 [(.t 11)]), mv 5 12])
 (.seq
 (.reg [mv 13 1, rg 14 (.call 2043 [(.t 13)]), mv 6 14])
 (.seq
 (.seq
 (.reg [mv 15 5, rg 16 (.len (.t 15)), rg 17 (.bin .eql (.t 16) (.c (.i .i64 0)))])
 (.cond (.t 17)
 (.seq
 (.reg [mv 18 6, mv 4 18])
 (.pre (.norm false [4]) .ret))
 .skip))
 (.seq
 (.seq
 (.reg [mv 19 6, rg 20 (.len (.t 19)), rg 21 (.bin .eql (.t 20) (.c (.i .i64 0)))])
 (.cond (.t 21)
 (.seq
 (.reg [mv 22 5, mv 4 22])
 (.pre (.norm false [4]) .ret))
 .skip))
 (.seq
 (.reg [mv 24 5, rg 25 (.call 226 [(.t 24)]), mv 23 25, rg 26 (.ext (.t 23) 0), rg 27 (.ext (.t 23) 1), mv 5 26, mv 7 27])
 (.seq
 (.reg [mv 29 6, rg 30 (.call 226 [(.t 29)]), mv 28 30, rg 31 (.ext (.t 28) 0), rg 32 (.ext (.t 28) 1), mv 6 31, mv 8 32])
 (.seq
 (.lp 0 (.norm false [5, 6, 7, 8]) l228_0 (.norm false [5, 7, 8]))
 (.seq
 (.reg [mv 51 5, mv 52 7, mv 53 8, rg 54 (.mm false [(.t 52), (.t 53)]), rg 55 (.call 227 [(.t 51), (.t 54)]), mv 4 55])
 (.pre (.norm false [4]) .ret))))))))))
def b229 : AX :=
 (.seq
 (.reg [rg 2 (.mov (.c (.b false)))])
 (.seq
 (.reg [mv 3 0, rg 4 (.len (.t 3)), rg 5 (.bin .eql (.t 4) (.c (.i .i64 1))), mv 6 5, gd 7 6 true (.mov (.t 0)), gd 8 6 true (.iad 1 (.t 7) (.c (.i .i64 0))),
 gd 9 6 true (.load none (.t 8)), gd 10 6 true (.bin .eql (.t 9) (.c (u32 1))), rg 11 (.pick (.t 6) (.t 10) (.c (.b false))), mv 2 11])
 (.pre (.norm false [2]) .ret)))
def b230 : AX :=
 (.seq
 (.reg [rg 4 (.mov (.c (.sl [] .nl)))])
 (.seq
 (.seq
 (.reg [mv 7 1, rg 8 (.call 229 [(.t 7)])])
 (.cond (.t 8)
 (.seq
 (.reg [mv 9 0, rg 10 (.call 43 [(.t 9)]), mv 4 10])
 (.pre (.norm false [4]) .ret))
 .skip))
 (.seq
 (.reg [mv 12 0, mv 13 1, rg 14 (.call 63 [(.t 12), (.t 13)]), mv 11 14, rg 15 (.ext (.t 11) 0), rg 16 (.ext (.t 11) 1), mv 5 15, mv 6 16])
 (.seq
 (.reg [mv 17 5, mv 4 17])
 (.pre (.norm false [4]) .ret)))))
def l2097_0 : AX :=
 (.note
 (.seq
 (.seq
 (.reg [mv 8 5, mv 9 0, rg 10 (.len (.t 9)), rg 11 (.bin .lss (.t 8) (.t 10))])
 (.cond (.t 11)
 .skip
 (.exit 0)))
 (.seq
 (.block 1
 (.seq
 (.reg [mv 14 0, mv 15 5, rg 16 (.iad 1 (.t 14) (.t 15)), rg 17 (.load none (.t 16)), rg 18 (.conv .u64 (.t 17)), mv 6 18])
 (.seq
 (.reg [mv 19 1, mv 20 5, rg 21 (.call 84 [(.t 19), (.t 20)]), rg 22 (.conv .u64 (.t 21)), mv 23 4, rg 24 (.bin .add (.t 22) (.t 23)), mv 7 24])
 (.seq
 (.reg [rg 4 (.mov (.c (u64 0)))])
 (.seq
 (.seq
 (.reg [mv 25 6, mv 26 7, rg 27 (.bin .lss (.t 25) (.t 26))])
 (.cond (.t 27)
 (.seq
 (.reg [mv 28 6, rg 29 (.bin .add (.t 28) (.c (u64 4294967296))), mv 6 29])
 (.reg [rg 4 (.mov (.c (u64 1)))]))
 .skip))
 (.reg [mv 30 0, mv 31 5, mv 32 6, mv 33 7, rg 34 (.bin .sub (.t 32) (.t 33)), rg 35 (.conv .u32 (.t 34)), rg 36 (.iad 1 (.t 30) (.t 31)),
 so (.store 1 (.t 36) (.t 35))]))))))
 (.reg [mv 12 5, rg 13 (.bin .add (.t 12) (.c (.i .i64 1))), mv 5 13])))
 (.norm false [0, 1, 4, 5]))
def b2097 : AX :=
 (.seq
 (.reg [rg 4 (.mov (.c (u64 0)))])
 (.seq
 (.reg [rg 5 (.mov (.c (.i .i64 0)))])
 (.lp 0 (.norm false [0, 1, 4, 5]) l2097_0 (.norm false []))))
class CRef06 (T : Tbl) : Prop where
 h224 : T 224 = some ⟨1, 14, [.t 2], b224, none, false⟩
 h225 : T 225 = some ⟨2, 56, [.t 4], b225, (some [true, false]), false⟩
 h226 : T 226 = some ⟨1, 24, [.t 2, .t 3], b226, (some [true]), false⟩
 h227 : T 227 = some ⟨2, 17, [.t 4], b227, none, false⟩
 h228 : T 228 = some ⟨2, 56, [.t 4], b228, none, false⟩
 h229 : T 229 = some ⟨1, 12, [.t 2], b229, none, false⟩
 h230 : T 230 = some ⟨2, 18, [.t 4], b230, none, false⟩
 h2097 : T 2097 = some ⟨2, 37, [], b2097, (some [true, true]), false⟩
section
variable {T : Tbl} [CRef06 T] {d : Option Nat} {st : St} {xs : List AV} {ps : List Opd} {e : Env} {h : Heap} {ol : List Heap}
theorem f224 (xs : List AV) (hn : xs.length = 1) : callF T 224 xs = retF [.t 2] false (evX (orc T) T 0 b224 ⟨argEnv xs, [], 1⟩) := callF_eq CRef06.h224 hn
theorem f225 (xs : List AV) (hb : Heap) (hn : xs.length = 2) : callH T 225 xs hb = retH [.t 4] false hb.length (evX (orc T) T hb.length b225 ⟨argEnv xs, hb, hb.length + 1⟩) := callH_eq CRef06.h225 hn
theorem f226 (xs : List AV) (hb : Heap) (hn : xs.length = 1) : callH T 226 xs hb = retH [.t 2, .t 3] false hb.length (evX (orc T) T hb.length b226 ⟨argEnv xs, hb, hb.length + 1⟩) := callH_eq CRef06.h226 hn
theorem f227 (xs : List AV) (hn : xs.length = 2) : callF T 227 xs = retF [.t 4] false (evX (orc T) T 0 b227 ⟨argEnv xs, [], 1⟩) := callF_eq CRef06.h227 hn
theorem f228 (xs : List AV) (hn : xs.length = 2) : callF T 228 xs = retF [.t 4] false (evX (orc T) T 0 b228 ⟨argEnv xs, [], 1⟩) := callF_eq CRef06.h228 hn
end
end Go.Ab
end

section
namespace Go.Ab
section
variable {T : Tbl} [CRef07 T]
def stTen (N : Nat) (y : Nat × Nat × List UInt32) (P : List UInt32) : St :=
 ⟨[(0, .bs (.bor 0) 0 1 0 N), (3, u64 y.2.1), (4, .i .i64 ((y.1 : Int) - 1))], [(.bor 0, ⟨0, .own, 1, u32s (P.take y.1 ++ y.2.2)⟩)], 4⟩
end
section
variable {T : Tbl} [CRef07 T]
def stTx (b : BId) (x : List UInt32) (s : List UInt8) : St := ⟨[(3, .bs b 1 1 0 x.length), (4, .s s)], [(b, ⟨1, .own, 1, u32s x⟩)], 3⟩
end
end Go.Ab
end
