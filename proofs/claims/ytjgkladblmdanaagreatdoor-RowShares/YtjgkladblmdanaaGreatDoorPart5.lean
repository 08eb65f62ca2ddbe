/-
  A calculus of values, boxes and code, and what functions of the program compute, proved in it.
  Conditions: none beyond those that the theorems state. (Part 5: GcRef05, GpRef05, GpRef05d, GcRef07, GcRef06, GpRef07, GcRef08, GcRef09, GcRef11, GcRef5x, GcLaw09, GcLaw11, GcLaw11b, GcLaw11c, Ax10.)
-/
import Derived.Test.YtjgkladblmdanaaGreatDoorPart4

set_option linter.unusedSectionVars false
set_option linter.unusedVariables false
set_option linter.unusedSimpArgs false
set_option linter.unnecessarySimpa false

section
namespace Go.Ab
def l122_0 : AX :=
 (.note
 (.seq
 (.seq
 (.reg [⟨(some 21), none, .mov (.t 6)⟩,
 ⟨(some 22), none, .mov (.t 1)⟩,
 ⟨(some 23), none, .bin .rem (.t 22) (.c (.i .i64 32))⟩,
 ⟨(some 24), none, .bin .lss (.t 21) (.t 23)⟩])
 (.cond (.t 24)
 .skip
 (.exit 0)))
 (.seq
 (.block 1
 (.reg [⟨(some 27), none, .mov (.t 5)⟩,
 ⟨(some 28), none, .bin .quo (.t 27) (.c (u32 2))⟩,
 ⟨(some 5), none, .mov (.t 28)⟩]))
 (.reg [⟨(some 25), none, .mov (.t 6)⟩,
 ⟨(some 26), none, .bin .add (.t 25) (.c (.i .i64 1))⟩,
 ⟨(some 6), none, .mov (.t 26)⟩])))
 (.norm false [1, 5, 6]))
def b122 : AX :=
 (.seq
 (.reg [⟨(some 4), none, .mov (.c (.b false))⟩])
 (.seq
 (.seq
 (.reg [⟨(some 7), none, .mov (.t 1)⟩,
 ⟨(some 8), none, .bin .lss (.t 7) (.c (.i .i64 0))⟩,
 ⟨(some 9), none, .mov (.t 8)⟩,
 ⟨(some 10), (some (9, false)), .mov (.t 1)⟩,
 ⟨(some 11), (some (9, false)), .bin .quo (.t 10) (.c (.i .i64 32))⟩,
 ⟨(some 12), (some (9, false)), .mov (.t 0)⟩,
 ⟨(some 13), (some (9, false)), .len (.t 12)⟩,
 ⟨(some 14), (some (9, false)), .bin .geq (.t 11) (.t 13)⟩,
 ⟨(some 15), none, .pick (.t 9) (.c (.b true)) (.t 14)⟩])
 (.cond (.t 15)
 (.seq
 (.reg [⟨(some 4), none, .mov (.c (.b false))⟩])
 (.pre (.norm false [4]) .ret))
 .skip))
 (.seq
 (.reg [⟨(some 16), none, .mov (.t 0)⟩,
 ⟨(some 17), none, .mov (.t 1)⟩,
 ⟨(some 18), none, .bin .quo (.t 17) (.c (.i .i64 32))⟩,
 ⟨(some 19), none, .iad 1 (.t 16) (.t 18)⟩,
 ⟨(some 20), none, .load none (.t 19)⟩,
 ⟨(some 5), none, .mov (.t 20)⟩])
 (.seq
 (.seq
 (.reg [⟨(some 6), none, .mov (.c (.i .i64 0))⟩])
 (.lp 0 (.norm false [1, 5, 6]) l122_0 (.norm false [5])))
 (.seq
 (.reg [⟨(some 29), none, .mov (.t 5)⟩,
 ⟨(some 30), none, .bin .rem (.t 29) (.c (u32 2))⟩,
 ⟨(some 31), none, .bin .eql (.t 30) (.c (u32 1))⟩,
 ⟨(some 4), none, .mov (.t 31)⟩])
 (.pre (.norm false [4]) .ret))))))
def l95_0 : AX :=
 (.note
 (.seq
 (.seq
 (.reg [⟨(some 7), none, .mov (.t 3)⟩,
 ⟨(some 8), none, .bin .gtr (.t 7) (.c (.i .i64 0))⟩,
 ⟨(some 9), none, .mov (.t 8)⟩,
 ⟨(some 10), (some (9, true)), .mov (.t 0)⟩,
 ⟨(some 11), (some (9, true)), .mov (.t 3)⟩,
 ⟨(some 12), (some (9, true)), .bin .sub (.t 11) (.c (.i .i64 1))⟩,
 ⟨(some 13), (some (9, true)), .call 122 [(.t 10), (.t 12)]⟩,
 ⟨(some 14), (some (9, true)), .un .not (.t 13)⟩,
 ⟨(some 15), none, .pick (.t 9) (.t 14) (.c (.b false))⟩])
 (.cond (.t 15)
 .skip
 (.exit 0)))
 (.block 1
 (.reg [⟨(some 16), none, .mov (.t 3)⟩,
 ⟨(some 17), none, .bin .sub (.t 16) (.c (.i .i64 1))⟩,
 ⟨(some 3), none, .mov (.t 17)⟩])))
 (.norm false [0, 3]))
def b95 : AX :=
 (.seq
 (.reg [⟨(some 2), none, .mov (.c (.i .i64 0))⟩])
 (.seq
 (.reg [⟨(some 4), none, .mov (.t 0)⟩,
 ⟨(some 5), none, .len (.t 4)⟩,
 ⟨(some 6), none, .bin .mul (.c (.i .i64 32)) (.t 5)⟩,
 ⟨(some 3), none, .mov (.t 6)⟩])
 (.seq
 (.lp 0 (.norm false [0, 3]) l95_0 (.norm false [3]))
 (.seq
 (.reg [⟨(some 18), none, .mov (.t 3)⟩,
 ⟨(some 2), none, .mov (.t 18)⟩])
 (.pre (.norm false [2]) .ret)))))
def l96_0 : AX :=
 (.note
 (.seq
 (.seq
 (.reg [⟨(some 8), none, .mov (.t 5)⟩,
 ⟨(some 9), none, .mov (.t 0)⟩,
 ⟨(some 10), none, .len (.t 9)⟩,
 ⟨(some 11), none, .bin .lss (.t 8) (.t 10)⟩])
 (.cond (.t 11)
 .skip
 (.exit 0)))
 (.seq
 (.block 1
 (.seq
 (.reg [⟨(some 14), none, .mov (.t 0)⟩,
 ⟨(some 15), none, .mov (.t 5)⟩,
 ⟨(some 16), none, .iad 1 (.t 14) (.t 15)⟩,
 ⟨(some 17), none, .load none (.t 16)⟩,
 ⟨(some 18), none, .bin .quo (.t 17) (.c (u32 2147483648))⟩,
 ⟨(some 6), none, .mov (.t 18)⟩])
 (.seq
 (.reg [⟨(some 19), none, .mov (.t 0)⟩,
 ⟨(some 20), none, .mov (.t 5)⟩,
 ⟨(some 21), none, .mov (.t 0)⟩,
 ⟨(some 22), none, .mov (.t 5)⟩,
 ⟨(some 23), none, .iad 1 (.t 21) (.t 22)⟩,
 ⟨(some 24), none, .load none (.t 23)⟩,
 ⟨(some 25), none, .bin .mul (.t 24) (.c (u32 2))⟩,
 ⟨(some 26), none, .mov (.t 4)⟩,
 ⟨(some 27), none, .bin .add (.t 25) (.t 26)⟩,
 ⟨(some 28), none, .iad 1 (.t 19) (.t 20)⟩,
 ⟨none, none, .store 1 (.t 28) (.t 27)⟩])
 (.reg [⟨(some 29), none, .mov (.t 6)⟩,
 ⟨(some 4), none, .mov (.t 29)⟩]))))
 (.reg [⟨(some 12), none, .mov (.t 5)⟩,
 ⟨(some 13), none, .bin .add (.t 12) (.c (.i .i64 1))⟩,
 ⟨(some 5), none, .mov (.t 13)⟩])))
 (.norm false [0, 4, 5]))
def b96 : AX :=
 (.seq
 (.reg [⟨(some 4), none, .mov (.c (u32 0))⟩])
 (.seq
 (.seq
 (.reg [⟨(some 7), none, .mov (.t 1)⟩])
 (.cond (.t 7)
 (.reg [⟨(some 4), none, .mov (.c (u32 1))⟩])
 .skip))
 (.seq
 (.reg [⟨(some 5), none, .mov (.c (.i .i64 0))⟩])
 (.lp 0 (.norm false [0, 4, 5]) l96_0 (.norm false [])))))
def l97_0 : AX :=
 (.note
 (.seq
 (.seq
 (.reg [⟨(some 8), none, .mov (.t 5)⟩,
 ⟨(some 9), none, .mov (.t 0)⟩,
 ⟨(some 10), none, .len (.t 9)⟩,
 ⟨(some 11), none, .bin .lss (.t 8) (.t 10)⟩])
 (.cond (.t 11)
 .skip
 (.exit 0)))
 (.seq
 (.block 1
 (.seq
 (.reg [⟨(some 14), none, .mov (.t 0)⟩,
 ⟨(some 15), none, .mov (.t 5)⟩,
 ⟨(some 16), none, .iad 1 (.t 14) (.t 15)⟩,
 ⟨(some 17), none, .load none (.t 16)⟩,
 ⟨(some 18), none, .conv .u64 (.t 17)⟩,
 ⟨(some 6), none, .mov (.t 18)⟩])
 (.seq
 (.reg [⟨(some 19), none, .mov (.t 1)⟩,
 ⟨(some 20), none, .mov (.t 5)⟩,
 ⟨(some 21), none, .call 84 [(.t 19), (.t 20)]⟩,
 ⟨(some 22), none, .conv .u64 (.t 21)⟩,
 ⟨(some 23), none, .mov (.t 4)⟩,
 ⟨(some 24), none, .bin .add (.t 22) (.t 23)⟩,
 ⟨(some 7), none, .mov (.t 24)⟩])
 (.seq
 (.reg [⟨(some 4), none, .mov (.c (u64 0))⟩])
 (.seq
 (.seq
 (.reg [⟨(some 25), none, .mov (.t 6)⟩,
 ⟨(some 26), none, .mov (.t 7)⟩,
 ⟨(some 27), none, .bin .lss (.t 25) (.t 26)⟩])
 (.cond (.t 27)
 (.seq
 (.reg [⟨(some 28), none, .mov (.t 6)⟩,
 ⟨(some 29), none, .bin .add (.t 28) (.c (u64 4294967296))⟩,
 ⟨(some 6), none, .mov (.t 29)⟩])
 (.reg [⟨(some 4), none, .mov (.c (u64 1))⟩]))
 .skip))
 (.reg [⟨(some 30), none, .mov (.t 0)⟩,
 ⟨(some 31), none, .mov (.t 5)⟩,
 ⟨(some 32), none, .mov (.t 6)⟩,
 ⟨(some 33), none, .mov (.t 7)⟩,
 ⟨(some 34), none, .bin .sub (.t 32) (.t 33)⟩,
 ⟨(some 35), none, .conv .u32 (.t 34)⟩,
 ⟨(some 36), none, .iad 1 (.t 30) (.t 31)⟩,
 ⟨none, none, .store 1 (.t 36) (.t 35)⟩]))))))
 (.reg [⟨(some 12), none, .mov (.t 5)⟩,
 ⟨(some 13), none, .bin .add (.t 12) (.c (.i .i64 1))⟩,
 ⟨(some 5), none, .mov (.t 13)⟩])))
 (.norm false [0, 1, 4, 5]))
def b97 : AX :=
 (.seq
 (.reg [⟨(some 4), none, .mov (.c (u64 0))⟩])
 (.seq
 (.reg [⟨(some 5), none, .mov (.c (.i .i64 0))⟩])
 (.lp 0 (.norm false [0, 1, 4, 5]) l97_0 (.norm false []))))
def l63_0 : AX :=
 (.note
 (.seq
 (.seq
 (.reg [⟨(some 19), none, .mov (.t 8)⟩,
 ⟨(some 20), none, .bin .geq (.t 19) (.c (.i .i64 0))⟩])
 (.cond (.t 20)
 .skip
 (.exit 0)))
 (.seq
 (.block 1
 (.seq
 (.drawT [⟨(some 23), none, .mov (.t 7)⟩,
 ⟨(some 24), none, .mov (.t 0)⟩,
 ⟨(some 25), none, .mov (.t 8)⟩,
 ⟨(some 26), none, .bin .quo (.t 25) (.c (.i .i64 32))⟩,
 ⟨(some 27), none, .iad 1 (.t 24) (.t 26)⟩,
 ⟨(some 28), none, .load none (.t 27)⟩,
 ⟨(some 29), none, .mov (.t 8)⟩,
 ⟨(some 30), none, .bin .rem (.t 29) (.c (.i .i64 32))⟩,
 ⟨(some 31), none, .bin .shl (.c (u32 1)) (.t 30)⟩,
 ⟨(some 32), none, .bin .quo (.t 28) (.t 31)⟩,
 ⟨(some 33), none, .bin .rem (.t 32) (.c (u32 2))⟩,
 ⟨(some 34), none, .bin .eql (.t 33) (.c (u32 1))⟩]
 [⟨(some 35), none, .call 96 [(.t 23), (.t 34)]⟩])
 (.seq
 (.reg [⟨(some 36), none, .mov (.t 6)⟩,
 ⟨(some 37), none, .call 96 [(.t 36), (.c (.b false))]⟩])
 (.seq
 (.reg [⟨(some 38), none, .mov (.t 7)⟩,
 ⟨(some 39), none, .mov (.t 1)⟩,
 ⟨(some 40), none, .call 52 [(.t 38), (.t 39)]⟩,
 ⟨(some 41), none, .bin .geq (.t 40) (.c (.i .i64 0))⟩])
 (.cond (.t 41)
 (.seq
 (.reg [⟨(some 42), none, .mov (.t 7)⟩,
 ⟨(some 43), none, .mov (.t 1)⟩,
 ⟨(some 44), none, .call 97 [(.t 42), (.t 43)]⟩])
 (.reg [⟨(some 45), none, .mov (.t 6)⟩,
 ⟨(some 46), none, .iad 1 (.t 45) (.c (.i .i64 0))⟩,
 ⟨(some 47), none, .load none (.t 46)⟩,
 ⟨(some 48), none, .bin .add (.t 47) (.c (u32 1))⟩,
 ⟨(some 49), none, .iad 1 (.t 45) (.c (.i .i64 0))⟩,
 ⟨none, none, .store 1 (.t 49) (.t 48)⟩]))
 .skip)))))
 (.reg [⟨(some 21), none, .mov (.t 8)⟩,
 ⟨(some 22), none, .bin .sub (.t 21) (.c (.i .i64 1))⟩,
 ⟨(some 8), none, .mov (.t 22)⟩])))
 (.norm false [0, 1, 6, 7, 8]))
def b63 : AX :=
 (.seq
 (.reg [⟨(some 4), none, .mov (.c (.sl [] .nl))⟩,
 ⟨(some 5), none, .mov (.c (.sl [] .nl))⟩])
 (.seq
 (.reg [⟨(some 9), none, .mov (.t 0)⟩,
 ⟨(some 10), none, .len (.t 9)⟩,
 ⟨(some 11), none, .mks 1 [(u32 0)] (.t 10) (.t 10)⟩,
 ⟨(some 6), none, .mov (.t 11)⟩])
 (.seq
 (.reg [⟨(some 12), none, .mov (.t 1)⟩,
 ⟨(some 13), none, .len (.t 12)⟩,
 ⟨(some 14), none, .bin .add (.t 13) (.c (.i .i64 1))⟩,
 ⟨(some 15), none, .mks 1 [(u32 0)] (.t 14) (.t 14)⟩,
 ⟨(some 7), none, .mov (.t 15)⟩])
 (.seq
 (.seq
 (.reg [⟨(some 16), none, .mov (.t 0)⟩,
 ⟨(some 17), none, .call 95 [(.t 16)]⟩,
 ⟨(some 18), none, .bin .sub (.t 17) (.c (.i .i64 1))⟩,
 ⟨(some 8), none, .mov (.t 18)⟩])
 (.lp 0 (.norm false [0, 1, 6, 7, 8]) l63_0 (.norm false [6, 7])))
 (.seq
 (.reg [⟨(some 50), none, .mov (.t 6)⟩,
 ⟨(some 51), none, .call 43 [(.t 50)]⟩,
 ⟨(some 52), none, .mov (.t 7)⟩,
 ⟨(some 53), none, .call 43 [(.t 52)]⟩,
 ⟨(some 4), none, .mov (.t 51)⟩,
 ⟨(some 5), none, .mov (.t 53)⟩])
 (.pre (.norm false [4, 5]) .ret))))))
class CRef05 (T : Tbl) : Prop extends CRef04 T where
 h122 : T 122 = some ⟨2, 32, [.t 4], b122, none, false⟩
 h95 : T 95 = some ⟨1, 19, [.t 2], b95, none, false⟩
 h96 : T 96 = some ⟨2, 30, [], b96, (some [true, false]), false⟩
 h97 : T 97 = some ⟨2, 37, [], b97, (some [true, false]), false⟩
 h63 : T 63 = some ⟨2, 54, [.t 4, .t 5], b63, none, false⟩
end Go.Ab
end

section
namespace Go.Ab
section
variable {T : Tbl} [CRef05 T]
def stDb (a : List UInt32) (y : Nat × Nat × List UInt32) : St :=
 ⟨[(0, .bs (.bor 0) 0 1 0 a.length), (4, u32 y.2.1), (5, .i .i64 y.1)], [(.bor 0, ⟨0, .own, 1, u32s (y.2.2 ++ a.drop y.1)⟩)], 4⟩
end
section
variable {T : Tbl} [CRef05 T]
def stLs (a b : List UInt32) (y : Nat × Nat × List UInt32) : St :=
 ⟨[(0, .bs (.bor 0) 0 1 0 a.length), (1, .sl (u32s b) .an), (4, u64 y.2.1), (5, .i .i64 y.1)], [(.bor 0, ⟨0, .own, 1, u32s (y.2.2 ++ a.drop y.1)⟩)], 4⟩
def stHs (x i : Nat) (y : Nat) : St := ⟨[(1, .i .i64 i), (5, u32 (x / 2 ^ y)), (6, .i .i64 y)], [], 2⟩
end
section
variable {T : Tbl} [CRef05 T]
def stLn (a : List UInt32) (y : Nat) : St := ⟨[(0, .sl (u32s a) .an), (3, .i .i64 y)], [], 2⟩
end
end Go.Ab
end

section
namespace Go.Ab
section
variable {T : Tbl} [CRef05 T]
def stDv (a b : List UInt32) (y : Nat × List UInt32 × List UInt32) : St :=
  ⟨[(0, .sl (u32s a) .an), (1, .sl (u32s b) .an), (6, .bs (.loc 11) 1 1 0 a.length), (7, .bs (.loc 15) 2 1 0 (b.length + 1)), (8, .i .i64 ((y.1 : Int) - 1))], [(.loc 11, ⟨1, .own, 1, u32s y.2.1⟩), (.loc 15, ⟨2, .own, 1, u32s y.2.2⟩)], 4⟩
end
end Go.Ab
end

section
namespace Go.Ab
def l2043_0 : AX :=
 (.note
 (.seq
 (.seq
 (.reg [⟨(some 6), none, .mov (.t 3)⟩,
 ⟨(some 7), none, .bin .gtr (.t 6) (.c (.i .i64 0))⟩,
 ⟨(some 8), none, .mov (.t 7)⟩,
 ⟨(some 9), (some (8, true)), .mov (.t 0)⟩,
 ⟨(some 10), (some (8, true)), .mov (.t 3)⟩,
 ⟨(some 11), (some (8, true)), .bin .sub (.t 10) (.c (.i .i64 1))⟩,
 ⟨(some 12), (some (8, true)), .iad 1 (.t 9) (.t 11)⟩,
 ⟨(some 13), (some (8, true)), .load none (.t 12)⟩,
 ⟨(some 14), (some (8, true)), .bin .eql (.t 13) (.c (u32 0))⟩,
 ⟨(some 15), none, .pick (.t 8) (.t 14) (.c (.b false))⟩])
 (.cond (.t 15)
 .skip
 (.exit 0)))
 (.block 1
 (.reg [⟨(some 16), none, .mov (.t 3)⟩,
 ⟨(some 17), none, .bin .sub (.t 16) (.c (.i .i64 1))⟩,
 ⟨(some 3), none, .mov (.t 17)⟩])))
 (.norm false [0, 3]))
def b2043 : AX :=
 (.seq
 (.reg [⟨(some 2), none, .mov (.c (.sl [] .nl))⟩])
 (.seq
 (.reg [⟨(some 4), none, .mov (.t 0)⟩,
 ⟨(some 5), none, .len (.t 4)⟩,
 ⟨(some 3), none, .mov (.t 5)⟩])
 (.seq
 (.lp 0 (.norm false [0, 3]) l2043_0 (.norm false [0, 3]))
 (.seq
 (.reg [⟨(some 18), none, .bsl 1 [(u32 0)] 0 []⟩,
 ⟨(some 19), none, .mov (.t 0)⟩,
 ⟨(some 20), none, .mov (.t 3)⟩,
 ⟨(some 21), none, .slc 1 (.t 19) none (some (.t 20)) none⟩,
 ⟨(some 22), none, .app 1 (.t 18) (.t 21)⟩,
 ⟨(some 2), none, .mov (.t 22)⟩])
 (.pre (.norm false [2]) .ret)))))
class CRef07 (T : Tbl) : Prop extends CRef05 T where
 h2043 : T 2043 = some ⟨1, 23, [.t 2], b2043, (some [false]), false⟩
end Go.Ab
end

section
namespace Go.Ab
def l224_0 : AX :=
 (.note
 (.seq
 (.seq
 (.reg [mv 6 0, rg 7 (.bin .rem (.t 6) (.c (u32 2))), rg 8 (.bin .eql (.t 7) (.c (u32 0)))])
 (.cond (.t 8)
 .skip
 (.exit 0)))
 (.block 1
 (.seq
 (.reg [mv 9 0, rg 10 (.bin .quo (.t 9) (.c (u32 2))), mv 0 10])
 (.reg [mv 11 3, rg 12 (.bin .add (.t 11) (.c (.i .i64 1))), mv 3 12]))))
 (.norm false [0, 3]))
def b224 : AX :=
 (.seq
 (.reg [rg 2 (.mov (.c (.i .i64 0)))])
 (.seq
 (.seq
 (.reg [mv 4 0, rg 5 (.bin .eql (.t 4) (.c (u32 0)))])
 (.cond (.t 5)
 (.seq
 (.reg [rg 2 (.mov (.c (.i .i64 32)))])
 (.pre (.norm false [2]) .ret))
 .skip))
 (.seq
 (.reg [rg 3 (.mov (.c (.i .i64 0)))])
 (.seq
 (.lp 0 (.norm false [0, 3]) l224_0 (.norm false [3]))
 (.seq
 (.reg [mv 13 3, mv 2 13])
 (.pre (.norm false [2]) .ret))))))
def l225_0 : AX :=
 (.note
 (.seq
 (.seq
 (.reg [mv 7 5, mv 8 0, rg 9 (.len (.t 8)), rg 10 (.bin .lss (.t 7) (.t 9))])
 (.cond (.t 10)
 .skip
 (.exit 0)))
 (.seq
 (.block 1
 (.seq
 (.reg [rg 6 (.mov (.c (u64 0)))])
 (.seq
 (.seq
 (.reg [mv 13 5, rg 14 (.bin .add (.t 13) (.c (.i .i64 1))), mv 15 0, rg 16 (.len (.t 15)), rg 17 (.bin .lss (.t 14) (.t 16))])
 (.cond (.t 17)
 (.reg [mv 18 0, mv 19 5, rg 20 (.bin .add (.t 19) (.c (.i .i64 1))), rg 21 (.iad 1 (.t 18) (.t 20)), rg 22 (.load none (.t 21)), rg 23 (.conv .u64 (.t 22)),
 mv 6 23])
 .skip))
 (.reg [mv 24 0, mv 25 5, mv 26 6, rg 27 (.bin .mul (.t 26) (.c (u64 4294967296))), mv 28 0, mv 29 5, rg 30 (.iad 1 (.t 28) (.t 29)), rg 31 (.load none (.t 30)),
 rg 32 (.conv .u64 (.t 31)), rg 33 (.bin .add (.t 27) (.t 32)), mv 34 1, rg 35 (.bin .shr (.t 33) (.t 34)), rg 36 (.conv .u32 (.t 35)),
 rg 37 (.iad 1 (.t 24) (.t 25)), so (.store 1 (.t 37) (.t 36))]))))
 (.reg [mv 11 5, rg 12 (.bin .add (.t 11) (.c (.i .i64 1))), mv 5 12])))
 (.norm false [0, 1, 5]))
def l225_1 : AX :=
 (.note
 (.seq
 (.seq
 (.reg [mv 38 0, rg 39 (.len (.t 38)), rg 40 (.bin .gtr (.t 39) (.c (.i .i64 0))), mv 41 40, gd 42 41 true (.mov (.t 0)), gd 43 41 true (.mov (.t 0)),
 gd 44 41 true (.len (.t 43)), gd 45 41 true (.bin .sub (.t 44) (.c (.i .i64 1))), gd 46 41 true (.iad 1 (.t 42) (.t 45)),
 gd 47 41 true (.load none (.t 46)), gd 48 41 true (.bin .eql (.t 47) (.c (u32 0))), rg 49 (.pick (.t 41) (.t 48) (.c (.b false)))])
 (.cond (.t 49)
 .skip
 (.exit 2)))
 (.block 3
 (.reg [mv 50 0, mv 51 0, rg 52 (.len (.t 51)), rg 53 (.bin .sub (.t 52) (.c (.i .i64 1))), rg 54 (.slc 1 (.t 50) none (some (.t 53)) none), mv 0 54])))
 (.norm false [0]))
def b225 : AX :=
 (.seq
 (.reg [rg 4 (.mov (.c (.sl [] .nl)))])
 (.seq
 (.seq
 (.reg [rg 5 (.mov (.c (.i .i64 0)))])
 (.lp 0 (.norm false [0, 1, 5]) l225_0 (.norm false [0])))
 (.seq
 (.lp 2 (.norm false [0]) l225_1 (.norm false [0]))
 (.seq
 (.reg [mv 55 0, mv 4 55])
 (.pre (.norm false [4]) .ret)))))
def l226_0 : AX :=
 (.note
 (.seq
 (.seq
 (.reg [mv 6 0, rg 7 (.iad 1 (.t 6) (.c (.i .i64 0))), rg 8 (.load none (.t 7)), rg 9 (.bin .eql (.t 8) (.c (u32 0)))])
 (.cond (.t 9)
 .skip
 (.exit 0)))
 (.block 1
 (.seq
 (.reg [mv 10 0, rg 11 (.slc 1 (.t 10) (some (.c (.i .i64 1))) none none), mv 0 11])
 (.reg [mv 12 4, rg 13 (.bin .add (.t 12) (.c (.i .i64 32))), mv 4 13]))))
 (.norm false [0, 4]))
def b226 : AX :=
 (.seq
 (.reg [rg 2 (.mov (.c (.sl [] .nl))), rg 3 (.mov (.c (.i .i64 0)))])
 (.seq
 (.reg [rg 4 (.mov (.c (.i .i64 0)))])
 (.seq
 (.lp 0 (.norm false [0, 4]) l226_0 (.norm false [0, 4]))
 (.seq
 (.reg [mv 14 0, rg 15 (.iad 1 (.t 14) (.c (.i .i64 0))), rg 16 (.load none (.t 15)), rg 17 (.call 224 [(.t 16)]), mv 5 17])
 (.seq
 (.reg [mv 18 0, mv 19 5, rg 20 (.call 225 [(.t 18), (.t 19)]), mv 21 4, mv 22 5, rg 23 (.bin .add (.t 21) (.t 22)), mv 2 20, mv 3 23])
 (.pre (.norm false [2, 3]) .ret))))))
def b227 : AX :=
 (.seq
 (.reg [rg 4 (.mov (.c (.sl [] .nl)))])
 (.seq
 (.reg [mv 6 1, rg 7 (.bin .quo (.t 6) (.c (.i .i64 32))), rg 8 (.mks 1 [(u32 0)] (.t 7) (.t 7)), mv 9 0, rg 10 (.app 1 (.t 8) (.t 9)), mv 5 10])
 (.seq
 (.reg [mv 11 5, mv 12 1, rg 13 (.bin .rem (.t 12) (.c (.i .i64 32))), rg 14 (.bin .shl (.c (u32 1)) (.t 13)), rg 15 (.bsl 1 [(u32 0)] 1 [(0, (.t 14))]),
 rg 16 (.call 61 [(.t 11), (.t 15)]), mv 4 16])
 (.pre (.norm false [4]) .ret))))
def l228_0 : AX :=
 (.note
 (.block 1
 (.seq
 (.reg [mv 33 5, mv 34 6, rg 35 (.call 52 [(.t 33), (.t 34)]), mv 9 35])
 (.seq
 (.seq
 (.reg [mv 36 9, rg 37 (.bin .eql (.t 36) (.c (.i .i64 0)))])
 (.cond (.t 37)
 (.exit 0)
 .skip))
 (.seq
 (.seq
 (.reg [mv 38 9, rg 39 (.bin .lss (.t 38) (.c (.i .i64 0)))])
 (.cond (.t 39)
 (.seq
 (.reg [mv 40 5, mv 10 40])
 (.seq
 (.reg [mv 41 6, mv 5 41])
 (.reg [mv 42 10, mv 6 42])))
 .skip))
 (.seq
 (.reg [mv 43 5, mv 44 6, rg 45 (.call 2097 [(.t 43), (.t 44)])])
 (.reg [mv 47 5, rg 48 (.call 226 [(.t 47)]), mv 46 48, rg 49 (.ext (.t 46) 0), rg 50 (.ext (.t 46) 1), mv 5 49]))))))
 (.norm false [5, 6, 7, 8]))
def b228 : AX :=
 (.seq
 (.reg [rg 4 (.mov (.c (.sl [] .nl)))])
 (.seq
 (.reg [mv 11 0, rg 12 (.call 2043 [(.t 11)]), mv 5 12])
 (.seq
 (.reg [mv 13 1, rg 14 (.call 2043 [(.t 13)]), mv 6 14])
 (.seq
 (.seq
 (.reg [mv 15 5, rg 16 (.len (.t 15)), rg 17 (.bin .eql (.t 16) (.c (.i .i64 0)))])
 (.cond (.t 17)
 (.seq
 (.reg [mv 18 6, mv 4 18])
 (.pre (.norm false [4]) .ret))
 .skip))
 (.seq
 (.seq
 (.reg [mv 19 6, rg 20 (.len (.t 19)), rg 21 (.bin .eql (.t 20) (.c (.i .i64 0)))])
 (.cond (.t 21)
 (.seq
 (.reg [mv 22 5, mv 4 22])
 (.pre (.norm false [4]) .ret))
 .skip))
 (.seq
 (.reg [mv 24 5, rg 25 (.call 226 [(.t 24)]), mv 23 25, rg 26 (.ext (.t 23) 0), rg 27 (.ext (.t 23) 1), mv 5 26, mv 7 27])
 (.seq
 (.reg [mv 29 6, rg 30 (.call 226 [(.t 29)]), mv 28 30, rg 31 (.ext (.t 28) 0), rg 32 (.ext (.t 28) 1), mv 6 31, mv 8 32])
 (.seq
 (.lp 0 (.norm false [5, 6, 7, 8]) l228_0 (.norm false [5, 7, 8]))
 (.seq
 (.reg [mv 51 5, mv 52 7, mv 53 8, rg 54 (.mm false [(.t 52), (.t 53)]), rg 55 (.call 227 [(.t 51), (.t 54)]), mv 4 55])
 (.pre (.norm false [4]) .ret))))))))))
def b229 : AX :=
 (.seq
 (.reg [rg 2 (.mov (.c (.b false)))])
 (.seq
 (.reg [mv 3 0, rg 4 (.len (.t 3)), rg 5 (.bin .eql (.t 4) (.c (.i .i64 1))), mv 6 5, gd 7 6 true (.mov (.t 0)), gd 8 6 true (.iad 1 (.t 7) (.c (.i .i64 0))),
 gd 9 6 true (.load none (.t 8)), gd 10 6 true (.bin .eql (.t 9) (.c (u32 1))), rg 11 (.pick (.t 6) (.t 10) (.c (.b false))), mv 2 11])
 (.pre (.norm false [2]) .ret)))
def b230 : AX :=
 (.seq
 (.reg [rg 4 (.mov (.c (.sl [] .nl)))])
 (.seq
 (.seq
 (.reg [mv 7 1, rg 8 (.call 229 [(.t 7)])])
 (.cond (.t 8)
 (.seq
 (.reg [mv 9 0, rg 10 (.call 43 [(.t 9)]), mv 4 10])
 (.pre (.norm false [4]) .ret))
 .skip))
 (.seq
 (.reg [mv 12 0, mv 13 1, rg 14 (.call 63 [(.t 12), (.t 13)]), mv 11 14, rg 15 (.ext (.t 11) 0), rg 16 (.ext (.t 11) 1), mv 5 15, mv 6 16])
 (.seq
 (.reg [mv 17 5, mv 4 17])
 (.pre (.norm false [4]) .ret)))))
def l2097_0 : AX :=
 (.note
 (.seq
 (.seq
 (.reg [mv 8 5, mv 9 0, rg 10 (.len (.t 9)), rg 11 (.bin .lss (.t 8) (.t 10))])
 (.cond (.t 11)
 .skip
 (.exit 0)))
 (.seq
 (.block 1
 (.seq
 (.reg [mv 14 0, mv 15 5, rg 16 (.iad 1 (.t 14) (.t 15)), rg 17 (.load none (.t 16)), rg 18 (.conv .u64 (.t 17)), mv 6 18])
 (.seq
 (.reg [mv 19 1, mv 20 5, rg 21 (.call 84 [(.t 19), (.t 20)]), rg 22 (.conv .u64 (.t 21)), mv 23 4, rg 24 (.bin .add (.t 22) (.t 23)), mv 7 24])
 (.seq
 (.reg [rg 4 (.mov (.c (u64 0)))])
 (.seq
 (.seq
 (.reg [mv 25 6, mv 26 7, rg 27 (.bin .lss (.t 25) (.t 26))])
 (.cond (.t 27)
 (.seq
 (.reg [mv 28 6, rg 29 (.bin .add (.t 28) (.c (u64 4294967296))), mv 6 29])
 (.reg [rg 4 (.mov (.c (u64 1)))]))
 .skip))
 (.reg [mv 30 0, mv 31 5, mv 32 6, mv 33 7, rg 34 (.bin .sub (.t 32) (.t 33)), rg 35 (.conv .u32 (.t 34)), rg 36 (.iad 1 (.t 30) (.t 31)),
 so (.store 1 (.t 36) (.t 35))]))))))
 (.reg [mv 12 5, rg 13 (.bin .add (.t 12) (.c (.i .i64 1))), mv 5 13])))
 (.norm false [0, 1, 4, 5]))
def b2097 : AX :=
 (.seq
 (.reg [rg 4 (.mov (.c (u64 0)))])
 (.seq
 (.reg [rg 5 (.mov (.c (.i .i64 0)))])
 (.lp 0 (.norm false [0, 1, 4, 5]) l2097_0 (.norm false []))))
class CRef06 (T : Tbl) : Prop where
 h224 : T 224 = some ⟨1, 14, [.t 2], b224, none, false⟩
 h225 : T 225 = some ⟨2, 56, [.t 4], b225, (some [true, false]), false⟩
 h226 : T 226 = some ⟨1, 24, [.t 2, .t 3], b226, (some [true]), false⟩
 h227 : T 227 = some ⟨2, 17, [.t 4], b227, none, false⟩
 h228 : T 228 = some ⟨2, 56, [.t 4], b228, none, false⟩
 h229 : T 229 = some ⟨1, 12, [.t 2], b229, none, false⟩
 h230 : T 230 = some ⟨2, 18, [.t 4], b230, none, false⟩
 h2097 : T 2097 = some ⟨2, 37, [], b2097, (some [true, true]), false⟩
section
variable {T : Tbl} [CRef06 T] {d : Option Nat} {st : St} {xs : List AV} {ps : List Opd} {e : Env} {h : Heap} {ol : List Heap}
theorem f224 (xs : List AV) (hn : xs.length = 1) : callF T 224 xs = retF [.t 2] false (evX (orc T) T 0 b224 ⟨argEnv xs, [], 1⟩) := callF_eq CRef06.h224 hn
theorem f225 (xs : List AV) (hb : Heap) (hn : xs.length = 2) : callH T 225 xs hb = retH [.t 4] false hb.length (evX (orc T) T hb.length b225 ⟨argEnv xs, hb, hb.length + 1⟩) := callH_eq CRef06.h225 hn
theorem f226 (xs : List AV) (hb : Heap) (hn : xs.length = 1) : callH T 226 xs hb = retH [.t 2, .t 3] false hb.length (evX (orc T) T hb.length b226 ⟨argEnv xs, hb, hb.length + 1⟩) := callH_eq CRef06.h226 hn
theorem f227 (xs : List AV) (hn : xs.length = 2) : callF T 227 xs = retF [.t 4] false (evX (orc T) T 0 b227 ⟨argEnv xs, [], 1⟩) := callF_eq CRef06.h227 hn
theorem f228 (xs : List AV) (hn : xs.length = 2) : callF T 228 xs = retF [.t 4] false (evX (orc T) T 0 b228 ⟨argEnv xs, [], 1⟩) := callF_eq CRef06.h228 hn
end
end Go.Ab
end

section
namespace Go.Ab
section
variable {T : Tbl} [CRef07 T]
def stTen (N : Nat) (y : Nat × Nat × List UInt32) (P : List UInt32) : St :=
 ⟨[(0, .bs (.bor 0) 0 1 0 N), (3, u64 y.2.1), (4, .i .i64 ((y.1 : Int) - 1))], [(.bor 0, ⟨0, .own, 1, u32s (P.take y.1 ++ y.2.2)⟩)], 4⟩
end
section
variable {T : Tbl} [CRef07 T]
def stTx (b : BId) (x : List UInt32) (s : List UInt8) : St := ⟨[(3, .bs b 1 1 0 x.length), (4, .s s)], [(b, ⟨1, .own, 1, u32s x⟩)], 3⟩
end
end Go.Ab
end

section
namespace Go.Ab
def b39 : AX :=
 (.seq
 (.reg [⟨(some 1), none, .xop (.box 2) [(.t 0)]⟩,
 ⟨(some 2), none, .alloc [(.b false), (.sl [] .nl)]⟩])
 (.seq
 (.reg [⟨(some 4), none, .fad 1 (.t 1)⟩,
 ⟨(some 5), none, .load none (.t 4)⟩,
 ⟨(some 6), none, .call 43 [(.t 5)]⟩,
 ⟨(some 3), none, .mov (.t 6)⟩])
 (.seq
 (.reg [⟨(some 7), none, .fad 0 (.t 1)⟩,
 ⟨(some 8), none, .load none (.t 7)⟩,
 ⟨(some 9), none, .mov (.t 8)⟩,
 ⟨(some 10), (some (9, true)), .mov (.t 3)⟩,
 ⟨(some 11), (some (9, true)), .len (.t 10)⟩,
 ⟨(some 12), (some (9, true)), .bin .gtr (.t 11) (.c (.i .i64 0))⟩,
 ⟨(some 13), none, .pick (.t 9) (.t 12) (.c (.b false))⟩,
 ⟨(some 14), none, .mov (.t 3)⟩,
 ⟨(some 15), none, .build [(.b false), (.sl [] .nl)] [(0, 1, (.t 13)), (1, 1, (.t 14))]⟩,
 ⟨none, none, .store 2 (.t 2) (.t 15)⟩])
 (.pre (.norm false [2]) .ret))))
def b21 : AX :=
 (.seq
 (.reg [⟨(some 2), none, .xop (.box 2) [(.t 0)]⟩,
 ⟨(some 3), none, .xop (.box 2) [(.t 1)]⟩,
 ⟨(some 4), none, .mov (.c (.b false))⟩])
 (.seq
 (.reg [⟨(some 5), none, .fad 0 (.t 2)⟩,
 ⟨(some 6), none, .load none (.t 5)⟩,
 ⟨(some 7), none, .fad 0 (.t 3)⟩,
 ⟨(some 8), none, .load none (.t 7)⟩,
 ⟨(some 9), none, .eqb false (.t 6) (.t 8)⟩,
 ⟨(some 10), none, .mov (.t 9)⟩,
 ⟨(some 11), (some (10, true)), .fad 1 (.t 2)⟩,
 ⟨(some 12), (some (10, true)), .load none (.t 11)⟩,
 ⟨(some 13), (some (10, true)), .fad 1 (.t 3)⟩,
 ⟨(some 14), (some (10, true)), .load none (.t 13)⟩,
 ⟨(some 15), (some (10, true)), .call 54 [(.t 12), (.t 14)]⟩,
 ⟨(some 16), none, .pick (.t 10) (.t 15) (.c (.b false))⟩,
 ⟨(some 4), none, .mov (.t 16)⟩])
 (.pre (.norm false [4]) .ret)))
def b30 : AX :=
 (.seq
 (.reg [⟨(some 1), none, .xop (.box 2) [(.t 0)]⟩,
 ⟨(some 2), none, .mov (.c (.i .i64 0))⟩])
 (.seq
 (.reg [⟨(some 4), none, .load (some 2) (.t 1)⟩,
 ⟨(some 5), none, .call 39 [(.t 4)]⟩,
 ⟨(some 3), none, .alloc [(.b false), (.sl [] .nl)]⟩,
 ⟨none, none, .store 2 (.t 3) (.t 5)⟩])
 (.seq
 (.seq
 (.reg [⟨(some 6), none, .fad 1 (.t 3)⟩,
 ⟨(some 7), none, .load none (.t 6)⟩,
 ⟨(some 8), none, .len (.t 7)⟩,
 ⟨(some 9), none, .bin .eql (.t 8) (.c (.i .i64 0))⟩])
 (.cond (.t 9)
 (.seq
 (.reg [⟨(some 2), none, .mov (.c (.i .i64 0))⟩])
 (.pre (.norm false [2]) .ret))
 .skip))
 (.seq
 (.seq
 (.reg [⟨(some 10), none, .fad 0 (.t 3)⟩,
 ⟨(some 11), none, .load none (.t 10)⟩])
 (.cond (.t 11)
 (.seq
 (.reg [⟨(some 2), none, .mov (.c (.i .i64 (-1)))⟩])
 (.pre (.norm false [2]) .ret))
 .skip))
 (.seq
 (.reg [⟨(some 2), none, .mov (.c (.i .i64 1))⟩])
 (.pre (.norm false [2]) .ret))))))
def b26 : AX :=
 (.seq
 (.reg [⟨(some 1), none, .xop (.box 2) [(.t 0)]⟩,
 ⟨(some 2), none, .alloc [(.b false), (.sl [] .nl)]⟩])
 (.seq
 (.reg [⟨(some 3), none, .fad 0 (.t 1)⟩,
 ⟨(some 4), none, .load none (.t 3)⟩,
 ⟨(some 5), none, .un .not (.t 4)⟩,
 ⟨(some 6), none, .fad 1 (.t 1)⟩,
 ⟨(some 7), none, .load none (.t 6)⟩,
 ⟨(some 8), none, .build [(.b false), (.sl [] .nl)] [(0, 1, (.t 5)), (1, 1, (.t 7))]⟩,
 ⟨(some 9), none, .call 39 [(.t 8)]⟩,
 ⟨none, none, .store 2 (.t 2) (.t 9)⟩])
 (.pre (.norm false [2]) .ret)))
def b24 : AX :=
 (.seq
 (.reg [⟨(some 2), none, .xop (.box 2) [(.t 0)]⟩,
 ⟨(some 3), none, .xop (.box 2) [(.t 1)]⟩,
 ⟨(some 4), none, .alloc [(.b false), (.sl [] .nl)]⟩])
 (.seq
 (.seq
 (.reg [⟨(some 5), none, .fad 0 (.t 2)⟩,
 ⟨(some 6), none, .load none (.t 5)⟩,
 ⟨(some 7), none, .fad 0 (.t 3)⟩,
 ⟨(some 8), none, .load none (.t 7)⟩,
 ⟨(some 9), none, .eqb false (.t 6) (.t 8)⟩])
 (.cond (.t 9)
 (.seq
 (.drawT [⟨(some 10), none, .fad 0 (.t 2)⟩,
 ⟨(some 11), none, .load none (.t 10)⟩,
 ⟨(some 12), none, .fad 1 (.t 2)⟩,
 ⟨(some 13), none, .load none (.t 12)⟩,
 ⟨(some 14), none, .fad 1 (.t 3)⟩,
 ⟨(some 15), none, .load none (.t 14)⟩,
 ⟨(some 16), none, .call 58 [(.t 13), (.t 15)]⟩]
 [⟨(some 17), none, .build [(.b false), (.sl [] .nl)] [(0, 1, (.t 11)), (1, 1, (.t 16))]⟩,
 ⟨(some 18), none, .call 39 [(.t 17)]⟩,
 ⟨none, none, .store 2 (.t 4) (.t 18)⟩])
 (.pre (.norm false [4]) .ret))
 .skip))
 (.seq
 (.seq
 (.reg [⟨(some 19), none, .fad 1 (.t 2)⟩,
 ⟨(some 20), none, .load none (.t 19)⟩,
 ⟨(some 21), none, .fad 1 (.t 3)⟩,
 ⟨(some 22), none, .load none (.t 21)⟩,
 ⟨(some 23), none, .call 52 [(.t 20), (.t 22)]⟩,
 ⟨(some 24), none, .bin .lss (.t 23) (.c (.i .i64 0))⟩])
 (.cond (.t 24)
 (.seq
 (.drawT [⟨(some 25), none, .fad 0 (.t 3)⟩,
 ⟨(some 26), none, .load none (.t 25)⟩,
 ⟨(some 27), none, .fad 1 (.t 3)⟩,
 ⟨(some 28), none, .load none (.t 27)⟩,
 ⟨(some 29), none, .fad 1 (.t 2)⟩,
 ⟨(some 30), none, .load none (.t 29)⟩,
 ⟨(some 31), none, .call 59 [(.t 28), (.t 30)]⟩]
 [⟨(some 32), none, .build [(.b false), (.sl [] .nl)] [(0, 1, (.t 26)), (1, 1, (.t 31))]⟩,
 ⟨(some 33), none, .call 39 [(.t 32)]⟩,
 ⟨none, none, .store 2 (.t 4) (.t 33)⟩])
 (.pre (.norm false [4]) .ret))
 .skip))
 (.seq
 (.drawT [⟨(some 34), none, .fad 0 (.t 2)⟩,
 ⟨(some 35), none, .load none (.t 34)⟩,
 ⟨(some 36), none, .fad 1 (.t 2)⟩,
 ⟨(some 37), none, .load none (.t 36)⟩,
 ⟨(some 38), none, .fad 1 (.t 3)⟩,
 ⟨(some 39), none, .load none (.t 38)⟩,
 ⟨(some 40), none, .call 59 [(.t 37), (.t 39)]⟩]
 [⟨(some 41), none, .build [(.b false), (.sl [] .nl)] [(0, 1, (.t 35)), (1, 1, (.t 40))]⟩,
 ⟨(some 42), none, .call 39 [(.t 41)]⟩,
 ⟨none, none, .store 2 (.t 4) (.t 42)⟩])
 (.pre (.norm false [4]) .ret)))))
def b28 : AX :=
 (.seq
 (.reg [⟨(some 2), none, .xop (.box 2) [(.t 0)]⟩,
 ⟨(some 3), none, .xop (.box 2) [(.t 1)]⟩,
 ⟨(some 4), none, .alloc [(.b false), (.sl [] .nl)]⟩])
 (.seq
 (.drawT [⟨(some 5), none, .fad 0 (.t 2)⟩,
 ⟨(some 6), none, .load none (.t 5)⟩,
 ⟨(some 7), none, .fad 0 (.t 3)⟩,
 ⟨(some 8), none, .load none (.t 7)⟩,
 ⟨(some 9), none, .eqb true (.t 6) (.t 8)⟩,
 ⟨(some 10), none, .fad 1 (.t 2)⟩,
 ⟨(some 11), none, .load none (.t 10)⟩,
 ⟨(some 12), none, .fad 1 (.t 3)⟩,
 ⟨(some 13), none, .load none (.t 12)⟩,
 ⟨(some 14), none, .call 61 [(.t 11), (.t 13)]⟩]
 [⟨(some 15), none, .build [(.b false), (.sl [] .nl)] [(0, 1, (.t 9)), (1, 1, (.t 14))]⟩,
 ⟨(some 16), none, .call 39 [(.t 15)]⟩,
 ⟨none, none, .store 2 (.t 4) (.t 16)⟩])
 (.pre (.norm false [4]) .ret)))
def b31 : AX :=
 (.seq
 (.reg [⟨(some 2), none, .xop (.box 2) [(.t 0)]⟩,
 ⟨(some 3), none, .xop (.box 2) [(.t 1)]⟩,
 ⟨(some 4), none, .alloc [(.b false), (.sl [] .nl)]⟩,
 ⟨(some 5), none, .alloc [(.b false), (.sl [] .nl)]⟩])
 (.seq
 (.reg [⟨(some 10), none, .fad 1 (.t 2)⟩,
 ⟨(some 11), none, .load none (.t 10)⟩,
 ⟨(some 12), none, .fad 1 (.t 3)⟩,
 ⟨(some 13), none, .load none (.t 12)⟩,
 ⟨(some 14), none, .call 63 [(.t 11), (.t 13)]⟩,
 ⟨(some 9), none, .mov (.t 14)⟩,
 ⟨(some 15), none, .ext (.t 9) 0⟩,
 ⟨(some 16), none, .ext (.t 9) 1⟩,
 ⟨(some 6), none, .mov (.t 15)⟩,
 ⟨(some 7), none, .mov (.t 16)⟩])
 (.seq
 (.seq
 (.reg [⟨(some 17), none, .fad 0 (.t 2)⟩,
 ⟨(some 18), none, .load none (.t 17)⟩,
 ⟨(some 19), none, .fad 0 (.t 3)⟩,
 ⟨(some 20), none, .load none (.t 19)⟩,
 ⟨(some 21), none, .eqb true (.t 18) (.t 20)⟩,
 ⟨(some 22), none, .mov (.t 21)⟩,
 ⟨(some 23), (some (22, true)), .mov (.t 7)⟩,
 ⟨(some 24), (some (22, true)), .len (.t 23)⟩,
 ⟨(some 25), (some (22, true)), .bin .gtr (.t 24) (.c (.i .i64 0))⟩,
 ⟨(some 26), none, .pick (.t 22) (.t 25) (.c (.b false))⟩])
 (.cond (.t 26)
 (.reg [⟨(some 27), none, .mov (.t 6)⟩,
 ⟨(some 28), none, .bsl 1 [(u32 0)] 1 [(0, (.c (u32 1)))]⟩,
 ⟨(some 29), none, .call 58 [(.t 27), (.t 28)]⟩,
 ⟨(some 6), none, .mov (.t 29)⟩])
 .skip))
 (.seq
 (.reg [⟨(some 30), none, .fad 0 (.t 2)⟩,
 ⟨(some 31), none, .load none (.t 30)⟩,
 ⟨(some 32), none, .fad 0 (.t 3)⟩,
 ⟨(some 33), none, .load none (.t 32)⟩,
 ⟨(some 34), none, .eqb true (.t 31) (.t 33)⟩,
 ⟨(some 35), none, .mov (.t 6)⟩,
 ⟨(some 36), none, .build [(.b false), (.sl [] .nl)] [(0, 1, (.t 34)), (1, 1, (.t 35))]⟩,
 ⟨(some 37), none, .call 39 [(.t 36)]⟩,
 ⟨(some 8), none, .alloc [(.b false), (.sl [] .nl)]⟩,
 ⟨none, none, .store 2 (.t 8) (.t 37)⟩])
 (.seq
 (.drawT [⟨(some 38), none, .load (some 2) (.t 8)⟩,
 ⟨(some 39), none, .load (some 2) (.t 2)⟩,
 ⟨(some 40), none, .load (some 2) (.t 8)⟩,
 ⟨(some 41), none, .load (some 2) (.t 3)⟩,
 ⟨(some 42), none, .call 28 [(.t 40), (.t 41)]⟩,
 ⟨(some 43), none, .call 26 [(.t 42)]⟩,
 ⟨(some 44), none, .call 24 [(.t 39), (.t 43)]⟩]
 [⟨none, none, .store 2 (.t 4) (.t 38)⟩,
 ⟨none, none, .store 2 (.t 5) (.t 44)⟩])
 (.pre (.norm false [4, 5]) .ret))))))
def b35 : AX :=
 (.seq
 (.reg [⟨(some 1), none, .xop (.box 2) [(.t 0)]⟩,
 ⟨(some 2), none, .mov (.c (.s []))⟩])
 (.seq
 (.reg [⟨(some 4), none, .fad 1 (.t 1)⟩,
 ⟨(some 5), none, .load none (.t 4)⟩,
 ⟨(some 6), none, .call 69 [(.t 5)]⟩,
 ⟨(some 3), none, .mov (.t 6)⟩])
 (.seq
 (.seq
 (.reg [⟨(some 7), none, .load (some 2) (.t 1)⟩,
 ⟨(some 8), none, .call 30 [(.t 7)]⟩,
 ⟨(some 9), none, .bin .lss (.t 8) (.c (.i .i64 0))⟩])
 (.cond (.t 9)
 (.reg [⟨(some 10), none, .mov (.t 3)⟩,
 ⟨(some 11), none, .bin .add (.c (.s [45])) (.t 10)⟩,
 ⟨(some 3), none, .mov (.t 11)⟩])
 .skip))
 (.seq
 (.reg [⟨(some 12), none, .mov (.t 3)⟩,
 ⟨(some 2), none, .mov (.t 12)⟩])
 (.pre (.norm false [2]) .ret)))))
def b33 : AX :=
 (.seq
 (.reg [⟨(some 2), none, .alloc [(.b false), (.sl [] .nl)]⟩,
 ⟨(some 3), none, .mov (.c (.i .i64 0))⟩])
 (.seq
 (.reg [⟨(some 7), none, .mov (.t 0)⟩,
 ⟨(some 8), none, .lens (.t 7)⟩,
 ⟨(some 9), none, .bin .gtr (.t 8) (.c (.i .i64 0))⟩,
 ⟨(some 10), none, .mov (.t 9)⟩,
 ⟨(some 11), (some (10, true)), .mov (.t 0)⟩,
 ⟨(some 12), (some (10, true)), .ixs (.t 11) (.c (.i .i64 0))⟩,
 ⟨(some 13), (some (10, true)), .bin .eql (.t 12) (.c (u8 45))⟩,
 ⟨(some 14), none, .pick (.t 10) (.t 13) (.c (.b false))⟩,
 ⟨(some 4), none, .mov (.t 14)⟩])
 (.seq
 (.reg [⟨(some 5), none, .mov (.c (.i .i64 0))⟩])
 (.seq
 (.seq
 (.reg [⟨(some 15), none, .mov (.t 4)⟩])
 (.cond (.t 15)
 (.reg [⟨(some 5), none, .mov (.c (.i .i64 1))⟩])
 .skip))
 (.seq
 (.reg [⟨(some 16), none, .mov (.t 0)⟩,
 ⟨(some 17), none, .mov (.t 5)⟩,
 ⟨(some 18), none, .slstr (.t 16) (some (.t 17)) none⟩,
 ⟨(some 19), none, .call 66 [(.t 18)]⟩,
 ⟨(some 6), none, .mov (.t 19)⟩])
 (.seq
 (.seq
 (.reg [⟨(some 20), none, .mov (.t 6)⟩,
 ⟨(some 21), none, .bin .geq (.t 20) (.c (.i .i64 0))⟩])
 (.cond (.t 21)
 (.seq
 (.reg [⟨(some 22), none, .build [(.b false), (.sl [] .nl)] []⟩,
 ⟨(some 23), none, .mov (.t 5)⟩,
 ⟨(some 24), none, .mov (.t 6)⟩,
 ⟨(some 25), none, .bin .add (.t 23) (.t 24)⟩,
 ⟨none, none, .store 2 (.t 2) (.t 22)⟩,
 ⟨(some 3), none, .mov (.t 25)⟩])
 (.pre (.norm false [2, 3]) .ret))
 .skip))
 (.seq
 (.reg [⟨(some 26), none, .mov (.t 4)⟩,
 ⟨(some 27), none, .mov (.t 0)⟩,
 ⟨(some 28), none, .mov (.t 5)⟩,
 ⟨(some 29), none, .slstr (.t 27) (some (.t 28)) none⟩,
 ⟨(some 30), none, .call 67 [(.t 29)]⟩,
 ⟨(some 31), none, .build [(.b false), (.sl [] .nl)] [(0, 1, (.t 26)), (1, 1, (.t 30))]⟩,
 ⟨(some 32), none, .call 39 [(.t 31)]⟩,
 ⟨none, none, .store 2 (.t 2) (.t 32)⟩,
 ⟨(some 3), none, .mov (.c (.i .i64 (-1)))⟩])
 (.pre (.norm false [2, 3]) .ret))))))))
class CRef08 (T : Tbl) : Prop extends CRef07 T where
 h39 : T 39 = some ⟨1, 16, [.cell 2 (some 2)], b39, none, false⟩
 h21 : T 21 = some ⟨2, 17, [.t 4], b21, none, false⟩
 h30 : T 30 = some ⟨1, 12, [.t 2], b30, none, false⟩
 h26 : T 26 = some ⟨1, 10, [.cell 2 (some 2)], b26, none, false⟩
 h24 : T 24 = some ⟨2, 43, [.cell 4 (some 2)], b24, none, false⟩
 h28 : T 28 = some ⟨2, 17, [.cell 4 (some 2)], b28, none, false⟩
 h31 : T 31 = some ⟨2, 45, [.cell 4 (some 2), .cell 5 (some 2)], b31, none, false⟩
 h35 : T 35 = some ⟨1, 13, [.t 2], b35, none, false⟩
 h33 : T 33 = some ⟨1, 33, [.cell 2 (some 2), .t 3], b33, none, false⟩
section
variable {T : Tbl} [CRef08 T] {d : Option Nat} {st : St}
@[simp] theorem x39 (xs : List AV) : callX (orc T) T 39 xs d st = bL (frzL st.heap xs) fun ys => cR (callF T 39 (ys.map (wkIf false))) xs d st := callX_pure CRef08.h39
@[simp] theorem x21 (xs : List AV) : callX (orc T) T 21 xs d st = bL (frzL st.heap xs) fun ys => cR (callF T 21 (ys.map (wkIf false))) xs d st := callX_pure CRef08.h21
@[simp] theorem x30 (xs : List AV) : callX (orc T) T 30 xs d st = bL (frzL st.heap xs) fun ys => cR (callF T 30 (ys.map (wkIf false))) xs d st := callX_pure CRef08.h30
@[simp] theorem x26 (xs : List AV) : callX (orc T) T 26 xs d st = bL (frzL st.heap xs) fun ys => cR (callF T 26 (ys.map (wkIf false))) xs d st := callX_pure CRef08.h26
@[simp] theorem x24 (xs : List AV) : callX (orc T) T 24 xs d st = bL (frzL st.heap xs) fun ys => cR (callF T 24 (ys.map (wkIf false))) xs d st := callX_pure CRef08.h24
@[simp] theorem x28 (xs : List AV) : callX (orc T) T 28 xs d st = bL (frzL st.heap xs) fun ys => cR (callF T 28 (ys.map (wkIf false))) xs d st := callX_pure CRef08.h28
@[simp] theorem x31 (xs : List AV) : callX (orc T) T 31 xs d st = bL (frzL st.heap xs) fun ys => cR (callF T 31 (ys.map (wkIf false))) xs d st := callX_pure CRef08.h31
@[simp] theorem x35 (xs : List AV) : callX (orc T) T 35 xs d st = bL (frzL st.heap xs) fun ys => cR (callF T 35 (ys.map (wkIf false))) xs d st := callX_pure CRef08.h35
@[simp] theorem x33 (xs : List AV) : callX (orc T) T 33 xs d st = bL (frzL st.heap xs) fun ys => cR (callF T 33 (ys.map (wkIf false))) xs d st := callX_pure CRef08.h33
end
end Go.Ab
end

section
namespace Go.Ab
def b231 : AX :=
 (.seq
 (.reg [rg 1 (.xop (.box 3) [(.t 0)]), rg 2 (.alloc [(.b false), (.sl [] .nl), (.sl [] .nl)])])
 (.seq
 (.reg [rg 6 (.fad 2 (.t 1)), rg 7 (.load none (.t 6)), rg 8 (.call 43 [(.t 7)]), mv 3 8])
 (.seq
 (.reg [rg 9 (.fad 1 (.t 1)), rg 10 (.load none (.t 9)), rg 11 (.call 43 [(.t 10)]), mv 4 11])
 (.seq
 (.seq
 (.reg [mv 12 3, rg 13 (.len (.t 12)), rg 14 (.bin .eql (.t 13) (.c (.i .i64 0))), mv 15 14, gd 16 15 false (.mov (.t 4)), gd 17 15 false (.len (.t 16)),
 gd 18 15 false (.bin .eql (.t 17) (.c (.i .i64 0))), rg 19 (.pick (.t 15) (.c (.b true)) (.t 18))])
 (.cond (.t 19)
 (.seq
 (.reg [rg 20 (.bsl 1 [(u32 0)] 0 []), rg 21 (.bsl 1 [(u32 0)] 1 [(0, (.c (u32 1)))]),
 rg 22 (.build [(.b false), (.sl [] .nl), (.sl [] .nl)] [(1, 1, (.t 20)), (2, 1, (.t 21))]), so (.store 3 (.t 2) (.t 22))])
 (.pre (.norm false [2]) .ret))
 .skip))
 (.seq
 (.seq
 (.reg [mv 23 3, rg 24 (.call 229 [(.t 23)]), rg 25 (.un .not (.t 24))])
 (.cond (.t 25)
 (.seq
 (.reg [mv 26 4, mv 27 3, rg 28 (.call 228 [(.t 26), (.t 27)]), mv 5 28])
 (.seq
 (.reg [mv 29 4, mv 30 5, rg 31 (.call 230 [(.t 29), (.t 30)]), mv 4 31])
 (.reg [mv 32 3, mv 33 5, rg 34 (.call 230 [(.t 32), (.t 33)]), mv 3 34])))
 .skip))
 (.seq
 (.reg [rg 35 (.fad 0 (.t 1)), rg 36 (.load none (.t 35)), mv 37 4, mv 38 3,
 rg 39 (.build [(.b false), (.sl [] .nl), (.sl [] .nl)] [(0, 1, (.t 36)), (1, 1, (.t 37)), (2, 1, (.t 38))]), so (.store 3 (.t 2) (.t 39))])
 (.pre (.norm false [2]) .ret)))))))
def b232 : AX :=
 (.seq
 (.reg [rg 2 (.alloc [(.b false), (.sl [] .nl), (.sl [] .nl)])])
 (.seq
 (.seq
 (.reg [mv 3 0, rg 4 (.bin .lss (.t 3) (.c (.i .i64 0)))])
 (.cond (.t 4)
 (.seq
 (.reg [mv 5 0, rg 6 (.bin .add (.t 5) (.c (.i .i64 1))), rg 7 (.un .neg (.t 6)), rg 8 (.conv .u64 (.t 7)), rg 9 (.call 353 [(.t 8)]),
 rg 10 (.bsl 1 [(u32 0)] 1 [(0, (.c (u32 1)))]), rg 11 (.call 58 [(.t 9), (.t 10)]), rg 12 (.bsl 1 [(u32 0)] 1 [(0, (.c (u32 1)))]),
 rg 13 (.build [(.b false), (.sl [] .nl), (.sl [] .nl)] [(0, 1, (.c (.b true))), (1, 1, (.t 11)), (2, 1, (.t 12))]), rg 14 (.call 231 [(.t 13)]),
 so (.store 3 (.t 2) (.t 14))])
 (.pre (.norm false [2]) .ret))
 .skip))
 (.seq
 (.reg [mv 15 0, rg 16 (.conv .u64 (.t 15)), rg 17 (.call 353 [(.t 16)]), rg 18 (.bsl 1 [(u32 0)] 1 [(0, (.c (u32 1)))]),
 rg 19 (.build [(.b false), (.sl [] .nl), (.sl [] .nl)] [(1, 1, (.t 17)), (2, 1, (.t 18))]), rg 20 (.call 231 [(.t 19)]), so (.store 3 (.t 2) (.t 20))])
 (.pre (.norm false [2]) .ret))))
def b233 : AX :=
 (.seq
 (.reg [rg 2 (.xop (.box 3) [(.t 0)]), rg 3 (.xop (.box 3) [(.t 1)]), rg 4 (.mov (.c (.b false)))])
 (.seq
 (.reg [rg 5 (.fad 0 (.t 2)), rg 6 (.load none (.t 5)), rg 7 (.fad 0 (.t 3)), rg 8 (.load none (.t 7)), rg 9 (.eqb false (.t 6) (.t 8)), mv 10 9,
 gd 11 10 true (.fad 1 (.t 2)), gd 12 10 true (.load none (.t 11)), gd 13 10 true (.fad 1 (.t 3)), gd 14 10 true (.load none (.t 13)),
 gd 15 10 true (.call 54 [(.t 12), (.t 14)]), rg 16 (.pick (.t 10) (.t 15) (.c (.b false))), mv 17 16, gd 18 17 true (.fad 2 (.t 2)),
 gd 19 17 true (.load none (.t 18)), gd 20 17 true (.fad 2 (.t 3)), gd 21 17 true (.load none (.t 20)), gd 22 17 true (.call 54 [(.t 19), (.t 21)]),
 rg 23 (.pick (.t 17) (.t 22) (.c (.b false))), mv 4 23])
 (.pre (.norm false [4]) .ret)))
def b236 : AX :=
 (.seq
 (.reg [rg 1 (.xop (.box 3) [(.t 0)]), rg 2 (.mov (.c (.i .i64 0)))])
 (.seq
 (.seq
 (.reg [rg 3 (.fad 1 (.t 1)), rg 4 (.load none (.t 3)), rg 5 (.len (.t 4)), rg 6 (.bin .eql (.t 5) (.c (.i .i64 0)))])
 (.cond (.t 6)
 (.seq
 (.reg [rg 2 (.mov (.c (.i .i64 0)))])
 (.pre (.norm false [2]) .ret))
 .skip))
 (.seq
 (.seq
 (.reg [rg 7 (.fad 0 (.t 1)), rg 8 (.load none (.t 7))])
 (.cond (.t 8)
 (.seq
 (.reg [rg 2 (.mov (.c (.i .i64 (-1))))])
 (.pre (.norm false [2]) .ret))
 .skip))
 (.seq
 (.reg [rg 2 (.mov (.c (.i .i64 1)))])
 (.pre (.norm false [2]) .ret)))))
def b237 : AX :=
 (.seq
 (.reg [rg 1 (.xop (.box 3) [(.t 0)]), rg 2 (.alloc [(.b false), (.sl [] .nl), (.sl [] .nl)])])
 (.seq
 (.reg [rg 3 (.fad 0 (.t 1)), rg 4 (.load none (.t 3)), rg 5 (.un .not (.t 4)), rg 6 (.fad 1 (.t 1)), rg 7 (.load none (.t 6)), rg 8 (.fad 2 (.t 1)),
 rg 9 (.load none (.t 8)), rg 10 (.build [(.b false), (.sl [] .nl), (.sl [] .nl)] [(0, 1, (.t 5)), (1, 1, (.t 7)), (2, 1, (.t 9))]),
 rg 11 (.call 231 [(.t 10)]), so (.store 3 (.t 2) (.t 11))])
 (.pre (.norm false [2]) .ret)))
def b239 : AX :=
 (.seq
 (.reg [rg 2 (.xop (.box 3) [(.t 0)]), rg 3 (.xop (.box 3) [(.t 1)]), rg 4 (.alloc [(.b false), (.sl [] .nl), (.sl [] .nl)])])
 (.seq
 (.draw [⟨rg 8 (.fad 0 (.t 2)), 0, 1⟩, ⟨rg 9 (.load none (.t 8)), 0, 1⟩, ⟨rg 10 (.fad 1 (.t 2)), 0, 1⟩, ⟨rg 11 (.load none (.t 10)), 0, 1⟩,
 ⟨rg 12 (.fad 2 (.t 3)), 0, 1⟩, ⟨rg 13 (.load none (.t 12)), 0, 1⟩, ⟨rg 14 (.call 61 [(.t 11), (.t 13)]), 0, 1⟩,
 ⟨rg 15 (.build [(.b false), (.sl [] .nl)] [(0, 1, (.t 9)), (1, 1, (.t 14))]), 0, 1⟩, ⟨rg 5 (.alloc [(.b false), (.sl [] .nl)]), 0, 1⟩,
 ⟨so (.store 2 (.t 5) (.t 15)), 1, 2⟩])
 (.seq
 (.draw [⟨rg 16 (.fad 0 (.t 3)), 0, 1⟩, ⟨rg 17 (.load none (.t 16)), 0, 1⟩, ⟨rg 18 (.fad 1 (.t 3)), 0, 1⟩, ⟨rg 19 (.load none (.t 18)), 0, 1⟩,
 ⟨rg 20 (.fad 2 (.t 2)), 0, 1⟩, ⟨rg 21 (.load none (.t 20)), 0, 1⟩, ⟨rg 22 (.call 61 [(.t 19), (.t 21)]), 0, 1⟩,
 ⟨rg 23 (.build [(.b false), (.sl [] .nl)] [(0, 1, (.t 17)), (1, 1, (.t 22))]), 0, 1⟩, ⟨rg 6 (.alloc [(.b false), (.sl [] .nl)]), 0, 1⟩,
 ⟨so (.store 2 (.t 6) (.t 23)), 1, 2⟩])
 (.seq
 (.reg [rg 24 (.load (some 2) (.t 5)), rg 25 (.load (some 2) (.t 6)), rg 26 (.call 24 [(.t 24), (.t 25)]), rg 7 (.alloc [(.b false), (.sl [] .nl)]),
 so (.store 2 (.t 7) (.t 26))])
 (.seq
 (.drawT [rg 27 (.fad 0 (.t 7)), rg 28 (.load none (.t 27)), rg 29 (.fad 1 (.t 7)), rg 30 (.load none (.t 29)), rg 31 (.fad 2 (.t 2)), rg 32 (.load none (.t 31)),
 rg 33 (.fad 2 (.t 3)), rg 34 (.load none (.t 33)), rg 35 (.call 61 [(.t 32), (.t 34)])]
 [rg 36 (.build [(.b false), (.sl [] .nl), (.sl [] .nl)] [(0, 1, (.t 28)), (1, 1, (.t 30)), (2, 1, (.t 35))]), rg 37 (.call 231 [(.t 36)]),
 so (.store 3 (.t 4) (.t 37))])
 (.pre (.norm false [4]) .ret))))))
def b240 : AX :=
 (.seq
 (.reg [rg 2 (.xop (.box 3) [(.t 0)]), rg 3 (.xop (.box 3) [(.t 1)]), rg 4 (.alloc [(.b false), (.sl [] .nl), (.sl [] .nl)])])
 (.seq
 (.drawT [rg 5 (.load (some 3) (.t 2)), rg 6 (.load (some 3) (.t 3)), rg 7 (.call 237 [(.t 6)])]
 [rg 8 (.call 239 [(.t 5), (.t 7)]), so (.store 3 (.t 4) (.t 8))])
 (.pre (.norm false [4]) .ret)))
def b241 : AX :=
 (.seq
 (.reg [rg 2 (.xop (.box 3) [(.t 0)]), rg 3 (.xop (.box 3) [(.t 1)]), rg 4 (.alloc [(.b false), (.sl [] .nl), (.sl [] .nl)])])
 (.seq
 (.drawT [rg 5 (.fad 0 (.t 2)), rg 6 (.load none (.t 5)), rg 7 (.fad 0 (.t 3)), rg 8 (.load none (.t 7)), rg 9 (.eqb true (.t 6) (.t 8)), rg 10 (.fad 1 (.t 2)),
 rg 11 (.load none (.t 10)), rg 12 (.fad 1 (.t 3)), rg 13 (.load none (.t 12)), rg 14 (.call 61 [(.t 11), (.t 13)]), rg 15 (.fad 2 (.t 2)),
 rg 16 (.load none (.t 15)), rg 17 (.fad 2 (.t 3)), rg 18 (.load none (.t 17)), rg 19 (.call 61 [(.t 16), (.t 18)])]
 [rg 20 (.build [(.b false), (.sl [] .nl), (.sl [] .nl)] [(0, 1, (.t 9)), (1, 1, (.t 14)), (2, 1, (.t 19))]), rg 21 (.call 231 [(.t 20)]),
 so (.store 3 (.t 4) (.t 21))])
 (.pre (.norm false [4]) .ret)))
def b247 : AX :=
 (.seq
 (.reg [rg 2 (.xop (.box 3) [(.t 0)]), rg 4 (.mov (.c (.b false)))])
 (.seq
 (.reg [rg 5 (.fad 1 (.t 2)), rg 6 (.load none (.t 5)), rg 7 (.len (.t 6)), mv 8 1, rg 9 (.bin .gtr (.t 7) (.t 8)), mv 10 9, gd 11 10 false (.fad 2 (.t 2)),
 gd 12 10 false (.load none (.t 11)), gd 13 10 false (.len (.t 12)), gd 14 10 false (.mov (.t 1)), gd 15 10 false (.bin .gtr (.t 13) (.t 14)),
 rg 16 (.pick (.t 10) (.c (.b true)) (.t 15)), mv 4 16])
 (.pre (.norm false [4]) .ret)))
def b353 : AX :=
 (.seq
 (.reg [rg 2 (.mov (.c (.sl [] .nl)))])
 (.seq
 (.reg [mv 3 0, rg 4 (.bin .rem (.t 3) (.c (u64 4294967296))), rg 5 (.conv .u32 (.t 4)), mv 6 0, rg 7 (.bin .quo (.t 6) (.c (u64 4294967296))),
 rg 8 (.conv .u32 (.t 7)), rg 9 (.bsl 1 [(u32 0)] 2 [(0, (.t 5)), (1, (.t 8))]), rg 10 (.call 43 [(.t 9)]), mv 2 10])
 (.pre (.norm false [2]) .ret)))
class CRef09 (T : Tbl) : Prop where
 h231 : T 231 = some ⟨1, 40, [.cell 2 (some 3)], b231, none, false⟩
 h232 : T 232 = some ⟨1, 21, [.cell 2 (some 3)], b232, none, false⟩
 h233 : T 233 = some ⟨2, 24, [.t 4], b233, none, false⟩
 h236 : T 236 = some ⟨1, 9, [.t 2], b236, none, false⟩
 h237 : T 237 = some ⟨1, 12, [.cell 2 (some 3)], b237, none, false⟩
 h239 : T 239 = some ⟨2, 38, [.cell 4 (some 3)], b239, none, false⟩
 h240 : T 240 = some ⟨2, 9, [.cell 4 (some 3)], b240, none, false⟩
 h241 : T 241 = some ⟨2, 22, [.cell 4 (some 3)], b241, none, false⟩
 h247 : T 247 = some ⟨2, 17, [.t 4], b247, none, false⟩
 h353 : T 353 = some ⟨1, 11, [.t 2], b353, none, false⟩
section
variable {T : Tbl} [CRef09 T] {d : Option Nat} {st : St} {xs : List AV} {ps : List Opd} {e : Env} {h : Heap} {ol : List Heap}
theorem f241 (xs : List AV) (hn : xs.length = 2) : callF T 241 xs = retF [.cell 4 (some 3)] false (evX (orc T) T 0 b241 ⟨argEnv xs, [], 1⟩) := callF_eq CRef09.h241 hn
@[simp] theorem x247 : callX (orc T) T 247 xs d st = cP T 247 false xs d st := callX_pure CRef09.h247
theorem f247 (xs : List AV) (hn : xs.length = 2) : callF T 247 xs = retF [.t 4] false (evX (orc T) T 0 b247 ⟨argEnv xs, [], 1⟩) := callF_eq CRef09.h247 hn
end
end Go.Ab
end

section
namespace Go.Ab
def l276_0 : AX :=
 (.note
 (.seq
 (.seq
 (.reg [mv 5 4, mv 6 0, rg 7 (.bin .lss (.t 5) (.t 6)), mv 8 7, gd 9 8 true (.mov (.t 4)), gd 10 8 true (.bin .lss (.t 9) (.c (.i .i64 300))),
 rg 11 (.pick (.t 8) (.t 10) (.c (.b false)))])
 (.cond (.t 11)
 .skip
 (.exit 0)))
 (.seq
 (.block 1
 (.reg [mv 14 3, rg 15 (.call 232 [(.c (.i .i64 0))]), rg 16 (.bsl 3 [(.b false), (.sl [] .nl), (.sl [] .nl)] 1 [(0, (.t 15))]), rg 17 (.app 3 (.t 14) (.t 16)),
 mv 3 17]))
 (.reg [mv 12 4, rg 13 (.bin .add (.t 12) (.c (.i .i64 1))), mv 4 13])))
 (.norm false [0, 3, 4]))
def b276 : AX :=
 (.seq
 (.reg [rg 2 (.mov (.c (.sl [] .nl)))])
 (.seq
 (.note (.reg [rg 3 (.mov (.c (.sl [] .nl)))]) (.nil 3 3))
 (.seq
 (.seq
 (.reg [rg 4 (.mov (.c (.i .i64 0)))])
 (.lp 0 (.norm false [0, 3, 4]) l276_0 (.norm false [3])))
 (.seq
 (.reg [mv 18 3, mv 2 18])
 (.pre (.norm false [2]) .ret)))))
def b277 : AX :=
 (.seq
 (.reg [rg 4 (.mov (.c (.sl [] .nl)))])
 (.seq
 (.reg [mv 6 0, rg 7 (.call 2276 [(.t 6)]), mv 5 7])
 (.seq
 (.seq
 (.reg [mv 8 1, rg 9 (.bin .geq (.t 8) (.c (.i .i64 0))), mv 10 9, gd 11 10 true (.mov (.t 1)), gd 12 10 true (.mov (.t 5)), gd 13 10 true (.len (.t 12)),
 gd 14 10 true (.bin .lss (.t 11) (.t 13)), rg 15 (.pick (.t 10) (.t 14) (.c (.b false)))])
 (.cond (.t 15)
 (.reg [mv 16 5, mv 17 1, rg 18 (.call 232 [(.c (.i .i64 1))]), rg 19 (.iad 3 (.t 16) (.t 17)), so (.store 3 (.t 19) (.t 18))])
 .skip))
 (.seq
 (.reg [mv 20 5, mv 4 20])
 (.pre (.norm false [4]) .ret)))))
def l278_0 : AX :=
 (.note
 (.seq
 (.seq
 (.reg [mv 5 4, mv 6 0, rg 7 (.len (.t 6)), rg 8 (.bin .lss (.t 5) (.t 7))])
 (.cond (.t 8)
 .skip
 (.exit 0)))
 (.seq
 (.block 1
 (.reg [mv 11 3, mv 12 0, mv 13 4, rg 14 (.iad 3 (.t 12) (.t 13)), rg 15 (.load (some 3) (.t 14)), rg 16 (.call 231 [(.t 15)]),
 rg 17 (.bsl 3 [(.b false), (.sl [] .nl), (.sl [] .nl)] 1 [(0, (.t 16))]), rg 18 (.app 3 (.t 11) (.t 17)), mv 3 18]))
 (.reg [mv 9 4, rg 10 (.bin .add (.t 9) (.c (.i .i64 1))), mv 4 10])))
 (.norm false [0, 3, 4]))
def b278 : AX :=
 (.seq
 (.reg [rg 2 (.mov (.c (.sl [] .nl)))])
 (.seq
 (.note (.reg [rg 3 (.mov (.c (.sl [] .nl)))]) (.nil 3 3))
 (.seq
 (.seq
 (.reg [rg 4 (.mov (.c (.i .i64 0)))])
 (.lp 0 (.norm false [0, 3, 4]) l278_0 (.norm false [3])))
 (.seq
 (.reg [mv 19 3, mv 2 19])
 (.pre (.norm false [2]) .ret)))))
def l279_0 : AX :=
 (.note
 (.seq
 (.seq
 (.reg [mv 11 5, mv 12 0, rg 13 (.len (.t 12)), rg 14 (.bin .lss (.t 11) (.t 13))])
 (.cond (.t 14)
 .skip
 (.exit 0)))
 (.seq
 (.block 1
 (.seq
 (.drawT [mv 17 0, mv 18 5, rg 19 (.iad 3 (.t 17) (.t 18)), rg 20 (.load (some 3) (.t 19)), mv 21 1, mv 22 5, rg 23 (.iad 3 (.t 21) (.t 22)),
 rg 24 (.load (some 3) (.t 23))]
 [rg 25 (.call 233 [(.t 20), (.t 24)]), rg 26 (.un .not (.t 25))])
 (.cond (.t 26)
 (.seq
 (.reg [rg 4 (.mov (.c (.b false)))])
 (.pre (.norm false [4]) .ret))
 .skip)))
 (.reg [mv 15 5, rg 16 (.bin .add (.t 15) (.c (.i .i64 1))), mv 5 16])))
 (.norm false [0, 1, 5]))
def b279 : AX :=
 (.seq
 (.reg [rg 4 (.mov (.c (.b false)))])
 (.seq
 (.seq
 (.reg [mv 6 0, rg 7 (.len (.t 6)), mv 8 1, rg 9 (.len (.t 8)), rg 10 (.bin .neq (.t 7) (.t 9))])
 (.cond (.t 10)
 (.seq
 (.reg [rg 4 (.mov (.c (.b false)))])
 (.pre (.norm false [4]) .ret))
 .skip))
 (.seq
 (.seq
 (.reg [rg 5 (.mov (.c (.i .i64 0)))])
 (.lp 0 (.norm false [0, 1, 5]) l279_0 (.norm false [])))
 (.seq
 (.reg [rg 4 (.mov (.c (.b true)))])
 (.pre (.norm false [4]) .ret)))))
def l280_0 : AX :=
 (.note
 (.seq
 (.seq
 (.reg [mv 7 6, mv 8 0, rg 9 (.len (.t 8)), rg 10 (.bin .lss (.t 7) (.t 9))])
 (.cond (.t 10)
 .skip
 (.exit 0)))
 (.seq
 (.block 1
 (.drawT [mv 13 5, mv 14 0, mv 15 6, rg 16 (.iad 3 (.t 14) (.t 15)), rg 17 (.load (some 3) (.t 16)), mv 18 1, mv 19 6, rg 20 (.iad 3 (.t 18) (.t 19)),
 rg 21 (.load (some 3) (.t 20)), rg 22 (.call 239 [(.t 17), (.t 21)]), rg 23 (.bsl 3 [(.b false), (.sl [] .nl), (.sl [] .nl)] 1 [(0, (.t 22))])]
 [rg 24 (.app 3 (.t 13) (.t 23)), mv 5 24]))
 (.reg [mv 11 6, rg 12 (.bin .add (.t 11) (.c (.i .i64 1))), mv 6 12])))
 (.norm false [0, 1, 5, 6]))
def b280 : AX :=
 (.seq
 (.reg [rg 4 (.mov (.c (.sl [] .nl)))])
 (.seq
 (.note (.reg [rg 5 (.mov (.c (.sl [] .nl)))]) (.nil 5 3))
 (.seq
 (.seq
 (.reg [rg 6 (.mov (.c (.i .i64 0)))])
 (.lp 0 (.norm false [0, 1, 5, 6]) l280_0 (.norm false [5])))
 (.seq
 (.reg [mv 25 5, mv 4 25])
 (.pre (.norm false [4]) .ret)))))
def l282_0 : AX :=
 (.note
 (.seq
 (.seq
 (.reg [mv 8 6, mv 9 0, rg 10 (.len (.t 9)), rg 11 (.bin .lss (.t 8) (.t 10))])
 (.cond (.t 11)
 .skip
 (.exit 0)))
 (.seq
 (.block 1
 (.drawT [rg 14 (.load (some 3) (.t 5)), mv 15 0, mv 16 6, rg 17 (.iad 3 (.t 15) (.t 16)), rg 18 (.load (some 3) (.t 17)), mv 19 1, mv 20 6,
 rg 21 (.iad 3 (.t 19) (.t 20)), rg 22 (.load (some 3) (.t 21)), rg 23 (.call 241 [(.t 18), (.t 22)])]
 [rg 24 (.call 239 [(.t 14), (.t 23)]), so (.store 3 (.t 5) (.t 24))]))
 (.reg [mv 12 6, rg 13 (.bin .add (.t 12) (.c (.i .i64 1))), mv 6 13])))
 (.norm false [0, 1, 4, 5, 6]))
def b282 : AX :=
 (.seq
 (.reg [rg 4 (.alloc [(.b false), (.sl [] .nl), (.sl [] .nl)])])
 (.seq
 (.reg [rg 7 (.call 232 [(.c (.i .i64 0))]), rg 5 (.alloc [(.b false), (.sl [] .nl), (.sl [] .nl)]), so (.store 3 (.t 5) (.t 7))])
 (.seq
 (.seq
 (.reg [rg 6 (.mov (.c (.i .i64 0)))])
 (.lp 0 (.norm false [0, 1, 4, 5, 6]) l282_0 (.norm false [4, 5])))
 (.seq
 (.reg [rg 25 (.load (some 3) (.t 5)), so (.store 3 (.t 4) (.t 25))])
 (.pre (.norm false [4]) .ret)))))
def l286_0 : AX :=
 (.note
 (.seq
 (.seq
 (.reg [mv 8 7, mv 9 0, rg 10 (.len (.t 9)), rg 11 (.bin .lss (.t 8) (.t 10)), mv 12 11, gd 13 12 true (.mov (.t 7)), gd 14 12 true (.mov (.t 1)),
 gd 15 12 true (.bin .lss (.t 13) (.t 14)), rg 16 (.pick (.t 12) (.t 15) (.c (.b false)))])
 (.cond (.t 16)
 .skip
 (.exit 0)))
 (.seq
 (.block 1
 (.seq
 (.reg [mv 19 0, mv 20 7, rg 21 (.iad 3 (.t 19) (.t 20)), rg 22 (.load (some 3) (.t 21)), mv 23 2, rg 24 (.call 247 [(.t 22), (.t 23)])])
 (.cond (.t 24)
 (.seq
 (.reg [rg 6 (.mov (.c (.b true)))])
 (.pre (.norm false [6]) .ret))
 .skip)))
 (.reg [mv 17 7, rg 18 (.bin .add (.t 17) (.c (.i .i64 1))), mv 7 18])))
 (.norm false [0, 1, 2, 7]))
def b286 : AX :=
 (.seq
 (.reg [rg 6 (.mov (.c (.b false)))])
 (.seq
 (.seq
 (.reg [rg 7 (.mov (.c (.i .i64 0)))])
 (.lp 0 (.norm false [0, 1, 2, 7]) l286_0 (.norm false [0, 1])))
 (.seq
 (.reg [mv 25 0, rg 26 (.len (.t 25)), mv 27 1, rg 28 (.bin .gtr (.t 26) (.t 27)), mv 6 28])
 (.pre (.norm false [6]) .ret))))
def l2276_0 : AX :=
 (.note
 (.seq
 (.seq
 (.reg [mv 5 4, mv 6 0, rg 7 (.bin .lss (.t 5) (.t 6)), mv 8 7, gd 9 8 true (.mov (.t 4)), gd 10 8 true (.bin .lss (.t 9) (.c (.i .i64 300))),
 rg 11 (.pick (.t 8) (.t 10) (.c (.b false)))])
 (.cond (.t 11)
 .skip
 (.exit 0)))
 (.seq
 (.block 1
 (.reg [mv 14 3, rg 15 (.call 232 [(.c (.i .i64 0))]), rg 16 (.bsl 3 [(.b false), (.sl [] .nl), (.sl [] .nl)] 1 [(0, (.t 15))]), rg 17 (.app 3 (.t 14) (.t 16)),
 mv 3 17]))
 (.reg [mv 12 4, rg 13 (.bin .add (.t 12) (.c (.i .i64 1))), mv 4 13])))
 (.norm false [0, 3, 4]))
def b2276 : AX :=
 (.seq
 (.reg [rg 2 (.mov (.c (.sl [] .nl)))])
 (.seq
 (.note (.reg [rg 3 (.mov (.c (.sl [] .nl)))]) (.nil 3 3))
 (.seq
 (.seq
 (.reg [rg 4 (.mov (.c (.i .i64 0)))])
 (.lp 0 (.norm false [0, 3, 4]) l2276_0 (.norm false [3])))
 (.seq
 (.reg [mv 18 3, mv 2 18])
 (.pre (.norm false [2]) .ret)))))
class CRef11 (T : Tbl) : Prop where
 h276 : T 276 = some ⟨1, 19, [.t 2], b276, none, false⟩
 h277 : T 277 = some ⟨2, 21, [.t 4], b277, none, false⟩
 h278 : T 278 = some ⟨1, 20, [.t 2], b278, none, false⟩
 h279 : T 279 = some ⟨2, 27, [.t 4], b279, none, false⟩
 h280 : T 280 = some ⟨2, 26, [.t 4], b280, none, false⟩
 h282 : T 282 = some ⟨2, 26, [.cell 4 (some 3)], b282, none, false⟩
 h286 : T 286 = some ⟨3, 29, [.t 6], b286, none, false⟩
 h2276 : T 2276 = some ⟨1, 19, [.t 2], b2276, (some [false]), false⟩
section
variable {T : Tbl} [CRef11 T] {d : Option Nat} {st : St} {xs : List AV} {ps : List Opd} {e : Env} {h : Heap} {ol : List Heap}
theorem f277 (xs : List AV) (hn : xs.length = 2) : callF T 277 xs = retF [.t 4] false (evX (orc T) T 0 b277 ⟨argEnv xs, [], 1⟩) := callF_eq CRef11.h277 hn
@[simp] theorem x286 : callX (orc T) T 286 xs d st = cP T 286 false xs d st := callX_pure CRef11.h286
theorem f286 (xs : List AV) (hn : xs.length = 3) : callF T 286 xs = retF [.t 6] false (evX (orc T) T 0 b286 ⟨argEnv xs, [], 1⟩) := callF_eq CRef11.h286 hn
end
end Go.Ab
end

section
namespace Go.Ab
def b238 : AX :=
 (.seq
 (.reg [rg 1 (.xop (.box 3) [(.t 0)]), rg 2 (.alloc [(.b false), (.sl [] .nl), (.sl [] .nl)])])
 (.seq
 (.reg [rg 3 (.fad 1 (.t 1)), rg 4 (.load none (.t 3)), rg 5 (.fad 2 (.t 1)), rg 6 (.load none (.t 5)),
 rg 7 (.build [(.b false), (.sl [] .nl), (.sl [] .nl)] [(1, 1, (.t 4)), (2, 1, (.t 6))]), so (.store 3 (.t 2) (.t 7))])
 (.pre (.norm false [2]) .ret)))
def l281_0 : AX :=
 (.note
 (.seq
 (.seq
 (.reg [mv 7 6, mv 8 1, rg 9 (.len (.t 8)), rg 10 (.bin .lss (.t 7) (.t 9))])
 (.cond (.t 10)
 .skip
 (.exit 0)))
 (.seq
 (.block 1
 (.drawT [mv 13 5, rg 14 (.load (some 3) (.t 2)), mv 15 1, mv 16 6, rg 17 (.iad 3 (.t 15) (.t 16)), rg 18 (.load (some 3) (.t 17)),
 rg 19 (.call 241 [(.t 14), (.t 18)]), rg 20 (.bsl 3 [(.b false), (.sl [] .nl), (.sl [] .nl)] 1 [(0, (.t 19))])]
 [rg 21 (.app 3 (.t 13) (.t 20)), mv 5 21]))
 (.reg [mv 11 6, rg 12 (.bin .add (.t 11) (.c (.i .i64 1))), mv 6 12])))
 (.norm false [1, 2, 5, 6]))
def b281 : AX :=
 (.seq
 (.reg [rg 2 (.xop (.box 3) [(.t 0)]), rg 4 (.mov (.c (.sl [] .nl)))])
 (.seq
 (.note (.reg [rg 5 (.mov (.c (.sl [] .nl)))]) (.nil 5 3))
 (.seq
 (.seq
 (.reg [rg 6 (.mov (.c (.i .i64 0)))])
 (.lp 0 (.norm false [1, 2, 5, 6]) l281_0 (.norm false [5])))
 (.seq
 (.reg [mv 22 5, mv 4 22])
 (.pre (.norm false [4]) .ret)))))
def l283_0 : AX :=
 (.note
 (.seq
 (.seq
 (.reg [mv 7 4, mv 8 0, rg 9 (.len (.t 8)), rg 10 (.bin .lss (.t 7) (.t 9))])
 (.cond (.t 10)
 .skip
 (.exit 0)))
 (.seq
 (.block 1
 (.seq
 (.reg [mv 13 0, mv 14 4, rg 15 (.iad 3 (.t 13) (.t 14)), rg 16 (.load (some 3) (.t 15)), rg 17 (.call 238 [(.t 16)]),
 rg 5 (.alloc [(.b false), (.sl [] .nl), (.sl [] .nl)]), so (.store 3 (.t 5) (.t 17))])
 (.seq
 (.reg [rg 18 (.load (some 3) (.t 5)), rg 19 (.load (some 3) (.t 3)), rg 20 (.call 243 [(.t 18), (.t 19)]), rg 21 (.bin .gtr (.t 20) (.c (.i .i64 0)))])
 (.cond (.t 21)
 (.reg [rg 22 (.load (some 3) (.t 5)), so (.store 3 (.t 3) (.t 22))])
 .skip))))
 (.reg [mv 11 4, rg 12 (.bin .add (.t 11) (.c (.i .i64 1))), mv 4 12])))
 (.norm false [0, 2, 3, 4]))
def b283 : AX :=
 (.seq
 (.reg [rg 2 (.alloc [(.b false), (.sl [] .nl), (.sl [] .nl)])])
 (.seq
 (.reg [rg 6 (.call 232 [(.c (.i .i64 0))]), rg 3 (.alloc [(.b false), (.sl [] .nl), (.sl [] .nl)]), so (.store 3 (.t 3) (.t 6))])
 (.seq
 (.seq
 (.reg [rg 4 (.mov (.c (.i .i64 0)))])
 (.lp 0 (.norm false [0, 2, 3, 4]) l283_0 (.norm false [2, 3])))
 (.seq
 (.reg [rg 23 (.load (some 3) (.t 3)), so (.store 3 (.t 2) (.t 23))])
 (.pre (.norm false [2]) .ret)))))
def b243 : AX :=
 (.seq
 (.reg [rg 2 (.xop (.box 3) [(.t 0)]), rg 3 (.xop (.box 3) [(.t 1)]), rg 4 (.mov (.c (.i .i64 0)))])
 (.seq
 (.reg [rg 5 (.load (some 3) (.t 2)), rg 6 (.load (some 3) (.t 3)), rg 7 (.call 240 [(.t 5), (.t 6)]), rg 8 (.call 236 [(.t 7)]), mv 4 8])
 (.pre (.norm false [4]) .ret)))
def b245 : AX :=
 (.seq
 (.reg [rg 1 (.xop (.box 3) [(.t 0)]), rg 2 (.mov (.c (.i .i64 0)))])
 (.seq
 (.drawT [rg 3 (.fad 1 (.t 1)), rg 4 (.load none (.t 3)), rg 5 (.call 95 [(.t 4)]), rg 6 (.fad 2 (.t 1)), rg 7 (.load none (.t 6))]
 [rg 8 (.call 95 [(.t 7)]), rg 9 (.bin .add (.t 5) (.t 8)), mv 2 9])
 (.pre (.norm false [2]) .ret)))
class CRef5 (T : Tbl) : Prop where
 h238 : T 238 = some ⟨1, 8, [.cell 2 (some 3)], b238, none, false⟩
 h281 : T 281 = some ⟨2, 23, [.t 4], b281, none, false⟩
 h283 : T 283 = some ⟨1, 24, [.cell 2 (some 3)], b283, none, false⟩
 h243 : T 243 = some ⟨2, 9, [.t 4], b243, none, false⟩
 h245 : T 245 = some ⟨1, 10, [.t 2], b245, none, false⟩
end Go.Ab
end

section
namespace Go.Ab
def b248 : AX :=
 (.seq
 (.reg [rg 1 (.xop (.box 3) [(.t 0)]), rg 2 (.alloc [(.b false), (.sl [] .nl), (.sl [] .nl)])])
 (.seq
 (.reg [rg 3 (.fad 0 (.t 1)), rg 4 (.load none (.t 3)), rg 5 (.fad 1 (.t 1)), rg 6 (.load none (.t 5)),
 rg 7 (.build [(.b false), (.sl [] .nl)] [(0, 1, (.t 4)), (1, 1, (.t 6))]), rg 8 (.fad 2 (.t 1)), rg 9 (.load none (.t 8)),
 rg 10 (.build [(.b false), (.sl [] .nl), (.sl [] .nl)] [(0, 2, (.t 7)), (2, 1, (.t 9))]), so (.store 3 (.t 2) (.t 10))])
 (.pre (.norm false [2]) .ret)))
def b249 : AX :=
 (.seq
 (.reg [rg 1 (.xop (.box 3) [(.t 0)]), rg 2 (.alloc [(.b false), (.sl [] .nl), (.sl [] .nl)])])
 (.seq
 (.reg [rg 3 (.fad 0 (.t 1)), rg 4 (.fad 0 (.t 3)), rg 5 (.load none (.t 4)), rg 6 (.fad 0 (.t 1)), rg 7 (.fad 1 (.t 6)), rg 8 (.load none (.t 7)),
 rg 9 (.fad 2 (.t 1)), rg 10 (.load none (.t 9)),
 rg 11 (.build [(.b false), (.sl [] .nl), (.sl [] .nl)] [(0, 1, (.t 5)), (1, 1, (.t 8)), (2, 1, (.t 10))]), so (.store 3 (.t 2) (.t 11))])
 (.pre (.norm false [2]) .ret)))
def b250 : AX :=
 (.seq
 (.reg [rg 2 (.xop (.box 3) [(.t 0)]), rg 3 (.xop (.box 3) [(.t 1)]), rg 4 (.mov (.c (.b false)))])
 (.seq
 (.drawT [rg 5 (.load (some 3) (.t 2)), rg 6 (.call 249 [(.t 5)]), rg 7 (.load (some 3) (.t 3))]
 [rg 8 (.call 233 [(.t 6), (.t 7)]), mv 4 8])
 (.pre (.norm false [4]) .ret)))
class CLaw09 (T : Tbl) : Prop where
 h248 : T 248 = some ⟨1, 11, [.cell 2 (some 3)], b248, none, false⟩
 h249 : T 249 = some ⟨1, 12, [.cell 2 (some 3)], b249, none, false⟩
 h250 : T 250 = some ⟨2, 9, [.t 4], b250, none, false⟩
section
variable {T : Tbl} [CLaw09 T] {d : Option Nat} {st : St} {xs : List AV} {ps : List Opd} {e : Env} {h : Heap} {ol : List Heap}
@[simp] theorem x248 : callX (orc T) T 248 xs d st = cP T 248 false xs d st := callX_pure CLaw09.h248
theorem f248 (xs : List AV) (hn : xs.length = 1) : callF T 248 xs = retF [.cell 2 (some 3)] false (evX (orc T) T 0 b248 ⟨argEnv xs, [], 1⟩) := callF_eq CLaw09.h248 hn
end
end Go.Ab
end

section
namespace Go.Ab
def l287_0 : AX :=
 (.note
 (.seq
 (.seq
 (.reg [mv 5 4, mv 6 0, rg 7 (.len (.t 6)), rg 8 (.bin .lss (.t 5) (.t 7))])
 (.cond (.t 8)
 .skip
 (.exit 0)))
 (.seq
 (.block 1
 (.reg [mv 11 3, mv 12 0, mv 13 4, rg 14 (.iad 3 (.t 12) (.t 13)), rg 15 (.load (some 3) (.t 14)), rg 16 (.call 248 [(.t 15)]),
 rg 17 (.bsl 3 [(.b false), (.sl [] .nl), (.sl [] .nl)] 1 [(0, (.t 16))]), rg 18 (.app 3 (.t 11) (.t 17)), mv 3 18]))
 (.reg [mv 9 4, rg 10 (.bin .add (.t 9) (.c (.i .i64 1))), mv 4 10])))
 (.norm false [0, 3, 4]))
def b287 : AX :=
 (.seq
 (.reg [rg 2 (.mov (.c (.sl [] .nl)))])
 (.seq
 (.note (.reg [rg 3 (.mov (.c (.sl [] .nl)))]) (.nil 3 3))
 (.seq
 (.seq
 (.reg [rg 4 (.mov (.c (.i .i64 0)))])
 (.lp 0 (.norm false [0, 3, 4]) l287_0 (.norm false [3])))
 (.seq
 (.reg [mv 19 3, mv 2 19])
 (.pre (.norm false [2]) .ret)))))
def l288_0 : AX :=
 (.note
 (.seq
 (.seq
 (.reg [mv 5 4, mv 6 0, rg 7 (.len (.t 6)), rg 8 (.bin .lss (.t 5) (.t 7))])
 (.cond (.t 8)
 .skip
 (.exit 0)))
 (.seq
 (.block 1
 (.reg [mv 11 3, mv 12 0, mv 13 4, rg 14 (.iad 3 (.t 12) (.t 13)), rg 15 (.load (some 3) (.t 14)), rg 16 (.call 249 [(.t 15)]),
 rg 17 (.bsl 3 [(.b false), (.sl [] .nl), (.sl [] .nl)] 1 [(0, (.t 16))]), rg 18 (.app 3 (.t 11) (.t 17)), mv 3 18]))
 (.reg [mv 9 4, rg 10 (.bin .add (.t 9) (.c (.i .i64 1))), mv 4 10])))
 (.norm false [0, 3, 4]))
def b288 : AX :=
 (.seq
 (.reg [rg 2 (.mov (.c (.sl [] .nl)))])
 (.seq
 (.note (.reg [rg 3 (.mov (.c (.sl [] .nl)))]) (.nil 3 3))
 (.seq
 (.seq
 (.reg [rg 4 (.mov (.c (.i .i64 0)))])
 (.lp 0 (.norm false [0, 3, 4]) l288_0 (.norm false [3])))
 (.seq
 (.reg [mv 19 3, mv 2 19])
 (.pre (.norm false [2]) .ret)))))
def b289 : AX :=
 (.seq
 (.reg [rg 4 (.mov (.c (.b false)))])
 (.seq
 (.reg [mv 5 0, rg 6 (.call 288 [(.t 5)]), mv 7 1, rg 8 (.call 279 [(.t 6), (.t 7)]), mv 4 8])
 (.pre (.norm false [4]) .ret)))
class CLaw11 (T : Tbl) : Prop where
 h287 : T 287 = some ⟨1, 20, [.t 2], b287, none, false⟩
 h288 : T 288 = some ⟨1, 20, [.t 2], b288, none, false⟩
 h289 : T 289 = some ⟨2, 9, [.t 4], b289, none, false⟩
section
variable {T : Tbl} [CLaw11 T] {d : Option Nat} {st : St} {xs : List AV} {ps : List Opd} {e : Env} {h : Heap} {ol : List Heap}
@[simp] theorem x287 : callX (orc T) T 287 xs d st = cP T 287 false xs d st := callX_pure CLaw11.h287
theorem f287 (xs : List AV) (hn : xs.length = 1) : callF T 287 xs = retF [.t 2] false (evX (orc T) T 0 b287 ⟨argEnv xs, [], 1⟩) := callF_eq CLaw11.h287 hn
end
end Go.Ab
end

section
namespace Go.Ab
def b334 : AX :=
 (.seq
 (.reg [rg 0 (.mov (.c (.b false)))])
 (.seq
 (.reg [rg 12 (.call 275 [(.c (.s [49, 44, 50]))]), mv 11 12, rg 13 (.ext (.t 11) 0), rg 14 (.ext (.t 11) 1),
 rg 2 (.alloc [(.i .i64 0), (.i .i64 0), (.i .i64 0), (.i .i64 0)]), mv 1 13, so (.store 4 (.t 2) (.t 14))])
 (.seq
 (.reg [rg 16 (.call 275 [(.c (.s [51, 44, 52]))]), mv 15 16, rg 17 (.ext (.t 15) 0), rg 18 (.ext (.t 15) 1),
 rg 4 (.alloc [(.i .i64 0), (.i .i64 0), (.i .i64 0), (.i .i64 0)]), mv 3 17, so (.store 4 (.t 4) (.t 18))])
 (.seq
 (.reg [rg 20 (.call 275 [(.c (.s [49, 44, 44, 50]))]), mv 19 20, rg 21 (.ext (.t 19) 0), rg 22 (.ext (.t 19) 1),
 rg 6 (.alloc [(.i .i64 0), (.i .i64 0), (.i .i64 0), (.i .i64 0)]), mv 5 21, so (.store 4 (.t 6) (.t 22))])
 (.seq
 (.reg [mv 24 1, mv 25 3, rg 26 (.call 270 [(.t 24), (.t 25)]), mv 23 26, rg 27 (.ext (.t 23) 0), rg 28 (.ext (.t 23) 1),
 rg 7 (.alloc [(.b false), (.sl [] .nl), (.sl [] .nl)]), so (.store 3 (.t 7) (.t 27)), mv 8 28])
 (.seq
 (.reg [mv 30 1, mv 31 3, rg 32 (.bsl 1 [(.sl [] .nl)] 2 [(0, (.t 30)), (1, (.t 31))]), rg 33 (.call 267 [(.t 32)]), mv 29 33, rg 34 (.ext (.t 29) 0),
 rg 35 (.ext (.t 29) 1), mv 9 34, mv 10 35])
 (.seq
 (.drawT [rg 36 (.load (some 4) (.t 2)), rg 37 (.build [(.i .i64 0), (.i .i64 0), (.i .i64 0), (.i .i64 0)] []),
 rg 38 (.eqs false [(0, .int), (1, .int), (2, .int), (3, .int)] (.t 36) (.t 37)), mv 39 38, gd 40 39 true (.load (some 4) (.t 4)),
 gd 41 39 true (.build [(.i .i64 0), (.i .i64 0), (.i .i64 0), (.i .i64 0)] []),
 gd 42 39 true (.eqs false [(0, .int), (1, .int), (2, .int), (3, .int)] (.t 40) (.t 41)), rg 43 (.pick (.t 39) (.t 42) (.c (.b false))), mv 44 43,
 gd 45 44 true (.load (some 4) (.t 6)),
 gd 46 44 true (.build [(.i .i64 0), (.i .i64 0), (.i .i64 0), (.i .i64 0)] [(0, 1, (.c (.i .i64 1))), (3, 1, (.c (.i .i64 2)))]),
 gd 47 44 true (.eqs false [(0, .int), (1, .int), (2, .int), (3, .int)] (.t 45) (.t 46)), rg 48 (.pick (.t 44) (.t 47) (.c (.b false))), mv 49 48,
 gd 50 49 true (.mov (.t 8)), rg 51 (.pick (.t 49) (.t 50) (.c (.b false))), mv 52 51, gd 53 52 true (.load (some 3) (.t 7)),
 gd 54 52 true (.call 205 [(.c (.i .i64 11))])]
 [gd 55 52 true (.call 212 [(.t 53), (.t 54)]), rg 56 (.pick (.t 52) (.t 55) (.c (.b false))), mv 57 56, gd 58 57 true (.mov (.t 10)),
 rg 59 (.pick (.t 57) (.t 58) (.c (.b false))), mv 60 59, gd 61 60 true (.mov (.t 9)), gd 62 60 true (.call 274 [(.t 61)]),
 gd 63 60 true (.bin .eql (.t 62) (.c (.s [52, 44, 54]))), rg 64 (.pick (.t 60) (.t 63) (.c (.b false))), mv 0 64])
 (.pre (.norm false [0]) .ret))))))))
class CLaw11b (T : Tbl) : Prop where
 h334 : T 334 = some ⟨0, 65, [.t 0], b334, none, false⟩
section
variable {T : Tbl} [CLaw11b T] {d : Option Nat} {st : St} {xs : List AV} {ps : List Opd} {e : Env} {h : Heap} {ol : List Heap}
@[simp] theorem x334 : callX (orc T) T 334 xs d st = cP T 334 false xs d st := callX_pure CLaw11b.h334
theorem f334 (xs : List AV) (hn : xs.length = 0) : callF T 334 xs = retF [.t 0] false (evX (orc T) T 0 b334 ⟨argEnv xs, [], 1⟩) := callF_eq CLaw11b.h334 hn
end
end Go.Ab
end

section
namespace Go.Ab
def b366 : AX :=
 (.seq
 (.reg [rg 2 (.mov (.c (.b false)))])
 (.seq
 (.seq
 (.reg [mv 5 0, rg 6 (.call 286 [(.t 5), (.c (.i .i64 12)), (.c (.i .i64 5))])])
 (.cond (.t 6)
 (.seq
 (.reg [rg 7 (.call 334 []), mv 2 7])
 (.pre (.norm false [2]) .ret))
 .skip))
 (.seq
 (.reg [mv 9 0, rg 10 (.call 287 [(.t 9)]), rg 11 (.call 274 [(.t 10)]), rg 12 (.call 275 [(.t 11)]), mv 8 12, rg 13 (.ext (.t 8) 0), rg 14 (.ext (.t 8) 1),
 rg 4 (.alloc [(.i .i64 0), (.i .i64 0), (.i .i64 0), (.i .i64 0)]), mv 3 13, so (.store 4 (.t 4) (.t 14))])
 (.seq
 (.reg [rg 15 (.load (some 4) (.t 4)), rg 16 (.build [(.i .i64 0), (.i .i64 0), (.i .i64 0), (.i .i64 0)] []),
 rg 17 (.eqs false [(0, .int), (1, .int), (2, .int), (3, .int)] (.t 15) (.t 16)), mv 18 17, gd 19 18 true (.mov (.t 3)), gd 20 18 true (.mov (.t 0)),
 gd 21 18 true (.call 287 [(.t 20)]), gd 22 18 true (.call 265 [(.t 19), (.t 21)]), rg 23 (.pick (.t 18) (.t 22) (.c (.b false))), mv 24 23,
 gd 25 24 true (.call 334 []), rg 26 (.pick (.t 24) (.t 25) (.c (.b false))), mv 2 26])
 (.pre (.norm false [2]) .ret)))))
def b367 : AX :=
 (.seq
 (.reg [rg 5 (.xop (.box 3) [(.t 2)]), rg 6 (.mov (.c (.b false)))])
 (.seq
 (.seq
 (.reg [mv 18 0, rg 19 (.call 286 [(.t 18), (.c (.i .i64 12)), (.c (.i .i64 4))]), mv 20 19, gd 21 20 false (.mov (.t 1)),
 gd 22 20 false (.call 286 [(.t 21), (.c (.i .i64 12)), (.c (.i .i64 4))]), rg 23 (.pick (.t 20) (.c (.b true)) (.t 22)), mv 24 23,
 gd 25 24 false (.load (some 3) (.t 5)), gd 26 24 false (.call 247 [(.t 25), (.c (.i .i64 4))]), rg 27 (.pick (.t 24) (.c (.b true)) (.t 26))])
 (.cond (.t 27)
 (.seq
 (.reg [rg 28 (.call 334 []), mv 6 28])
 (.pre (.norm false [6]) .ret))
 .skip))
 (.seq
 (.reg [mv 29 0, rg 30 (.call 278 [(.t 29)]), mv 7 30])
 (.seq
 (.reg [mv 31 1, rg 32 (.call 278 [(.t 31)]), mv 8 32])
 (.seq
 (.reg [rg 33 (.load (some 3) (.t 5)), rg 34 (.call 231 [(.t 33)]), rg 9 (.alloc [(.b false), (.sl [] .nl), (.sl [] .nl)]), so (.store 3 (.t 9) (.t 34))])
 (.seq
 (.reg [mv 36 0, rg 37 (.call 287 [(.t 36)]), mv 38 1, rg 39 (.call 287 [(.t 38)]), mv 40 0, rg 41 (.call 287 [(.t 40)]),
 rg 42 (.bsl 1 [(.sl [] .nl)] 3 [(0, (.t 37)), (1, (.t 39)), (2, (.t 41))]), rg 43 (.call 267 [(.t 42)]), mv 35 43, rg 44 (.ext (.t 35) 0),
 rg 45 (.ext (.t 35) 1), mv 10 44, mv 11 45])
 (.seq
 (.reg [mv 47 0, rg 48 (.call 287 [(.t 47)]), mv 49 1, rg 50 (.call 287 [(.t 49)]), rg 51 (.call 268 [(.t 48), (.t 50)]), mv 46 51, rg 52 (.ext (.t 46) 0),
 rg 53 (.ext (.t 46) 1), mv 12 52, mv 13 53])
 (.seq
 (.reg [mv 55 0, rg 56 (.call 287 [(.t 55)]), mv 57 1, rg 58 (.call 287 [(.t 57)]), rg 59 (.call 270 [(.t 56), (.t 58)]), mv 54 59, rg 60 (.ext (.t 54) 0),
 rg 61 (.ext (.t 54) 1), rg 14 (.alloc [(.b false), (.sl [] .nl), (.sl [] .nl)]), so (.store 3 (.t 14) (.t 60)), mv 15 61])
 (.seq
 (.reg [rg 63 (.call 267 [(.c (.sl [] .nl))]), mv 62 63, rg 64 (.ext (.t 62) 0), rg 65 (.ext (.t 62) 1), mv 16 64, mv 17 65])
 (.seq
 (.seq
 (.drawT [rg 66 (.load (some 3) (.t 5)), rg 67 (.call 248 [(.t 66)]), mv 68 0, rg 69 (.call 287 [(.t 68)]), rg 70 (.call 269 [(.t 67), (.t 69)]),
 rg 71 (.load (some 3) (.t 9)), mv 72 7]
 [rg 73 (.call 281 [(.t 71), (.t 72)]), rg 74 (.call 289 [(.t 70), (.t 73)]), rg 75 (.un .not (.t 74)), mv 76 75, gd 77 76 false (.mov (.t 16)),
 gd 78 76 false (.len (.t 77)), gd 79 76 false (.bin .neq (.t 78) (.c (.i .i64 0))), rg 80 (.pick (.t 76) (.c (.b true)) (.t 79)), mv 81 80,
 gd 82 81 false (.mov (.t 17)), gd 83 81 false (.un .not (.t 82)), rg 84 (.pick (.t 81) (.c (.b true)) (.t 83))])
 (.cond (.t 84)
 (.seq
 (.reg [rg 6 (.mov (.c (.b false)))])
 (.pre (.norm false [6]) .ret))
 .skip))
 (.seq
 (.seq
 (.reg [mv 85 0, rg 86 (.len (.t 85)), mv 87 1, rg 88 (.len (.t 87)), rg 89 (.bin .neq (.t 86) (.t 88))])
 (.cond (.t 89)
 (.seq
 (.reg [mv 90 10, rg 91 (.len (.t 90)), rg 92 (.bin .eql (.t 91) (.c (.i .i64 0))), mv 93 92, gd 94 93 true (.mov (.t 11)), gd 95 93 true (.un .not (.t 94)),
 rg 96 (.pick (.t 93) (.t 95) (.c (.b false))), mv 97 96, gd 98 97 true (.mov (.t 12)), gd 99 97 true (.len (.t 98)),
 gd 100 97 true (.bin .eql (.t 99) (.c (.i .i64 0))), rg 101 (.pick (.t 97) (.t 100) (.c (.b false))), mv 102 101, gd 103 102 true (.mov (.t 13)),
 gd 104 102 true (.un .not (.t 103)), rg 105 (.pick (.t 102) (.t 104) (.c (.b false))), mv 106 105, gd 107 106 true (.load (some 3) (.t 14)),
 gd 108 106 true (.call 209 [(.t 107)]), gd 109 106 true (.bin .eql (.t 108) (.c (.i .i64 0))), rg 110 (.pick (.t 106) (.t 109) (.c (.b false))),
 mv 111 110, gd 112 111 true (.mov (.t 15)), gd 113 111 true (.un .not (.t 112)), rg 114 (.pick (.t 111) (.t 113) (.c (.b false))), mv 115 114,
 gd 116 115 true (.call 334 []), rg 117 (.pick (.t 115) (.t 116) (.c (.b false))), mv 6 117])
 (.pre (.norm false [6]) .ret))
 .skip))
 (.seq
 (.drawT [mv 118 10, mv 119 7, mv 120 8, rg 121 (.call 280 [(.t 119), (.t 120)]), mv 122 7, rg 123 (.call 280 [(.t 121), (.t 122)]),
 rg 124 (.call 289 [(.t 118), (.t 123)]), mv 125 124, gd 126 125 true (.mov (.t 11)), rg 127 (.pick (.t 125) (.t 126) (.c (.b false))), mv 128 127,
 gd 129 128 true (.mov (.t 12)), gd 130 128 true (.mov (.t 7)), gd 131 128 true (.call 232 [(.c (.i .i64 (-1)))]), gd 132 128 true (.mov (.t 8)),
 gd 133 128 true (.call 281 [(.t 131), (.t 132)]), gd 134 128 true (.call 280 [(.t 130), (.t 133)]), gd 135 128 true (.call 289 [(.t 129), (.t 134)]),
 rg 136 (.pick (.t 128) (.t 135) (.c (.b false))), mv 137 136, gd 138 137 true (.mov (.t 13)), rg 139 (.pick (.t 137) (.t 138) (.c (.b false))),
 mv 140 139, gd 141 140 true (.load (some 3) (.t 14)), gd 142 140 true (.mov (.t 7)), gd 143 140 true (.mov (.t 8)),
 gd 144 140 true (.call 282 [(.t 142), (.t 143)])]
 [gd 145 140 true (.call 250 [(.t 141), (.t 144)]), rg 146 (.pick (.t 140) (.t 145) (.c (.b false))), mv 147 146, gd 148 147 true (.mov (.t 15)),
 rg 149 (.pick (.t 147) (.t 148) (.c (.b false))), mv 150 149, gd 151 150 true (.call 334 []), rg 152 (.pick (.t 150) (.t 151) (.c (.b false))), mv 6 152])
 (.pre (.norm false [6]) .ret)))))))))))))
def l368_0 : AX :=
 (.note
 (.seq
 (.seq
 (.reg [mv 35 9, mv 36 1, rg 37 (.len (.t 36)), rg 38 (.bin .lss (.t 35) (.t 37))])
 (.cond (.t 38)
 .skip
 (.exit 0)))
 (.seq
 (.block 1
 (.seq
 (.seq
 (.reg [mv 41 1, mv 42 9, rg 43 (.iad 1 (.t 41) (.t 42)), rg 44 (.load none (.t 43)), rg 45 (.call 286 [(.t 44), (.c (.i .i64 8)), (.c (.i .i64 3))])])
 (.cond (.t 45)
 (.seq
 (.reg [rg 46 (.call 334 []), mv 6 46])
 (.pre (.norm false [6]) .ret))
 .skip))
 (.seq
 (.reg [mv 47 7, mv 48 47, gd 49 48 true (.mov (.t 1)), gd 50 48 true (.mov (.t 9)), gd 51 48 true (.iad 1 (.t 49) (.t 50)), gd 52 48 true (.load none (.t 51)),
 gd 53 48 true (.len (.t 52)), gd 54 48 true (.mov (.t 2)), gd 55 48 true (.bin .eql (.t 53) (.t 54)), rg 56 (.pick (.t 48) (.t 55) (.c (.b false))),
 mv 7 56])
 (.reg [mv 57 8, mv 58 1, mv 59 9, rg 60 (.iad 1 (.t 58) (.t 59)), rg 61 (.load none (.t 60)), rg 62 (.call 287 [(.t 61)]),
 rg 63 (.bsl 1 [(.sl [] .nl)] 1 [(0, (.t 62))]), rg 64 (.app 1 (.t 57) (.t 63)), mv 8 64]))))
 (.reg [mv 39 9, rg 40 (.bin .add (.t 39) (.c (.i .i64 1))), mv 9 40])))
 (.norm false [0, 1, 2, 7, 8, 9]))
def l368_1 : AX :=
 (.note
 (.seq
 (.seq
 (.reg [mv 87 13, mv 88 1, rg 89 (.len (.t 88)), rg 90 (.bin .lss (.t 87) (.t 89))])
 (.cond (.t 90)
 .skip
 (.exit 2)))
 (.seq
 (.block 3
 (.drawT [mv 93 12, mv 94 0, mv 95 13, rg 96 (.iad 3 (.t 94) (.t 95)), rg 97 (.load (some 3) (.t 96)), rg 98 (.call 231 [(.t 97)]), mv 99 1, mv 100 13,
 rg 101 (.iad 1 (.t 99) (.t 100)), rg 102 (.load none (.t 101)), rg 103 (.call 278 [(.t 102)]), rg 104 (.call 281 [(.t 98), (.t 103)])]
 [rg 105 (.call 280 [(.t 93), (.t 104)]), mv 12 105]))
 (.reg [mv 91 13, rg 92 (.bin .add (.t 91) (.c (.i .i64 1))), mv 13 92])))
 (.norm false [0, 1, 10, 11, 12, 13]))
def b368 : AX :=
 (.seq
 (.reg [rg 6 (.mov (.c (.b false)))])
 (.seq
 (.seq
 (.reg [mv 14 0, rg 15 (.call 286 [(.t 14), (.c (.i .i64 8)), (.c (.i .i64 3))]), mv 16 15, gd 17 16 false (.mov (.t 1)), gd 18 16 false (.len (.t 17)),
 gd 19 16 false (.bin .gtr (.t 18) (.c (.i .i64 8))), rg 20 (.pick (.t 16) (.c (.b true)) (.t 19))])
 (.cond (.t 20)
 (.seq
 (.reg [rg 21 (.call 334 []), mv 6 21])
 (.pre (.norm false [6]) .ret))
 .skip))
 (.seq
 (.reg [mv 22 0, rg 23 (.len (.t 22)), mv 24 1, rg 25 (.len (.t 24)), rg 26 (.bin .eql (.t 23) (.t 25)), mv 27 26, gd 28 27 true (.mov (.t 2)),
 gd 29 27 true (.bin .geq (.t 28) (.c (.i .i64 0))), rg 30 (.pick (.t 27) (.t 29) (.c (.b false))), mv 31 30, gd 32 31 true (.mov (.t 2)),
 gd 33 31 true (.bin .leq (.t 32) (.c (.i .i64 300))), rg 34 (.pick (.t 31) (.t 33) (.c (.b false))), mv 7 34])
 (.seq
 (.note (.reg [rg 8 (.mov (.c (.sl [] .nl)))]) (.nil 8 1))
 (.seq
 (.seq
 (.reg [rg 9 (.mov (.c (.i .i64 0)))])
 (.lp 0 (.norm false [0, 1, 2, 7, 8, 9]) l368_0 (.norm false [0, 1, 2, 7, 8])))
 (.seq
 (.reg [mv 66 0, rg 67 (.call 287 [(.t 66)]), mv 68 8, mv 69 2, rg 70 (.call 271 [(.t 67), (.t 68), (.t 69)]), mv 65 70, rg 71 (.ext (.t 65) 0),
 rg 72 (.ext (.t 65) 1), mv 10 71, mv 11 72])
 (.seq
 (.seq
 (.reg [mv 73 7, rg 74 (.un .not (.t 73))])
 (.cond (.t 74)
 (.seq
 (.reg [mv 75 10, rg 76 (.len (.t 75)), rg 77 (.bin .eql (.t 76) (.c (.i .i64 0))), mv 78 77, gd 79 78 true (.mov (.t 11)), gd 80 78 true (.un .not (.t 79)),
 rg 81 (.pick (.t 78) (.t 80) (.c (.b false))), mv 82 81, gd 83 82 true (.call 334 []), rg 84 (.pick (.t 82) (.t 83) (.c (.b false))), mv 6 84])
 (.pre (.norm false [6]) .ret))
 .skip))
 (.seq
 (.reg [mv 85 2, rg 86 (.call 276 [(.t 85)]), mv 12 86])
 (.seq
 (.seq
 (.reg [rg 13 (.mov (.c (.i .i64 0)))])
 (.lp 2 (.norm false [0, 1, 10, 11, 12, 13]) l368_1 (.norm false [10, 11, 12])))
 (.seq
 (.reg [mv 106 10, mv 107 12, rg 108 (.call 289 [(.t 106), (.t 107)]), mv 109 108, gd 110 109 true (.mov (.t 11)),
 rg 111 (.pick (.t 109) (.t 110) (.c (.b false))), mv 112 111, gd 113 112 true (.call 334 []), rg 114 (.pick (.t 112) (.t 113) (.c (.b false))), mv 6 114])
 (.pre (.norm false [6]) .ret)))))))))))
def b369 : AX :=
 (.seq
 (.reg [rg 5 (.xop (.box 3) [(.t 2)]), rg 6 (.mov (.c (.b false)))])
 (.seq
 (.seq
 (.reg [mv 19 0, rg 20 (.call 286 [(.t 19), (.c (.i .i64 6)), (.c (.i .i64 3))]), mv 21 20, gd 22 21 false (.mov (.t 1)),
 gd 23 21 false (.call 286 [(.t 22), (.c (.i .i64 6)), (.c (.i .i64 3))]), rg 24 (.pick (.t 21) (.c (.b true)) (.t 23)), mv 25 24,
 gd 26 25 false (.load (some 3) (.t 5)), gd 27 25 false (.call 247 [(.t 26), (.c (.i .i64 3))]), rg 28 (.pick (.t 25) (.c (.b true)) (.t 27)), mv 29 28,
 gd 30 29 false (.mov (.t 0)), gd 31 29 false (.len (.t 30)), gd 32 29 false (.mov (.t 1)), gd 33 29 false (.len (.t 32)),
 gd 34 29 false (.bin .neq (.t 31) (.t 33)), rg 35 (.pick (.t 29) (.c (.b true)) (.t 34))])
 (.cond (.t 35)
 (.seq
 (.reg [rg 36 (.call 334 []), mv 6 36])
 (.pre (.norm false [6]) .ret))
 .skip))
 (.seq
 (.reg [mv 37 0, rg 38 (.call 287 [(.t 37)]), mv 7 38])
 (.seq
 (.reg [mv 39 1, rg 40 (.call 287 [(.t 39)]), mv 8 40])
 (.seq
 (.reg [rg 41 (.load (some 3) (.t 5)), rg 42 (.call 248 [(.t 41)]), rg 9 (.alloc [(.b false), (.sl [] .nl), (.sl [] .nl)]), so (.store 3 (.t 9) (.t 42))])
 (.seq
 (.reg [mv 44 7, rg 45 (.load (some 3) (.t 9)), mv 46 8, rg 47 (.call 269 [(.t 45), (.t 46)]), rg 48 (.bsl 1 [(.sl [] .nl)] 2 [(0, (.t 44)), (1, (.t 47))]),
 rg 49 (.call 267 [(.t 48)]), mv 43 49, rg 50 (.ext (.t 43) 0), rg 51 (.ext (.t 43) 1), mv 10 50, mv 11 51])
 (.seq
 (.reg [mv 53 10, mv 54 8, rg 55 (.call 270 [(.t 53), (.t 54)]), mv 52 55, rg 56 (.ext (.t 52) 0), rg 57 (.ext (.t 52) 1),
 rg 12 (.alloc [(.b false), (.sl [] .nl), (.sl [] .nl)]), so (.store 3 (.t 12) (.t 56)), mv 13 57])
 (.seq
 (.reg [mv 59 7, mv 60 8, rg 61 (.call 270 [(.t 59), (.t 60)]), mv 58 61, rg 62 (.ext (.t 58) 0), rg 63 (.ext (.t 58) 1),
 rg 14 (.alloc [(.b false), (.sl [] .nl), (.sl [] .nl)]), so (.store 3 (.t 14) (.t 62)), mv 15 63])
 (.seq
 (.reg [mv 65 8, mv 66 8, rg 67 (.call 270 [(.t 65), (.t 66)]), mv 64 67, rg 68 (.ext (.t 64) 0), rg 69 (.ext (.t 64) 1),
 rg 16 (.alloc [(.b false), (.sl [] .nl), (.sl [] .nl)]), so (.store 3 (.t 16) (.t 68)), mv 17 69])
 (.seq
 (.seq
 (.drawT [mv 70 11, rg 71 (.un .not (.t 70)), mv 72 71, gd 73 72 false (.mov (.t 13)), gd 74 72 false (.un .not (.t 73)),
 rg 75 (.pick (.t 72) (.c (.b true)) (.t 74)), mv 76 75, gd 77 76 false (.mov (.t 15)), gd 78 76 false (.un .not (.t 77)),
 rg 79 (.pick (.t 76) (.c (.b true)) (.t 78)), mv 80 79, gd 81 80 false (.mov (.t 17)), gd 82 80 false (.un .not (.t 81)),
 rg 83 (.pick (.t 80) (.c (.b true)) (.t 82)), mv 84 83, gd 85 84 false (.load (some 3) (.t 12)), gd 86 84 false (.load (some 3) (.t 14)),
 gd 87 84 false (.load (some 3) (.t 9)), gd 88 84 false (.load (some 3) (.t 16)), gd 89 84 false (.call 217 [(.t 87), (.t 88)]),
 gd 90 84 false (.call 215 [(.t 86), (.t 89)])]
 [gd 91 84 false (.call 212 [(.t 85), (.t 90)]), gd 92 84 false (.un .not (.t 91)), rg 93 (.pick (.t 84) (.c (.b true)) (.t 92))])
 (.cond (.t 93)
 (.seq
 (.reg [rg 6 (.mov (.c (.b false)))])
 (.pre (.norm false [6]) .ret))
 .skip))
 (.seq
 (.draw [⟨mv 94 7, 0, 1⟩, ⟨rg 95 (.call 272 [(.t 94)]), 0, 1⟩, ⟨rg 96 (.load (some 3) (.t 9)), 0, 1⟩, ⟨mv 97 8, 0, 1⟩,
 ⟨rg 98 (.call 269 [(.t 96), (.t 97)]), 0, 1⟩, ⟨rg 99 (.call 272 [(.t 98)]), 0, 1⟩, ⟨rg 100 (.call 215 [(.t 95), (.t 99)]), 0, 1⟩,
 ⟨rg 18 (.alloc [(.b false), (.sl [] .nl), (.sl [] .nl)]), 0, 1⟩, ⟨so (.store 3 (.t 18) (.t 100)), 1, 2⟩])
 (.seq
 (.drawT [mv 101 10, rg 102 (.call 272 [(.t 101)]), rg 103 (.load (some 3) (.t 18))]
 [rg 104 (.call 211 [(.t 102), (.t 103)]), rg 105 (.bin .leq (.t 104) (.c (.i .i64 0))), mv 106 105, gd 107 106 true (.load (some 3) (.t 16)),
 gd 108 106 true (.call 209 [(.t 107)]), gd 109 106 true (.bin .geq (.t 108) (.c (.i .i64 0))), rg 110 (.pick (.t 106) (.t 109) (.c (.b false))),
 mv 111 110, gd 112 111 true (.call 334 []), rg 113 (.pick (.t 111) (.t 112) (.c (.b false))), mv 6 113])
 (.pre (.norm false [6]) .ret)))))))))))))
def b370 : AX :=
 (.seq
 (.reg [rg 5 (.xop (.box 2) [(.t 2)]), rg 6 (.mov (.c (.b false)))])
 (.seq
 (.seq
 (.reg [mv 9 0, rg 10 (.call 286 [(.t 9), (.c (.i .i64 12)), (.c (.i .i64 6))]), mv 11 10, gd 12 11 false (.mov (.t 1)),
 gd 13 11 false (.call 286 [(.t 12), (.c (.i .i64 12)), (.c (.i .i64 6))]), rg 14 (.pick (.t 11) (.c (.b true)) (.t 13))])
 (.cond (.t 14)
 (.seq
 (.reg [rg 15 (.call 334 []), mv 6 15])
 (.pre (.norm false [6]) .ret))
 .skip))
 (.seq
 (.reg [mv 16 0, rg 17 (.call 278 [(.t 16)]), mv 7 17])
 (.seq
 (.reg [mv 18 1, rg 19 (.call 278 [(.t 18)]), mv 8 19])
 (.seq
 (.drawT [rg 20 (.iaa 1 2 (.t 5) (.c (.i .i64 0))), rg 21 (.load none (.t 20)), rg 22 (.call 263 [(.t 21)]), rg 23 (.iaa 1 2 (.t 5) (.c (.i .i64 0))),
 rg 24 (.load none (.t 23)), rg 25 (.call 276 [(.t 24)]), rg 26 (.call 289 [(.t 22), (.t 25)]), mv 27 26,
 gd 28 27 true (.iaa 1 2 (.t 5) (.c (.i .i64 0))), gd 29 27 true (.load none (.t 28)), gd 30 27 true (.iaa 1 2 (.t 5) (.c (.i .i64 1))),
 gd 31 27 true (.load none (.t 30)), gd 32 27 true (.call 264 [(.t 29), (.t 31)]), gd 33 27 true (.iaa 1 2 (.t 5) (.c (.i .i64 0))),
 gd 34 27 true (.load none (.t 33)), gd 35 27 true (.iaa 1 2 (.t 5) (.c (.i .i64 1))), gd 36 27 true (.load none (.t 35)),
 gd 37 27 true (.call 277 [(.t 34), (.t 36)]), gd 38 27 true (.call 289 [(.t 32), (.t 37)]), rg 39 (.pick (.t 27) (.t 38) (.c (.b false))), mv 40 39,
 gd 41 40 true (.mov (.t 0)), gd 42 40 true (.call 287 [(.t 41)]), gd 43 40 true (.mov (.t 1)), gd 44 40 true (.call 287 [(.t 43)]),
 gd 45 40 true (.call 265 [(.t 42), (.t 44)]), gd 46 40 true (.mov (.t 7)), gd 47 40 true (.mov (.t 8)), gd 48 40 true (.call 279 [(.t 46), (.t 47)]),
 gd 49 40 true (.eqb false (.t 45) (.t 48)), rg 50 (.pick (.t 40) (.t 49) (.c (.b false))), mv 51 50, gd 52 51 true (.mov (.t 0)),
 gd 53 51 true (.call 287 [(.t 52)]), gd 54 51 true (.call 272 [(.t 53)]), gd 55 51 true (.mov (.t 7)), gd 56 51 true (.call 283 [(.t 55)]),
 gd 57 51 true (.call 250 [(.t 54), (.t 56)]), rg 58 (.pick (.t 51) (.t 57) (.c (.b false))), mv 59 58, gd 60 59 true (.mov (.t 0)),
 gd 61 59 true (.call 287 [(.t 60)]), gd 62 59 true (.call 273 [(.t 61)]), gd 63 59 true (.mov (.t 0))]
 [gd 64 59 true (.call 371 [(.t 63)]), gd 65 59 true (.bin .eql (.t 62) (.t 64)), rg 66 (.pick (.t 59) (.t 65) (.c (.b false))), mv 67 66,
 gd 68 67 true (.call 334 []), rg 69 (.pick (.t 67) (.t 68) (.c (.b false))), mv 6 69])
 (.pre (.norm false [6]) .ret))))))
def l371_0 : AX :=
 (.note
 (.seq
 (.seq
 (.reg [mv 5 4, mv 6 0, rg 7 (.len (.t 6)), rg 8 (.bin .lss (.t 5) (.t 7))])
 (.cond (.t 8)
 .skip
 (.exit 0)))
 (.seq
 (.block 1
 (.reg [mv 11 3, mv 12 0, mv 13 4, rg 14 (.iad 3 (.t 12) (.t 13)), rg 15 (.load (some 3) (.t 14)), rg 16 (.call 245 [(.t 15)]),
 rg 17 (.mm true [(.t 11), (.t 16)]), mv 3 17]))
 (.reg [mv 9 4, rg 10 (.bin .add (.t 9) (.c (.i .i64 1))), mv 4 10])))
 (.norm false [0, 3, 4]))
def b371 : AX :=
 (.seq
 (.reg [rg 2 (.mov (.c (.i .i64 0)))])
 (.seq
 (.reg [rg 3 (.mov (.c (.i .i64 0)))])
 (.seq
 (.seq
 (.reg [rg 4 (.mov (.c (.i .i64 0)))])
 (.lp 0 (.norm false [0, 3, 4]) l371_0 (.norm false [3])))
 (.seq
 (.reg [mv 18 3, mv 2 18])
 (.pre (.norm false [2]) .ret)))))
class CLaw11c (T : Tbl) : Prop where
 h366 : T 366 = some ⟨1, 27, [.t 2], b366, none, false⟩
 h367 : T 367 = some ⟨3, 153, [.t 6], b367, none, false⟩
 h368 : T 368 = some ⟨3, 115, [.t 6], b368, none, false⟩
 h369 : T 369 = some ⟨3, 114, [.t 6], b369, none, false⟩
 h370 : T 370 = some ⟨3, 70, [.t 6], b370, none, false⟩
 h371 : T 371 = some ⟨1, 19, [.t 2], b371, none, false⟩
section
variable {T : Tbl} [CLaw11c T] {d : Option Nat} {st : St} {xs : List AV} {ps : List Opd} {e : Env} {h : Heap} {ol : List Heap}
theorem f369 (xs : List AV) (hn : xs.length = 3) : callF T 369 xs = retF [.t 6] false (evX (orc T) T 0 b369 ⟨argEnv xs, [], 1⟩) := callF_eq CLaw11c.h369 hn
end
end Go.Ab
end

section
namespace Go.Ab
open Go.RowKit
def opU : AOp → Option Nat
 | .call u _ => some u
 | _ => none
def cXs : AX → List Nat
 | .reg l => l.filterMap fun o => opU o.op
 | .draw l => l.filterMap fun o => opU o.ao.op
 | .drawT hd tl => (hd.filterMap fun o => opU o.op) ++ tl.filterMap fun o => opU o.op
 | .seq a b => cXs a ++ cXs b
 | .cond _ x y => cXs x ++ cXs y
 | .block _ c | .loop c | .note c _ | .pre _ c | .scope c | .lp _ _ c _ => cXs c
 | _ => []
structure Agr (R : Nat → Bool) (T T' : Tbl) (O O' : Orc) : Prop where
 tbl : ∀ u, R u = true → T u = T' u
 call : ∀ u xs hb, R u = true → O.call u xs hb = O'.call u xs hb
 loop : ∀ k c st, (∀ u ∈ cXs c, R u = true) → O.loop k c st = O'.loop k c st
section
variable {R : Nat → Bool} {T T' : Tbl} {O O' : Orc}
theorem callX_agr (h : Agr R T T' O O') {u : Nat} (hu : R u = true) {xs : List AV} {d : Option Nat} {st : St} : callX O T u xs d st = callX O' T' u xs d st := by
 unfold callX
 rw [h.tbl u hu]
 simp only [h.call u _ _ hu]
theorem opX_agr (h : Agr R T T' O O') {op : AOp} (hu : ∀ u, opU op = some u → R u = true) {d : Option Nat} {st : St} : opX O T op d st = opX O' T' op d st := by
 cases op <;> simp only [opX]
 exact callX_agr h (hu _ rfl)
theorem stepX_agr (h : Agr R T T' O O') {o : AO} (hu : ∀ u, opU o.op = some u → R u = true) {st : St} : stepX O T o st = stepX O' T' o st := by
 unfold stepX gX
 simp only [opX_agr h hu]
theorem runX_agr (h : Agr R T T' O O') : ∀ (l : List AO), (∀ o ∈ l, ∀ u, opU o.op = some u → R u = true) → ∀ st, runX O T l st = runX O' T' l st
 | [], _, st => rfl
 | o :: l, hu, st => by
  simp only [runX]
  rw [stepX_agr h (hu o List.mem_cons_self)]
  congr 1
  funext s
  exact runX_agr h l (fun o ho => hu o (List.mem_cons_of_mem _ ho)) s
theorem opD_agr (h : Agr R T T' O O') {op : AOp} (hu : ∀ u, opU op = some u → R u = true) {e : Env} {hp : Heap} {older : List Heap} : opD O T op e hp older = opD O' T' op e hp older := by
 cases op <;> simp only [opD]
 rw [h.tbl _ (hu _ rfl)]
 simp only [h.call _ _ _ (hu _ rfl)]
theorem qX_agr (h : Agr R T T' O O') {o : AO} (hu : ∀ u, opU o.op = some u → R u = true) {e : Env} {hp : Heap} {older : List Heap} : qX O T o e hp older = qX O' T' o e hp older := by
 unfold qX
 simp only [opD_agr h hu]
theorem drawX_agr (h : Agr R T T' O O') : ∀ (l : List DO), (∀ o ∈ l, ∀ u, opU o.ao.op = some u → R u = true) → ∀ e hp clk older pend, drawX O T l e hp clk older pend = drawX O' T' l e hp clk older pend
 | [], _, e, hp, clk, older, pend => rfl
 | o :: l, hu, e, hp, clk, older, pend => by
  have ih := drawX_agr h l (fun o ho => hu o (List.mem_cons_of_mem _ ho))
  simp only [drawX]
  rw [qX_agr h (hu o List.mem_cons_self)]
  simp only [ih]
theorem headX_agr (h : Agr R T T' O O') (tl : List AO) (ht : ∀ o ∈ tl, ∀ u, opU o.op = some u → R u = true) : ∀ (l : List AO), (∀ o ∈ l, ∀ u, opU o.op = some u → R u = true) → ∀ e hp clk, headX O T tl l e hp clk = headX O' T' tl l e hp clk
 | [], _, e, hp, clk => runX_agr h tl ht _
 | o :: l, hu, e, hp, clk => by
  have ih := headX_agr h tl ht l (fun o ho => hu o (List.mem_cons_of_mem _ ho))
  simp only [headX]
  rw [qX_agr h (hu o List.mem_cons_self)]
  simp only [ih]
theorem evX_agr (h : Agr R T T' O O') (k : Nat) : ∀ (c : AX), (∀ u ∈ cXs c, R u = true) → ∀ st, evX O T k c st = evX O' T' k c st
 | .skip, _, st => rfl
 | .reg l, hu, st => by
  simp only [evX]
  rw [runX_agr h l fun o ho u hou => hu u (List.mem_filterMap.2 ⟨o, ho, hou⟩)]
 | .draw l, hu, st => by
  simp only [evX]
  rw [drawX_agr h l fun o ho u hou => hu u (List.mem_filterMap.2 ⟨o, ho, hou⟩)]
 | .drawT hd tl, hu, st => by
  simp only [evX]
  rw [headX_agr h tl (fun o ho u hou => hu u (List.mem_append_right _ (List.mem_filterMap.2 ⟨o, ho, hou⟩))) hd (fun o ho u hou => hu u (List.mem_append_left _ (List.mem_filterMap.2 ⟨o, ho, hou⟩)))]
 | .bad, _, st => rfl
 | .prim f, _, st => rfl
 | .seq a b, hu, st => by
  simp only [evX]
  rw [evX_agr h k a fun u hm => hu u (List.mem_append_left _ hm)]
  congr 1
  funext r
  rw [evX_agr h k b fun u hm => hu u (List.mem_append_right _ hm)]
 | .cond c x y, hu, st => by
  simp only [evX]
  rw [evX_agr h k x fun u hm => hu u (List.mem_append_left _ hm), evX_agr h k y fun u hm => hu u (List.mem_append_right _ hm)]
 | .block id c, hu, st => by
  simp only [evX]
  rw [evX_agr h k c hu]
 | .loop c, hu, st => h.loop k c st hu
 | .exit id, _, st => rfl
 | .ret, _, st => rfl
 | .note c g, hu, st => by
  simp only [evX]
  rw [evX_agr h k c hu]
 | .pre g c, hu, st => by
  simp only [evX]
  congr 1
  funext s
  exact evX_agr h k c hu s
 | .scope c, hu, st => by
  simp only [evX]
  exact evX_agr h k c hu st
 | .lp id g c g2, hu, st => by
  simp only [evX, h.loop k c _ hu]
theorem nextO_agr (hc : ∀ u af, R u = true → T u = some af → ∀ v ∈ cXs af.body, R v = true) (h : Agr R T T' O O') : Agr R T T' (nextO T O) (nextO T' O') where
 tbl := h.tbl
 call u xs hb hu := by
  simp only [nextO]
  rw [← h.tbl u hu]
  cases ht : T u with
  | none => rfl
  | some af =>
   simp only
   rw [evX_agr h hb.length af.body (hc u af hu ht)]
 loop k c st hu := by
  simp only [nextO]
  rw [evX_agr h k c hu]
  congr 1
  funext r
  rw [h.loop k c _ hu]
theorem orcN_agr (ht : ∀ u, R u = true → T u = T' u) (hc : ∀ u af, R u = true → T u = some af → ∀ v ∈ cXs af.body, R v = true) : ∀ n, Agr R T T' (orcN T n) (orcN T' n)
 | 0 => ⟨ht, fun _ _ _ _ => rfl, fun _ _ _ _ => rfl⟩
 | n + 1 => nextO_agr hc (orcN_agr ht hc n)
theorem orc_agr (ht : ∀ u, R u = true → T u = T' u) (hc : ∀ u af, R u = true → T u = some af → ∀ v ∈ cXs af.body, R v = true) : Agr R T T' (orc T) (orc T') := by
 refine ⟨ht, fun u xs hb hu => ?_, fun k c st hu => ?_⟩
 ·simp only [orc]
  congr 1
  funext n
  exact (orcN_agr ht hc n).call u xs hb hu
 ·simp only [orc]
  congr 1
  funext n
  exact (orcN_agr ht hc n).loop k c st hu
end
theorem mem_of_lookup {l : List (Nat × AFx)} {u : Nat} {af : AFx} (h : l.lookup u = some af) : (u, af) ∈ l := by
 induction l with
 | nil => cases h
 | cons q l ih =>
  obtain ⟨q1, q2⟩ := q
  simp only [List.lookup_cons] at h
  split at h
  ·rename_i he
   have := eq_of_beq he
   subst this
   cases h
   exact List.mem_cons_self
  ·exact List.mem_cons_of_mem _ (ih h)
structure Part (l l' : List (Nat × AFx)) : Prop where
 sub : ∀ p ∈ l', l.lookup p.1 = some p.2
 clo : (l'.all fun p => (cXs p.2.body).all fun v => (l'.lookup v).isSome || (l.lookup v).isNone) = true
theorem Part.agr {l l' : List (Nat × AFx)} (h : Part l l') : Agr (fun u => (l'.lookup u).isSome || (l.lookup u).isNone) (fun u => l.lookup u) (fun u => l'.lookup u) (orc fun u => l.lookup u) (orc fun u => l'.lookup u) := by
 refine orc_agr (fun v hv => ?_) (fun v a hv hva w hw => ?_)
 ·cases hv2 : l'.lookup v with
  | none =>
   simp only [hv2] at hv
   cases hv3 : l.lookup v with
   | none => rfl
   | some a => rw [hv3] at hv; cases hv
  | some a => exact h.sub _ (mem_of_lookup hv2)
 ·cases hv2 : l'.lookup v with
  | none => simp only [hv2, hva] at hv; cases hv
  | some b =>
   have hb := mem_of_lookup hv2
   have h1 := h.sub _ hb
   simp only at hva h1
   rw [hva] at h1
   cases h1
   exact List.all_eq_true.1 (List.all_eq_true.1 h.clo _ hb) w hw
theorem Part.ev {l l' : List (Nat × AFx)} (h : Part l l') {c : AX} (hc : ((cXs c).all fun v => (l'.lookup v).isSome) = true) {st : St} {r : Option (Ex × St)}
  (he : evX (orc fun u => l.lookup u) (fun u => l.lookup u) 0 c st = r) : evX (orc fun u => l'.lookup u) (fun u => l'.lookup u) 0 c st = r := by
 rw [← evX_agr h.agr 0 c (fun v hv => by rw [List.all_eq_true.1 hc v hv]; rfl) st]
 exact he
theorem Part.call {l l' : List (Nat × AFx)} (h : Part l l') {u : Nat} (hu : (l'.lookup u).isSome = true) {xs : List AV} {r : Option AV} (he : callF (fun u => l.lookup u) u xs = r) : callF (fun u => l'.lookup u) u xs = r := by
 rw [← he]
 unfold callF
 rw [h.agr.call u xs [] (by rw [hu]; rfl)]
end Go.Ab
end
