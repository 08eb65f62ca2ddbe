/-
  A calculus of values, boxes and code, and what functions of the program compute, proved in it.
  Conditions: none beyond those that the theorems state. (Part 5: GpRef02, GcRef04, GpRef04, GcRef05, GcRef06, GpRef05, GpRef05d, GcRef07, GpRef07, GcRef08, GcRef09, GcRef11, GcLaw09, GcLaw11, GcTape, GcGauge, GcEval, GcEval2, GcLaw24, GcLenD, GcTree, GcRef17, GcLaw17, GcDiff, GcRef23, GcLaw23, GcLaw23b, Ax10.)
-/
import Derived.Test.YtegcbhlfmmgmhaaGreatDoorPart4

set_option linter.unusedSectionVars false
set_option linter.unusedVariables false
set_option linter.unusedSimpArgs false
set_option linter.unnecessarySimpa false

section
namespace Go.Ab
section
variable {T : Tbl} [CRef02 T]
def atW (a : List UInt32) (i : Nat) : Nat := (a[i]?.map UInt32.toNat).getD 0
end
section
variable {T : Tbl} [CRef02 T]
def stAdd2 (a b : List UInt32) (n : Nat) (y : Nat × Nat × List UInt32) : St :=
 ⟨[(0, .sl (u32s a) .an), (1, .sl (u32s b) .an), (5, .i .i64 n), (6, .bs (.loc 16) 1 1 0 n), (7, u64 y.2.1), (8, .i .i64 y.1)], [(.loc 16, ⟨1, .own, 1, u32s y.2.2⟩)], 3⟩
def stSub2 (a b : List UInt32) (n : Nat) (y : Nat × Nat × List UInt32) : St :=
 ⟨[(0, .sl (u32s a) .an), (1, .sl (u32s b) .an), (5, .i .i64 n), (6, .bs (.loc 17) 1 1 0 n), (7, u64 y.2.1), (8, .i .i64 y.1)], [(.loc 17, ⟨1, .own, 1, u32s y.2.2⟩)], 3⟩
end
end Go.Ab
end

section
namespace Go.Ab
class CRef04 (T : Tbl) : Prop extends CRef02 T where
end Go.Ab
end

section
namespace Go.Ab
section
variable {T : Tbl} [CRef04 T]
def stIn4 (P S a b : List UInt32) (y : Nat × Nat × List UInt32) : St :=
 ⟨[(0, .sl (u32s a) .an), (1, .sl (u32s b) .an), (5, .bs (.loc 14) 1 1 0 (P.length + S.length)), (6, .i .i64 P.length), (7, u64 y.2.1), (8, .i .i64 y.1)], [(.loc 14, ⟨1, .own, 1, u32s (P ++ (y.2.2 ++ S.drop y.1))⟩)], 3⟩
end
section
variable {T : Tbl} [CRef04 T]
def stMul4 (a b : List UInt32) (y : Nat × List UInt32) : St :=
 ⟨[(0, .sl (u32s a) .an), (1, .sl (u32s b) .an), (5, .bs (.loc 14) 1 1 0 (a.length + b.length)), (6, .i .i64 y.1)], [(.loc 14, ⟨1, .own, 1, u32s (y.2 ++ List.replicate (a.length - y.1) 0)⟩)], 3⟩
end
end Go.Ab
end

section
namespace Go.Ab
def l63_0 : AX :=
 (.note
 (.seq
 (.seq
 (.reg [⟨(some 19), none, .mov (.t 8)⟩,
 ⟨(some 20), none, .bin .geq (.t 19) (.c (.i .i64 0))⟩])
 (.cond (.t 20)
 .skip
 (.exit 0)))
 (.seq
 (.block 1
 (.seq
 (.drawT [⟨(some 23), none, .mov (.t 7)⟩,
 ⟨(some 24), none, .mov (.t 0)⟩,
 ⟨(some 25), none, .mov (.t 8)⟩,
 ⟨(some 26), none, .bin .quo (.t 25) (.c (.i .i64 32))⟩,
 ⟨(some 27), none, .iad 1 (.t 24) (.t 26)⟩,
 ⟨(some 28), none, .load none (.t 27)⟩,
 ⟨(some 29), none, .mov (.t 8)⟩,
 ⟨(some 30), none, .bin .rem (.t 29) (.c (.i .i64 32))⟩,
 ⟨(some 31), none, .bin .shl (.c (u32 1)) (.t 30)⟩,
 ⟨(some 32), none, .bin .quo (.t 28) (.t 31)⟩,
 ⟨(some 33), none, .bin .rem (.t 32) (.c (u32 2))⟩,
 ⟨(some 34), none, .bin .eql (.t 33) (.c (u32 1))⟩]
 [⟨(some 35), none, .call 96 [(.t 23), (.t 34)]⟩])
 (.seq
 (.reg [⟨(some 36), none, .mov (.t 6)⟩,
 ⟨(some 37), none, .call 96 [(.t 36), (.c (.b false))]⟩])
 (.seq
 (.reg [⟨(some 38), none, .mov (.t 7)⟩,
 ⟨(some 39), none, .mov (.t 1)⟩,
 ⟨(some 40), none, .call 52 [(.t 38), (.t 39)]⟩,
 ⟨(some 41), none, .bin .geq (.t 40) (.c (.i .i64 0))⟩])
 (.cond (.t 41)
 (.seq
 (.reg [⟨(some 42), none, .mov (.t 7)⟩,
 ⟨(some 43), none, .mov (.t 1)⟩,
 ⟨(some 44), none, .call 97 [(.t 42), (.t 43)]⟩])
 (.reg [⟨(some 45), none, .mov (.t 6)⟩,
 ⟨(some 46), none, .iad 1 (.t 45) (.c (.i .i64 0))⟩,
 ⟨(some 47), none, .load none (.t 46)⟩,
 ⟨(some 48), none, .bin .add (.t 47) (.c (u32 1))⟩,
 ⟨(some 49), none, .iad 1 (.t 45) (.c (.i .i64 0))⟩,
 ⟨none, none, .store 1 (.t 49) (.t 48)⟩]))
 .skip)))))
 (.reg [⟨(some 21), none, .mov (.t 8)⟩,
 ⟨(some 22), none, .bin .sub (.t 21) (.c (.i .i64 1))⟩,
 ⟨(some 8), none, .mov (.t 22)⟩])))
 (.norm false [0, 1, 6, 7, 8]))
def b63 : AX :=
 (.seq
 (.reg [⟨(some 4), none, .mov (.c (.sl [] .nl))⟩,
 ⟨(some 5), none, .mov (.c (.sl [] .nl))⟩])
 (.seq
 (.reg [⟨(some 9), none, .mov (.t 0)⟩,
 ⟨(some 10), none, .len (.t 9)⟩,
 ⟨(some 11), none, .mks 1 [(u32 0)] (.t 10) (.t 10)⟩,
 ⟨(some 6), none, .mov (.t 11)⟩])
 (.seq
 (.reg [⟨(some 12), none, .mov (.t 1)⟩,
 ⟨(some 13), none, .len (.t 12)⟩,
 ⟨(some 14), none, .bin .add (.t 13) (.c (.i .i64 1))⟩,
 ⟨(some 15), none, .mks 1 [(u32 0)] (.t 14) (.t 14)⟩,
 ⟨(some 7), none, .mov (.t 15)⟩])
 (.seq
 (.seq
 (.reg [⟨(some 16), none, .mov (.t 0)⟩,
 ⟨(some 17), none, .call 95 [(.t 16)]⟩,
 ⟨(some 18), none, .bin .sub (.t 17) (.c (.i .i64 1))⟩,
 ⟨(some 8), none, .mov (.t 18)⟩])
 (.lp 0 (.norm false [0, 1, 6, 7, 8]) l63_0 (.norm false [6, 7])))
 (.seq
 (.reg [⟨(some 50), none, .mov (.t 6)⟩,
 ⟨(some 51), none, .call 43 [(.t 50)]⟩,
 ⟨(some 52), none, .mov (.t 7)⟩,
 ⟨(some 53), none, .call 43 [(.t 52)]⟩,
 ⟨(some 4), none, .mov (.t 51)⟩,
 ⟨(some 5), none, .mov (.t 53)⟩])
 (.pre (.norm false [4, 5]) .ret))))))
class CRef05 (T : Tbl) : Prop extends CRef04 T where
 h63 : T 63 = some ⟨2, 54, [.t 4, .t 5], b63, none, false⟩
end Go.Ab
end

section
namespace Go.Ab
class CRef06 (T : Tbl) : Prop where
end Go.Ab
end

section
namespace Go.Ab
section
variable {T : Tbl} [CRef05 T]
def stDb (a : List UInt32) (y : Nat × Nat × List UInt32) : St :=
 ⟨[(0, .bs (.bor 0) 0 1 0 a.length), (4, u32 y.2.1), (5, .i .i64 y.1)], [(.bor 0, ⟨0, .own, 1, u32s (y.2.2 ++ a.drop y.1)⟩)], 4⟩
end
section
variable {T : Tbl} [CRef05 T]
def stLs (a b : List UInt32) (y : Nat × Nat × List UInt32) : St :=
 ⟨[(0, .bs (.bor 0) 0 1 0 a.length), (1, .sl (u32s b) .an), (4, u64 y.2.1), (5, .i .i64 y.1)], [(.bor 0, ⟨0, .own, 1, u32s (y.2.2 ++ a.drop y.1)⟩)], 4⟩
def stHs (x i : Nat) (y : Nat) : St := ⟨[(1, .i .i64 i), (5, u32 (x / 2 ^ y)), (6, .i .i64 y)], [], 2⟩
end
section
variable {T : Tbl} [CRef05 T]
def stLn (a : List UInt32) (y : Nat) : St := ⟨[(0, .sl (u32s a) .an), (3, .i .i64 y)], [], 2⟩
end
end Go.Ab
end

section
namespace Go.Ab
section
variable {T : Tbl} [CRef05 T]
def stDv (a b : List UInt32) (y : Nat × List UInt32 × List UInt32) : St :=
  ⟨[(0, .sl (u32s a) .an), (1, .sl (u32s b) .an), (6, .bs (.loc 11) 1 1 0 a.length), (7, .bs (.loc 15) 2 1 0 (b.length + 1)), (8, .i .i64 ((y.1 : Int) - 1))], [(.loc 11, ⟨1, .own, 1, u32s y.2.1⟩), (.loc 15, ⟨2, .own, 1, u32s y.2.2⟩)], 4⟩
end
end Go.Ab
end

section
namespace Go.Ab
class CRef07 (T : Tbl) : Prop extends CRef05 T where
end Go.Ab
end

section
namespace Go.Ab
section
variable {T : Tbl} [CRef07 T]
def stTen (N : Nat) (y : Nat × Nat × List UInt32) (P : List UInt32) : St :=
 ⟨[(0, .bs (.bor 0) 0 1 0 N), (3, u64 y.2.1), (4, .i .i64 ((y.1 : Int) - 1))], [(.bor 0, ⟨0, .own, 1, u32s (P.take y.1 ++ y.2.2)⟩)], 4⟩
end
section
variable {T : Tbl} [CRef07 T]
def stTx (b : BId) (x : List UInt32) (s : List UInt8) : St := ⟨[(3, .bs b 1 1 0 x.length), (4, .s s)], [(b, ⟨1, .own, 1, u32s x⟩)], 3⟩
end
end Go.Ab
end

section
namespace Go.Ab
def b39 : AX :=
 (.seq
 (.reg [⟨(some 1), none, .xop (.box 2) [(.t 0)]⟩,
 ⟨(some 2), none, .alloc [(.b false), (.sl [] .nl)]⟩])
 (.seq
 (.reg [⟨(some 4), none, .fad 1 (.t 1)⟩,
 ⟨(some 5), none, .load none (.t 4)⟩,
 ⟨(some 6), none, .call 43 [(.t 5)]⟩,
 ⟨(some 3), none, .mov (.t 6)⟩])
 (.seq
 (.reg [⟨(some 7), none, .fad 0 (.t 1)⟩,
 ⟨(some 8), none, .load none (.t 7)⟩,
 ⟨(some 9), none, .mov (.t 8)⟩,
 ⟨(some 10), (some (9, true)), .mov (.t 3)⟩,
 ⟨(some 11), (some (9, true)), .len (.t 10)⟩,
 ⟨(some 12), (some (9, true)), .bin .gtr (.t 11) (.c (.i .i64 0))⟩,
 ⟨(some 13), none, .pick (.t 9) (.t 12) (.c (.b false))⟩,
 ⟨(some 14), none, .mov (.t 3)⟩,
 ⟨(some 15), none, .build [(.b false), (.sl [] .nl)] [(0, 1, (.t 13)), (1, 1, (.t 14))]⟩,
 ⟨none, none, .store 2 (.t 2) (.t 15)⟩])
 (.pre (.norm false [2]) .ret))))
def b21 : AX :=
 (.seq
 (.reg [⟨(some 2), none, .xop (.box 2) [(.t 0)]⟩,
 ⟨(some 3), none, .xop (.box 2) [(.t 1)]⟩,
 ⟨(some 4), none, .mov (.c (.b false))⟩])
 (.seq
 (.reg [⟨(some 5), none, .fad 0 (.t 2)⟩,
 ⟨(some 6), none, .load none (.t 5)⟩,
 ⟨(some 7), none, .fad 0 (.t 3)⟩,
 ⟨(some 8), none, .load none (.t 7)⟩,
 ⟨(some 9), none, .eqb false (.t 6) (.t 8)⟩,
 ⟨(some 10), none, .mov (.t 9)⟩,
 ⟨(some 11), (some (10, true)), .fad 1 (.t 2)⟩,
 ⟨(some 12), (some (10, true)), .load none (.t 11)⟩,
 ⟨(some 13), (some (10, true)), .fad 1 (.t 3)⟩,
 ⟨(some 14), (some (10, true)), .load none (.t 13)⟩,
 ⟨(some 15), (some (10, true)), .call 54 [(.t 12), (.t 14)]⟩,
 ⟨(some 16), none, .pick (.t 10) (.t 15) (.c (.b false))⟩,
 ⟨(some 4), none, .mov (.t 16)⟩])
 (.pre (.norm false [4]) .ret)))
def b30 : AX :=
 (.seq
 (.reg [⟨(some 1), none, .xop (.box 2) [(.t 0)]⟩,
 ⟨(some 2), none, .mov (.c (.i .i64 0))⟩])
 (.seq
 (.reg [⟨(some 4), none, .load (some 2) (.t 1)⟩,
 ⟨(some 5), none, .call 39 [(.t 4)]⟩,
 ⟨(some 3), none, .alloc [(.b false), (.sl [] .nl)]⟩,
 ⟨none, none, .store 2 (.t 3) (.t 5)⟩])
 (.seq
 (.seq
 (.reg [⟨(some 6), none, .fad 1 (.t 3)⟩,
 ⟨(some 7), none, .load none (.t 6)⟩,
 ⟨(some 8), none, .len (.t 7)⟩,
 ⟨(some 9), none, .bin .eql (.t 8) (.c (.i .i64 0))⟩])
 (.cond (.t 9)
 (.seq
 (.reg [⟨(some 2), none, .mov (.c (.i .i64 0))⟩])
 (.pre (.norm false [2]) .ret))
 .skip))
 (.seq
 (.seq
 (.reg [⟨(some 10), none, .fad 0 (.t 3)⟩,
 ⟨(some 11), none, .load none (.t 10)⟩])
 (.cond (.t 11)
 (.seq
 (.reg [⟨(some 2), none, .mov (.c (.i .i64 (-1)))⟩])
 (.pre (.norm false [2]) .ret))
 .skip))
 (.seq
 (.reg [⟨(some 2), none, .mov (.c (.i .i64 1))⟩])
 (.pre (.norm false [2]) .ret))))))
def b26 : AX :=
 (.seq
 (.reg [⟨(some 1), none, .xop (.box 2) [(.t 0)]⟩,
 ⟨(some 2), none, .alloc [(.b false), (.sl [] .nl)]⟩])
 (.seq
 (.reg [⟨(some 3), none, .fad 0 (.t 1)⟩,
 ⟨(some 4), none, .load none (.t 3)⟩,
 ⟨(some 5), none, .un .not (.t 4)⟩,
 ⟨(some 6), none, .fad 1 (.t 1)⟩,
 ⟨(some 7), none, .load none (.t 6)⟩,
 ⟨(some 8), none, .build [(.b false), (.sl [] .nl)] [(0, 1, (.t 5)), (1, 1, (.t 7))]⟩,
 ⟨(some 9), none, .call 39 [(.t 8)]⟩,
 ⟨none, none, .store 2 (.t 2) (.t 9)⟩])
 (.pre (.norm false [2]) .ret)))
def b24 : AX :=
 (.seq
 (.reg [⟨(some 2), none, .xop (.box 2) [(.t 0)]⟩,
 ⟨(some 3), none, .xop (.box 2) [(.t 1)]⟩,
 ⟨(some 4), none, .alloc [(.b false), (.sl [] .nl)]⟩])
 (.seq
 (.seq
 (.reg [⟨(some 5), none, .fad 0 (.t 2)⟩,
 ⟨(some 6), none, .load none (.t 5)⟩,
 ⟨(some 7), none, .fad 0 (.t 3)⟩,
 ⟨(some 8), none, .load none (.t 7)⟩,
 ⟨(some 9), none, .eqb false (.t 6) (.t 8)⟩])
 (.cond (.t 9)
 (.seq
 (.drawT [⟨(some 10), none, .fad 0 (.t 2)⟩,
 ⟨(some 11), none, .load none (.t 10)⟩,
 ⟨(some 12), none, .fad 1 (.t 2)⟩,
 ⟨(some 13), none, .load none (.t 12)⟩,
 ⟨(some 14), none, .fad 1 (.t 3)⟩,
 ⟨(some 15), none, .load none (.t 14)⟩,
 ⟨(some 16), none, .call 58 [(.t 13), (.t 15)]⟩]
 [⟨(some 17), none, .build [(.b false), (.sl [] .nl)] [(0, 1, (.t 11)), (1, 1, (.t 16))]⟩,
 ⟨(some 18), none, .call 39 [(.t 17)]⟩,
 ⟨none, none, .store 2 (.t 4) (.t 18)⟩])
 (.pre (.norm false [4]) .ret))
 .skip))
 (.seq
 (.seq
 (.reg [⟨(some 19), none, .fad 1 (.t 2)⟩,
 ⟨(some 20), none, .load none (.t 19)⟩,
 ⟨(some 21), none, .fad 1 (.t 3)⟩,
 ⟨(some 22), none, .load none (.t 21)⟩,
 ⟨(some 23), none, .call 52 [(.t 20), (.t 22)]⟩,
 ⟨(some 24), none, .bin .lss (.t 23) (.c (.i .i64 0))⟩])
 (.cond (.t 24)
 (.seq
 (.drawT [⟨(some 25), none, .fad 0 (.t 3)⟩,
 ⟨(some 26), none, .load none (.t 25)⟩,
 ⟨(some 27), none, .fad 1 (.t 3)⟩,
 ⟨(some 28), none, .load none (.t 27)⟩,
 ⟨(some 29), none, .fad 1 (.t 2)⟩,
 ⟨(some 30), none, .load none (.t 29)⟩,
 ⟨(some 31), none, .call 59 [(.t 28), (.t 30)]⟩]
 [⟨(some 32), none, .build [(.b false), (.sl [] .nl)] [(0, 1, (.t 26)), (1, 1, (.t 31))]⟩,
 ⟨(some 33), none, .call 39 [(.t 32)]⟩,
 ⟨none, none, .store 2 (.t 4) (.t 33)⟩])
 (.pre (.norm false [4]) .ret))
 .skip))
 (.seq
 (.drawT [⟨(some 34), none, .fad 0 (.t 2)⟩,
 ⟨(some 35), none, .load none (.t 34)⟩,
 ⟨(some 36), none, .fad 1 (.t 2)⟩,
 ⟨(some 37), none, .load none (.t 36)⟩,
 ⟨(some 38), none, .fad 1 (.t 3)⟩,
 ⟨(some 39), none, .load none (.t 38)⟩,
 ⟨(some 40), none, .call 59 [(.t 37), (.t 39)]⟩]
 [⟨(some 41), none, .build [(.b false), (.sl [] .nl)] [(0, 1, (.t 35)), (1, 1, (.t 40))]⟩,
 ⟨(some 42), none, .call 39 [(.t 41)]⟩,
 ⟨none, none, .store 2 (.t 4) (.t 42)⟩])
 (.pre (.norm false [4]) .ret)))))
def b28 : AX :=
 (.seq
 (.reg [⟨(some 2), none, .xop (.box 2) [(.t 0)]⟩,
 ⟨(some 3), none, .xop (.box 2) [(.t 1)]⟩,
 ⟨(some 4), none, .alloc [(.b false), (.sl [] .nl)]⟩])
 (.seq
 (.drawT [⟨(some 5), none, .fad 0 (.t 2)⟩,
 ⟨(some 6), none, .load none (.t 5)⟩,
 ⟨(some 7), none, .fad 0 (.t 3)⟩,
 ⟨(some 8), none, .load none (.t 7)⟩,
 ⟨(some 9), none, .eqb true (.t 6) (.t 8)⟩,
 ⟨(some 10), none, .fad 1 (.t 2)⟩,
 ⟨(some 11), none, .load none (.t 10)⟩,
 ⟨(some 12), none, .fad 1 (.t 3)⟩,
 ⟨(some 13), none, .load none (.t 12)⟩,
 ⟨(some 14), none, .call 61 [(.t 11), (.t 13)]⟩]
 [⟨(some 15), none, .build [(.b false), (.sl [] .nl)] [(0, 1, (.t 9)), (1, 1, (.t 14))]⟩,
 ⟨(some 16), none, .call 39 [(.t 15)]⟩,
 ⟨none, none, .store 2 (.t 4) (.t 16)⟩])
 (.pre (.norm false [4]) .ret)))
def b31 : AX :=
 (.seq
 (.reg [⟨(some 2), none, .xop (.box 2) [(.t 0)]⟩,
 ⟨(some 3), none, .xop (.box 2) [(.t 1)]⟩,
 ⟨(some 4), none, .alloc [(.b false), (.sl [] .nl)]⟩,
 ⟨(some 5), none, .alloc [(.b false), (.sl [] .nl)]⟩])
 (.seq
 (.reg [⟨(some 10), none, .fad 1 (.t 2)⟩,
 ⟨(some 11), none, .load none (.t 10)⟩,
 ⟨(some 12), none, .fad 1 (.t 3)⟩,
 ⟨(some 13), none, .load none (.t 12)⟩,
 ⟨(some 14), none, .call 63 [(.t 11), (.t 13)]⟩,
 ⟨(some 9), none, .mov (.t 14)⟩,
 ⟨(some 15), none, .ext (.t 9) 0⟩,
 ⟨(some 16), none, .ext (.t 9) 1⟩,
 ⟨(some 6), none, .mov (.t 15)⟩,
 ⟨(some 7), none, .mov (.t 16)⟩])
 (.seq
 (.seq
 (.reg [⟨(some 17), none, .fad 0 (.t 2)⟩,
 ⟨(some 18), none, .load none (.t 17)⟩,
 ⟨(some 19), none, .fad 0 (.t 3)⟩,
 ⟨(some 20), none, .load none (.t 19)⟩,
 ⟨(some 21), none, .eqb true (.t 18) (.t 20)⟩,
 ⟨(some 22), none, .mov (.t 21)⟩,
 ⟨(some 23), (some (22, true)), .mov (.t 7)⟩,
 ⟨(some 24), (some (22, true)), .len (.t 23)⟩,
 ⟨(some 25), (some (22, true)), .bin .gtr (.t 24) (.c (.i .i64 0))⟩,
 ⟨(some 26), none, .pick (.t 22) (.t 25) (.c (.b false))⟩])
 (.cond (.t 26)
 (.reg [⟨(some 27), none, .mov (.t 6)⟩,
 ⟨(some 28), none, .bsl 1 [(u32 0)] 1 [(0, (.c (u32 1)))]⟩,
 ⟨(some 29), none, .call 58 [(.t 27), (.t 28)]⟩,
 ⟨(some 6), none, .mov (.t 29)⟩])
 .skip))
 (.seq
 (.reg [⟨(some 30), none, .fad 0 (.t 2)⟩,
 ⟨(some 31), none, .load none (.t 30)⟩,
 ⟨(some 32), none, .fad 0 (.t 3)⟩,
 ⟨(some 33), none, .load none (.t 32)⟩,
 ⟨(some 34), none, .eqb true (.t 31) (.t 33)⟩,
 ⟨(some 35), none, .mov (.t 6)⟩,
 ⟨(some 36), none, .build [(.b false), (.sl [] .nl)] [(0, 1, (.t 34)), (1, 1, (.t 35))]⟩,
 ⟨(some 37), none, .call 39 [(.t 36)]⟩,
 ⟨(some 8), none, .alloc [(.b false), (.sl [] .nl)]⟩,
 ⟨none, none, .store 2 (.t 8) (.t 37)⟩])
 (.seq
 (.drawT [⟨(some 38), none, .load (some 2) (.t 8)⟩,
 ⟨(some 39), none, .load (some 2) (.t 2)⟩,
 ⟨(some 40), none, .load (some 2) (.t 8)⟩,
 ⟨(some 41), none, .load (some 2) (.t 3)⟩,
 ⟨(some 42), none, .call 28 [(.t 40), (.t 41)]⟩,
 ⟨(some 43), none, .call 26 [(.t 42)]⟩,
 ⟨(some 44), none, .call 24 [(.t 39), (.t 43)]⟩]
 [⟨none, none, .store 2 (.t 4) (.t 38)⟩,
 ⟨none, none, .store 2 (.t 5) (.t 44)⟩])
 (.pre (.norm false [4, 5]) .ret))))))
def b35 : AX :=
 (.seq
 (.reg [⟨(some 1), none, .xop (.box 2) [(.t 0)]⟩,
 ⟨(some 2), none, .mov (.c (.s []))⟩])
 (.seq
 (.reg [⟨(some 4), none, .fad 1 (.t 1)⟩,
 ⟨(some 5), none, .load none (.t 4)⟩,
 ⟨(some 6), none, .call 69 [(.t 5)]⟩,
 ⟨(some 3), none, .mov (.t 6)⟩])
 (.seq
 (.seq
 (.reg [⟨(some 7), none, .load (some 2) (.t 1)⟩,
 ⟨(some 8), none, .call 30 [(.t 7)]⟩,
 ⟨(some 9), none, .bin .lss (.t 8) (.c (.i .i64 0))⟩])
 (.cond (.t 9)
 (.reg [⟨(some 10), none, .mov (.t 3)⟩,
 ⟨(some 11), none, .bin .add (.c (.s [45])) (.t 10)⟩,
 ⟨(some 3), none, .mov (.t 11)⟩])
 .skip))
 (.seq
 (.reg [⟨(some 12), none, .mov (.t 3)⟩,
 ⟨(some 2), none, .mov (.t 12)⟩])
 (.pre (.norm false [2]) .ret)))))
def b33 : AX :=
 (.seq
 (.reg [⟨(some 2), none, .alloc [(.b false), (.sl [] .nl)]⟩,
 ⟨(some 3), none, .mov (.c (.i .i64 0))⟩])
 (.seq
 (.reg [⟨(some 7), none, .mov (.t 0)⟩,
 ⟨(some 8), none, .lens (.t 7)⟩,
 ⟨(some 9), none, .bin .gtr (.t 8) (.c (.i .i64 0))⟩,
 ⟨(some 10), none, .mov (.t 9)⟩,
 ⟨(some 11), (some (10, true)), .mov (.t 0)⟩,
 ⟨(some 12), (some (10, true)), .ixs (.t 11) (.c (.i .i64 0))⟩,
 ⟨(some 13), (some (10, true)), .bin .eql (.t 12) (.c (u8 45))⟩,
 ⟨(some 14), none, .pick (.t 10) (.t 13) (.c (.b false))⟩,
 ⟨(some 4), none, .mov (.t 14)⟩])
 (.seq
 (.reg [⟨(some 5), none, .mov (.c (.i .i64 0))⟩])
 (.seq
 (.seq
 (.reg [⟨(some 15), none, .mov (.t 4)⟩])
 (.cond (.t 15)
 (.reg [⟨(some 5), none, .mov (.c (.i .i64 1))⟩])
 .skip))
 (.seq
 (.reg [⟨(some 16), none, .mov (.t 0)⟩,
 ⟨(some 17), none, .mov (.t 5)⟩,
 ⟨(some 18), none, .slstr (.t 16) (some (.t 17)) none⟩,
 ⟨(some 19), none, .call 66 [(.t 18)]⟩,
 ⟨(some 6), none, .mov (.t 19)⟩])
 (.seq
 (.seq
 (.reg [⟨(some 20), none, .mov (.t 6)⟩,
 ⟨(some 21), none, .bin .geq (.t 20) (.c (.i .i64 0))⟩])
 (.cond (.t 21)
 (.seq
 (.reg [⟨(some 22), none, .build [(.b false), (.sl [] .nl)] []⟩,
 ⟨(some 23), none, .mov (.t 5)⟩,
 ⟨(some 24), none, .mov (.t 6)⟩,
 ⟨(some 25), none, .bin .add (.t 23) (.t 24)⟩,
 ⟨none, none, .store 2 (.t 2) (.t 22)⟩,
 ⟨(some 3), none, .mov (.t 25)⟩])
 (.pre (.norm false [2, 3]) .ret))
 .skip))
 (.seq
 (.reg [⟨(some 26), none, .mov (.t 4)⟩,
 ⟨(some 27), none, .mov (.t 0)⟩,
 ⟨(some 28), none, .mov (.t 5)⟩,
 ⟨(some 29), none, .slstr (.t 27) (some (.t 28)) none⟩,
 ⟨(some 30), none, .call 67 [(.t 29)]⟩,
 ⟨(some 31), none, .build [(.b false), (.sl [] .nl)] [(0, 1, (.t 26)), (1, 1, (.t 30))]⟩,
 ⟨(some 32), none, .call 39 [(.t 31)]⟩,
 ⟨none, none, .store 2 (.t 2) (.t 32)⟩,
 ⟨(some 3), none, .mov (.c (.i .i64 (-1)))⟩])
 (.pre (.norm false [2, 3]) .ret))))))))
class CRef08 (T : Tbl) : Prop extends CRef07 T where
 h39 : T 39 = some ⟨1, 16, [.cell 2 (some 2)], b39, none, false⟩
 h21 : T 21 = some ⟨2, 17, [.t 4], b21, none, false⟩
 h30 : T 30 = some ⟨1, 12, [.t 2], b30, none, false⟩
 h26 : T 26 = some ⟨1, 10, [.cell 2 (some 2)], b26, none, false⟩
 h24 : T 24 = some ⟨2, 43, [.cell 4 (some 2)], b24, none, false⟩
 h28 : T 28 = some ⟨2, 17, [.cell 4 (some 2)], b28, none, false⟩
 h31 : T 31 = some ⟨2, 45, [.cell 4 (some 2), .cell 5 (some 2)], b31, none, false⟩
 h35 : T 35 = some ⟨1, 13, [.t 2], b35, none, false⟩
 h33 : T 33 = some ⟨1, 33, [.cell 2 (some 2), .t 3], b33, none, false⟩
section
variable {T : Tbl} [CRef08 T] {d : Option Nat} {st : St}
@[simp] theorem x39 (xs : List AV) : callX (orc T) T 39 xs d st = bL (frzL st.heap xs) fun ys => cR (callF T 39 (ys.map (wkIf false))) xs d st := callX_pure CRef08.h39
@[simp] theorem x21 (xs : List AV) : callX (orc T) T 21 xs d st = bL (frzL st.heap xs) fun ys => cR (callF T 21 (ys.map (wkIf false))) xs d st := callX_pure CRef08.h21
@[simp] theorem x30 (xs : List AV) : callX (orc T) T 30 xs d st = bL (frzL st.heap xs) fun ys => cR (callF T 30 (ys.map (wkIf false))) xs d st := callX_pure CRef08.h30
@[simp] theorem x26 (xs : List AV) : callX (orc T) T 26 xs d st = bL (frzL st.heap xs) fun ys => cR (callF T 26 (ys.map (wkIf false))) xs d st := callX_pure CRef08.h26
@[simp] theorem x24 (xs : List AV) : callX (orc T) T 24 xs d st = bL (frzL st.heap xs) fun ys => cR (callF T 24 (ys.map (wkIf false))) xs d st := callX_pure CRef08.h24
@[simp] theorem x28 (xs : List AV) : callX (orc T) T 28 xs d st = bL (frzL st.heap xs) fun ys => cR (callF T 28 (ys.map (wkIf false))) xs d st := callX_pure CRef08.h28
@[simp] theorem x31 (xs : List AV) : callX (orc T) T 31 xs d st = bL (frzL st.heap xs) fun ys => cR (callF T 31 (ys.map (wkIf false))) xs d st := callX_pure CRef08.h31
@[simp] theorem x35 (xs : List AV) : callX (orc T) T 35 xs d st = bL (frzL st.heap xs) fun ys => cR (callF T 35 (ys.map (wkIf false))) xs d st := callX_pure CRef08.h35
@[simp] theorem x33 (xs : List AV) : callX (orc T) T 33 xs d st = bL (frzL st.heap xs) fun ys => cR (callF T 33 (ys.map (wkIf false))) xs d st := callX_pure CRef08.h33
end
end Go.Ab
end

section
namespace Go.Ab
def b247 : AX :=
 (.seq
 (.reg [rg 2 (.xop (.box 3) [(.t 0)]), rg 4 (.mov (.c (.b false)))])
 (.seq
 (.reg [rg 5 (.fad 1 (.t 2)), rg 6 (.load none (.t 5)), rg 7 (.len (.t 6)), mv 8 1, rg 9 (.bin .gtr (.t 7) (.t 8)), mv 10 9, gd 11 10 false (.fad 2 (.t 2)),
 gd 12 10 false (.load none (.t 11)), gd 13 10 false (.len (.t 12)), gd 14 10 false (.mov (.t 1)), gd 15 10 false (.bin .gtr (.t 13) (.t 14)),
 rg 16 (.pick (.t 10) (.c (.b true)) (.t 15)), mv 4 16])
 (.pre (.norm false [4]) .ret)))
class CRef09 (T : Tbl) : Prop where
 h247 : T 247 = some ⟨2, 17, [.t 4], b247, none, false⟩
section
variable {T : Tbl} [CRef09 T] {d : Option Nat} {st : St} {xs : List AV} {ps : List Opd} {e : Env} {h : Heap} {ol : List Heap}
@[simp] theorem x247 : callX (orc T) T 247 xs d st = cP T 247 false xs d st := callX_pure CRef09.h247
theorem f247 (xs : List AV) (hn : xs.length = 2) : callF T 247 xs = retF [.t 4] false (evX (orc T) T 0 b247 ⟨argEnv xs, [], 1⟩) := callF_eq CRef09.h247 hn
end
end Go.Ab
end

section
namespace Go.Ab
def l286_0 : AX :=
 (.note
 (.seq
 (.seq
 (.reg [mv 8 7, mv 9 0, rg 10 (.len (.t 9)), rg 11 (.bin .lss (.t 8) (.t 10)), mv 12 11, gd 13 12 true (.mov (.t 7)), gd 14 12 true (.mov (.t 1)),
 gd 15 12 true (.bin .lss (.t 13) (.t 14)), rg 16 (.pick (.t 12) (.t 15) (.c (.b false)))])
 (.cond (.t 16)
 .skip
 (.exit 0)))
 (.seq
 (.block 1
 (.seq
 (.reg [mv 19 0, mv 20 7, rg 21 (.iad 3 (.t 19) (.t 20)), rg 22 (.load (some 3) (.t 21)), mv 23 2, rg 24 (.call 247 [(.t 22), (.t 23)])])
 (.cond (.t 24)
 (.seq
 (.reg [rg 6 (.mov (.c (.b true)))])
 (.pre (.norm false [6]) .ret))
 .skip)))
 (.reg [mv 17 7, rg 18 (.bin .add (.t 17) (.c (.i .i64 1))), mv 7 18])))
 (.norm false [0, 1, 2, 7]))
def b286 : AX :=
 (.seq
 (.reg [rg 6 (.mov (.c (.b false)))])
 (.seq
 (.seq
 (.reg [rg 7 (.mov (.c (.i .i64 0)))])
 (.lp 0 (.norm false [0, 1, 2, 7]) l286_0 (.norm false [0, 1])))
 (.seq
 (.reg [mv 25 0, rg 26 (.len (.t 25)), mv 27 1, rg 28 (.bin .gtr (.t 26) (.t 27)), mv 6 28])
 (.pre (.norm false [6]) .ret))))
class CRef11 (T : Tbl) : Prop where
 h286 : T 286 = some ⟨3, 29, [.t 6], b286, none, false⟩
section
variable {T : Tbl} [CRef11 T] {d : Option Nat} {st : St} {xs : List AV} {ps : List Opd} {e : Env} {h : Heap} {ol : List Heap}
@[simp] theorem x286 : callX (orc T) T 286 xs d st = cP T 286 false xs d st := callX_pure CRef11.h286
theorem f286 (xs : List AV) (hn : xs.length = 3) : callF T 286 xs = retF [.t 6] false (evX (orc T) T 0 b286 ⟨argEnv xs, [], 1⟩) := callF_eq CRef11.h286 hn
end
end Go.Ab
end

section
namespace Go.Ab
def b248 : AX :=
 (.seq
 (.reg [rg 1 (.xop (.box 3) [(.t 0)]), rg 2 (.alloc [(.b false), (.sl [] .nl), (.sl [] .nl)])])
 (.seq
 (.reg [rg 3 (.fad 0 (.t 1)), rg 4 (.load none (.t 3)), rg 5 (.fad 1 (.t 1)), rg 6 (.load none (.t 5)),
 rg 7 (.build [(.b false), (.sl [] .nl)] [(0, 1, (.t 4)), (1, 1, (.t 6))]), rg 8 (.fad 2 (.t 1)), rg 9 (.load none (.t 8)),
 rg 10 (.build [(.b false), (.sl [] .nl), (.sl [] .nl)] [(0, 2, (.t 7)), (2, 1, (.t 9))]), so (.store 3 (.t 2) (.t 10))])
 (.pre (.norm false [2]) .ret)))
class CLaw09 (T : Tbl) : Prop where
 h248 : T 248 = some ⟨1, 11, [.cell 2 (some 3)], b248, none, false⟩
section
variable {T : Tbl} [CLaw09 T] {d : Option Nat} {st : St} {xs : List AV} {ps : List Opd} {e : Env} {h : Heap} {ol : List Heap}
@[simp] theorem x248 : callX (orc T) T 248 xs d st = cP T 248 false xs d st := callX_pure CLaw09.h248
@[simp] theorem y248 : opD (orc T) T (.call 248 ps) e h ol = dP T 248 false ps e := opD_call CLaw09.h248
theorem f248 (xs : List AV) (hn : xs.length = 1) : callF T 248 xs = retF [.cell 2 (some 3)] false (evX (orc T) T 0 b248 ⟨argEnv xs, [], 1⟩) := callF_eq CLaw09.h248 hn
end
end Go.Ab
end

section
namespace Go.Ab
def l287_0 : AX :=
 (.note
 (.seq
 (.seq
 (.reg [mv 5 4, mv 6 0, rg 7 (.len (.t 6)), rg 8 (.bin .lss (.t 5) (.t 7))])
 (.cond (.t 8)
 .skip
 (.exit 0)))
 (.seq
 (.block 1
 (.reg [mv 11 3, mv 12 0, mv 13 4, rg 14 (.iad 3 (.t 12) (.t 13)), rg 15 (.load (some 3) (.t 14)), rg 16 (.call 248 [(.t 15)]),
 rg 17 (.bsl 3 [(.b false), (.sl [] .nl), (.sl [] .nl)] 1 [(0, (.t 16))]), rg 18 (.app 3 (.t 11) (.t 17)), mv 3 18]))
 (.reg [mv 9 4, rg 10 (.bin .add (.t 9) (.c (.i .i64 1))), mv 4 10])))
 (.norm false [0, 3, 4]))
def b287 : AX :=
 (.seq
 (.reg [rg 2 (.mov (.c (.sl [] .nl)))])
 (.seq
 (.note (.reg [rg 3 (.mov (.c (.sl [] .nl)))]) (.nil 3 3))
 (.seq
 (.seq
 (.reg [rg 4 (.mov (.c (.i .i64 0)))])
 (.lp 0 (.norm false [0, 3, 4]) l287_0 (.norm false [3])))
 (.seq
 (.reg [mv 19 3, mv 2 19])
 (.pre (.norm false [2]) .ret)))))
class CLaw11 (T : Tbl) : Prop where
 h287 : T 287 = some ⟨1, 20, [.t 2], b287, none, false⟩
section
variable {T : Tbl} [CLaw11 T] {d : Option Nat} {st : St} {xs : List AV} {ps : List Opd} {e : Env} {h : Heap} {ol : List Heap}
@[simp] theorem x287 : callX (orc T) T 287 xs d st = cP T 287 false xs d st := callX_pure CLaw11.h287
@[simp] theorem y287 : opD (orc T) T (.call 287 ps) e h ol = dP T 287 false ps e := opD_call CLaw11.h287
theorem f287 (xs : List AV) (hn : xs.length = 1) : callF T 287 xs = retF [.t 2] false (evX (orc T) T 0 b287 ⟨argEnv xs, [], 1⟩) := callF_eq CLaw11.h287 hn
end
end Go.Ab
end

section
namespace Go.Ab
class CTape (T : Tbl) : Prop where
end Go.Ab
end

section
namespace Go.Ab
def b406 : AX :=
 (.seq
 (.reg [rg 2 (.mov (.c (.raw (.pointer none))))])
 (.seq
 (.reg [mv 3 0, rg 4 (.mm true [(.t 3), (.c (.i .i64 0))]), rg 5 (.mm false [(.t 4), (.c (.i .i64 4096))]),
 rg 6 (.build [(.i .i64 0), (.i .i64 0), (.i .i64 0)] [(2, 1, (.t 5))]), rg 7 (.xop (.box 3) [(.t 6)]), mv 2 7])
 (.pre (.norm false [2]) .ret)))
def b411 : AX :=
 (.seq
 (.reg [rg 3 (.xop (.box 3) [(.t 1)]), rg 4 (.mov (.c (.b false)))])
 (.seq
 (.reg [rg 6 (.load (some 3) (.t 3)), rg 7 (.call 223 [(.t 6)]), mv 5 7])
 (.seq
 (.reg [mv 8 0, rg 9 (.nilc (.t 8)), rg 10 (.fad 0 (.t 9)), mv 11 5, rg 12 (.call 426 [(.t 10), (.t 11)])])
 (.seq
 (.reg [mv 13 5, mv 14 0, rg 15 (.nilc (.t 14)), rg 16 (.fad 2 (.t 15)), rg 17 (.load none (.t 16)), rg 18 (.bin .leq (.t 13) (.t 17)), mv 4 18])
 (.pre (.norm false [4]) .ret)))))
def b426 : AX :=
 (.seq
 (.reg [mv 4 0, rg 5 (.nilc (.t 4)), rg 6 (.fad 0 (.t 5)), rg 7 (.load none (.t 6)), rg 8 (.bin .add (.t 7) (.c (.i .i64 1))), rg 9 (.nilc (.t 4)),
 rg 10 (.fad 0 (.t 9)), so (.store 1 (.t 10) (.t 8))])
 (.reg [mv 11 0, mv 12 0, rg 13 (.nilc (.t 12)), rg 14 (.fad 1 (.t 13)), rg 15 (.load none (.t 14)), mv 16 1, rg 17 (.mm true [(.t 15), (.t 16)]),
 rg 18 (.nilc (.t 11)), rg 19 (.fad 1 (.t 18)), so (.store 1 (.t 19) (.t 17))]))
class CGauge (T : Tbl) : Prop where
 h406 : T 406 = some ⟨1, 8, [.t 2], b406, (some [false]), false⟩
 h411 : T 411 = some ⟨2, 19, [.t 4], b411, (some [true, false]), false⟩
 h426 : T 426 = some ⟨2, 20, [], b426, (some [true, false]), false⟩
section
variable {T : Tbl} [CGauge T] {d : Option Nat} {st : St} {xs : List AV} {ps : List Opd} {e : Env} {h : Heap} {ol : List Heap}
@[simp] theorem x406 : callX (orc T) T 406 xs d st = cL T 406 false [false] xs d st := callX_lent CGauge.h406
theorem f406 (xs : List AV) (hb : Heap) (hn : xs.length = 1) : callH T 406 xs hb = retH [.t 2] false hb.length (evX (orc T) T hb.length b406 ⟨argEnv xs, hb, hb.length + 1⟩) := callH_eq CGauge.h406 hn
@[simp] theorem x411 : callX (orc T) T 411 xs d st = cL T 411 false [true, false] xs d st := callX_lent CGauge.h411
theorem f411 (xs : List AV) (hb : Heap) (hn : xs.length = 2) : callH T 411 xs hb = retH [.t 4] false hb.length (evX (orc T) T hb.length b411 ⟨argEnv xs, hb, hb.length + 1⟩) := callH_eq CGauge.h411 hn
@[simp] theorem x426 : callX (orc T) T 426 xs d st = cL T 426 false [true, false] xs d st := callX_lent CGauge.h426
theorem f426 (xs : List AV) (hb : Heap) (hn : xs.length = 2) : callH T 426 xs hb = retH [] false hb.length (evX (orc T) T hb.length b426 ⟨argEnv xs, hb, hb.length + 1⟩) := callH_eq CGauge.h426 hn
end
end Go.Ab
end

section
namespace Go.Ab
def b405 : AX :=
 (.seq
 (.reg [rg 1 (.xop (.box 5) [(.t 0)]), rg 2 (.alloc [(.b false), (.sl [] .nl), (.sl [] .nl), (.sl [] .nl), (.sl [] .nl)])])
 (.seq
 (.drawT [rg 3 (.fad 0 (.t 1)), rg 4 (.load (some 3) (.t 3)), rg 5 (.call 207 [(.t 4)]), rg 6 (.fad 3 (.t 1)), rg 7 (.load none (.t 6)), rg 8 (.call 420 [(.t 7)]),
 rg 9 (.fad 4 (.t 1)), rg 10 (.load none (.t 9))]
 [rg 11 (.call 420 [(.t 10)]),
 rg 12 (.build [(.b false), (.sl [] .nl), (.sl [] .nl), (.sl [] .nl), (.sl [] .nl)] [(0, 3, (.t 5)), (3, 1, (.t 8)), (4, 1, (.t 11))]),
 so (.store 5 (.t 2) (.t 12))])
 (.pre (.norm false [2]) .ret)))
def l420_0 : AX :=
 (.note
 (.seq
 (.reg [rg 9 (.bin .lss (.t 8) (.t 7))])
 (.seq
 (.cond (.t 9)
 .skip
 (.exit 0))
 (.seq
 (.block 1
 (.seq
 (.reg [rg 10 (.iad 3 (.t 6) (.t 8)), rg 11 (.load (some 3) (.t 10)), rg 5 (.alloc [(.b false), (.sl [] .nl), (.sl [] .nl)]), so (.store 3 (.t 5) (.t 11))])
 (.reg [mv 12 3, rg 13 (.load (some 3) (.t 5)), rg 14 (.call 207 [(.t 13)]), rg 15 (.bsl 3 [(.b false), (.sl [] .nl), (.sl [] .nl)] 1 [(0, (.t 14))]),
 rg 16 (.app 3 (.t 12) (.t 15)), mv 3 16])))
 (.reg [rg 17 (.bin .add (.t 8) (.c (.i .i64 1))), mv 8 17]))))
 (.norm false [3, 6, 7, 8]))
def b420 : AX :=
 (.seq
 (.reg [rg 2 (.mov (.c (.sl [] .nl)))])
 (.seq
 (.note (.reg [rg 3 (.mov (.c (.sl [] .nl)))]) (.nil 3 3))
 (.seq
 (.seq
 (.reg [mv 6 0, rg 7 (.len (.t 6)), rg 8 (.mov (.c (.i .i64 0)))])
 (.lp 0 (.norm false [3, 6, 7, 8]) l420_0 (.norm false [3])))
 (.seq
 (.reg [mv 18 3, mv 2 18])
 (.pre (.norm false [2]) .ret)))))
class CEval (T : Tbl) : Prop where
 h405 : T 405 = some ⟨1, 13, [.cell 2 (some 5)], b405, none, false⟩
 h420 : T 420 = some ⟨1, 19, [.t 2], b420, none, false⟩
section
variable {T : Tbl} [CEval T] {d : Option Nat} {st : St} {xs : List AV} {ps : List Opd} {e : Env} {h : Heap} {ol : List Heap}
@[simp] theorem x405 : callX (orc T) T 405 xs d st = cP T 405 false xs d st := callX_pure CEval.h405
theorem f405 (xs : List AV) (hn : xs.length = 1) : callF T 405 xs = retF [.cell 2 (some 5)] false (evX (orc T) T 0 b405 ⟨argEnv xs, [], 1⟩) := callF_eq CEval.h405 hn
@[simp] theorem x420 : callX (orc T) T 420 xs d st = cP T 420 false xs d st := callX_pure CEval.h420
@[simp] theorem y420 : opD (orc T) T (.call 420 ps) e h ol = dP T 420 false ps e := opD_call CEval.h420
theorem f420 (xs : List AV) (hn : xs.length = 1) : callF T 420 xs = retF [.t 2] false (evX (orc T) T 0 b420 ⟨argEnv xs, [], 1⟩) := callF_eq CEval.h420 hn
end
end Go.Ab
end

section
namespace Go.Ab
def b490 : AX :=
 (.seq
 (.reg [rg 2 (.alloc [(.b false), (.sl [] .nl), (.sl [] .nl)])])
 (.seq
 (.reg [mv 5 0, rg 6 (.nilc (.t 5)), rg 7 (.fad 8 (.t 6)), rg 8 (.load none (.t 7)), rg 9 (.len (.t 8)), rg 10 (.bin .sub (.t 9) (.c (.i .i64 1))), mv 3 10])
 (.seq
 (.reg [mv 11 0, rg 12 (.nilc (.t 11)), rg 13 (.fad 8 (.t 12)), rg 14 (.load none (.t 13)), mv 15 3, rg 16 (.iad 3 (.t 14) (.t 15)),
 rg 17 (.load (some 3) (.t 16)), rg 4 (.alloc [(.b false), (.sl [] .nl), (.sl [] .nl)]), so (.store 3 (.t 4) (.t 17))])
 (.seq
 (.reg [mv 18 0, mv 19 0, rg 20 (.nilc (.t 19)), rg 21 (.fad 8 (.t 20)), rg 22 (.load none (.t 21)), mv 23 3, rg 24 (.slc 3 (.t 22) none (some (.t 23)) none),
 rg 25 (.nilc (.t 18)), rg 26 (.fad 8 (.t 25)), so (.store 1 (.t 26) (.t 24))])
 (.seq
 (.reg [rg 27 (.load (some 3) (.t 4)), so (.store 3 (.t 2) (.t 27))])
 (.pre (.norm false [2]) .ret))))))
def b489 : AX :=
 (.seq
 (.reg [rg 3 (.xop (.box 3) [(.t 1)]), rg 4 (.alloc [(.b false), (.sl [] .nl), (.sl [] .nl)])])
 (.seq
 (.seq
 (.reg [rg 7 (.fad 0 (.t 3)), rg 8 (.load none (.t 7))])
 (.block 0
 (.seq
 (.reg [rg 10 (.bin .eql (.t 8) (.c (.i .i64 1))), mv 9 10])
 (.cond (.t 9)
 (.seq
 (.reg [rg 12 (.fad 2 (.t 3)), rg 13 (.load none (.t 12)), rg 14 (.build [(.b false), (.sl [] .nl)] [(1, 1, (.t 13))]),
 rg 15 (.bsl 1 [(u32 0)] 1 [(0, (.c (u32 1)))]), rg 16 (.call 204 [(.t 14), (.t 15)]), mv 11 16, rg 17 (.ext (.t 11) 0), rg 18 (.ext (.t 11) 1),
 rg 5 (.alloc [(.b false), (.sl [] .nl), (.sl [] .nl)]), so (.store 3 (.t 5) (.t 17)), mv 6 18])
 (.seq
 (.reg [rg 19 (.load (some 3) (.t 5)), so (.store 3 (.t 4) (.t 19))])
 (.pre (.norm false [4]) .ret)))
 (.seq
 (.reg [rg 21 (.bin .eql (.t 8) (.c (.i .i64 3))), mv 20 21])
 (.cond (.t 20)
 (.seq
 (.drawT [mv 22 0, rg 23 (.nilc (.t 22)), rg 24 (.fad 0 (.t 23)), rg 25 (.fad 3 (.t 24)), rg 26 (.load none (.t 25)), rg 27 (.fad 1 (.t 3)),
 rg 28 (.load none (.t 27))]
 [rg 29 (.iad 3 (.t 26) (.t 28)), rg 30 (.load (some 3) (.t 29)), so (.store 3 (.t 4) (.t 30))])
 (.pre (.norm false [4]) .ret))
 (.seq
 (.reg [rg 32 (.bin .eql (.t 8) (.c (.i .i64 4))), mv 31 32])
 (.cond (.t 31)
 (.seq
 (.drawT [mv 33 0, rg 34 (.nilc (.t 33)), rg 35 (.fad 0 (.t 34)), rg 36 (.fad 4 (.t 35)), rg 37 (.load none (.t 36)), rg 38 (.fad 1 (.t 3)),
 rg 39 (.load none (.t 38))]
 [rg 40 (.iad 3 (.t 37) (.t 39)), rg 41 (.load (some 3) (.t 40)), so (.store 3 (.t 4) (.t 41))])
 (.pre (.norm false [4]) .ret))
 (.seq
 (.reg [rg 43 (.bin .eql (.t 8) (.c (.i .i64 5))), mv 42 43])
 (.cond (.t 42)
 (.seq
 (.drawT [mv 44 0, rg 45 (.nilc (.t 44)), rg 46 (.fad 5 (.t 45)), rg 47 (.load none (.t 46)), rg 48 (.fad 1 (.t 3)), rg 49 (.load none (.t 48))]
 [rg 50 (.iad 3 (.t 47) (.t 49)), rg 51 (.load (some 3) (.t 50)), so (.store 3 (.t 4) (.t 51))])
 (.pre (.norm false [4]) .ret))
 .skip))))))))))
 (.seq
 (.reg [mv 52 0, rg 53 (.nilc (.t 52)), rg 54 (.fad 0 (.t 53)), rg 55 (.fad 0 (.t 54)), rg 56 (.load (some 3) (.t 55)), so (.store 3 (.t 4) (.t 56))])
 (.pre (.norm false [4]) .ret))))
def b484 : AX :=
 (.seq
 (.reg [rg 3 (.xop (.box 3) [(.t 1)]), rg 4 (.alloc [(.b false), (.sl [] .nl), (.sl [] .nl)]), rg 5 (.mov (.c (.b false)))])
 (.seq
 (.seq
 (.reg [rg 9 (.fad 0 (.t 3)), rg 10 (.load none (.t 9)), rg 11 (.call 76 [(.t 10)])])
 (.block 0
 (.seq
 (.reg [rg 13 (.bin .eql (.t 11) (.c (.i .i64 0))), mv 12 13])
 (.cond (.t 12)
 (.seq
 (.reg [mv 14 0, rg 15 (.load (some 3) (.t 3)), rg 16 (.call 489 [(.t 14), (.t 15)]), so (.store 3 (.t 4) (.t 16)), rg 5 (.mov (.c (.b true)))])
 (.pre (.norm false [4, 5]) .ret))
 (.seq
 (.reg [rg 18 (.bin .eql (.t 11) (.c (.i .i64 1))), mv 17 18])
 (.cond (.t 17)
 (.seq
 (.reg [mv 19 0, rg 20 (.call 490 [(.t 19)]), rg 6 (.alloc [(.b false), (.sl [] .nl), (.sl [] .nl)]), so (.store 3 (.t 6) (.t 20))])
 (.seq
 (.seq
 (.reg [rg 21 (.fad 0 (.t 3)), rg 22 (.load none (.t 21)), rg 23 (.bin .eql (.t 22) (.c (.i .i64 6)))])
 (.cond (.t 23)
 (.seq
 (.reg [rg 24 (.load (some 3) (.t 6)), rg 25 (.call 213 [(.t 24)]), so (.store 3 (.t 4) (.t 25)), rg 5 (.mov (.c (.b true)))])
 (.pre (.norm false [4, 5]) .ret))
 .skip))
 (.seq
 (.reg [rg 26 (.load (some 3) (.t 6)), rg 27 (.fad 1 (.t 3)), rg 28 (.load none (.t 27)), rg 29 (.call 220 [(.t 26), (.t 28)]), rg 30 (.ext (.t 29) 0),
 rg 31 (.ext (.t 29) 1), so (.store 3 (.t 4) (.t 30)), mv 5 31])
 (.pre (.norm false [4, 5]) .ret))))
 .skip))))))
 (.seq
 (.reg [mv 32 0, rg 33 (.call 490 [(.t 32)]), rg 7 (.alloc [(.b false), (.sl [] .nl), (.sl [] .nl)]), so (.store 3 (.t 7) (.t 33))])
 (.seq
 (.reg [mv 34 0, rg 35 (.call 490 [(.t 34)]), rg 8 (.alloc [(.b false), (.sl [] .nl), (.sl [] .nl)]), so (.store 3 (.t 8) (.t 35))])
 (.seq
 (.seq
 (.reg [rg 36 (.fad 0 (.t 3)), rg 37 (.load none (.t 36))])
 (.block 1
 (.seq
 (.reg [rg 39 (.bin .eql (.t 37) (.c (.i .i64 7))), mv 38 39])
 (.cond (.t 38)
 (.seq
 (.reg [rg 40 (.load (some 3) (.t 8)), rg 41 (.load (some 3) (.t 7)), rg 42 (.call 215 [(.t 40), (.t 41)]), so (.store 3 (.t 4) (.t 42)),
 rg 5 (.mov (.c (.b true)))])
 (.pre (.norm false [4, 5]) .ret))
 (.seq
 (.reg [rg 44 (.bin .eql (.t 37) (.c (.i .i64 8))), mv 43 44])
 (.cond (.t 43)
 (.seq
 (.reg [rg 45 (.load (some 3) (.t 8)), rg 46 (.load (some 3) (.t 7)), rg 47 (.call 216 [(.t 45), (.t 46)]), so (.store 3 (.t 4) (.t 47)),
 rg 5 (.mov (.c (.b true)))])
 (.pre (.norm false [4, 5]) .ret))
 (.seq
 (.reg [rg 49 (.bin .eql (.t 37) (.c (.i .i64 9))), mv 48 49])
 (.cond (.t 48)
 (.seq
 (.reg [rg 50 (.load (some 3) (.t 8)), rg 51 (.load (some 3) (.t 7)), rg 52 (.call 217 [(.t 50), (.t 51)]), so (.store 3 (.t 4) (.t 52)),
 rg 5 (.mov (.c (.b true)))])
 (.pre (.norm false [4, 5]) .ret))
 .skip))))))))
 (.seq
 (.reg [rg 53 (.load (some 3) (.t 8)), rg 54 (.load (some 3) (.t 7)), rg 55 (.call 218 [(.t 53), (.t 54)]), rg 56 (.ext (.t 55) 0), rg 57 (.ext (.t 55) 1),
 so (.store 3 (.t 4) (.t 56)), mv 5 57])
 (.pre (.norm false [4, 5]) .ret)))))))
def l473_0 : AX :=
 (.note
 (.seq
 (.reg [rg 21 (.bin .lss (.t 20) (.t 19))])
 (.seq
 (.cond (.t 21)
 .skip
 (.exit 0))
 (.seq
 (.block 1
 (.seq
 (.reg [rg 22 (.iad 3 (.t 18) (.t 20)), rg 23 (.load (some 3) (.t 22)), rg 7 (.alloc [(.i .i64 0), (.i .i64 0), (.sl [] .nl)]), so (.store 3 (.t 7) (.t 23))])
 (.seq
 (.reg [mv 25 0, rg 26 (.load (some 3) (.t 7)), rg 27 (.call 484 [(.t 25), (.t 26)]), mv 24 27, rg 28 (.ext (.t 24) 0), rg 29 (.ext (.t 24) 1),
 rg 8 (.alloc [(.b false), (.sl [] .nl), (.sl [] .nl)]), so (.store 3 (.t 8) (.t 28)), mv 9 29])
 (.seq
 (.block 2
 (.seq
 (.reg [mv 31 9, rg 32 (.un .not (.t 31)), mv 30 32])
 (.cond (.t 30)
 (.seq
 (.draw [⟨rg 33 (.call 205 [(.c (.i .i64 0))]), 0, 0⟩, ⟨mv 34 0, 0, 1⟩, ⟨rg 35 (.nilc (.t 34)), 0, 1⟩, ⟨rg 36 (.fad 7 (.t 35)), 0, 1⟩,
 ⟨rg 37 (.load none (.t 36)), 0, 1⟩,
 ⟨rg 38 (.build [(.i .i64 0), (.i .i64 0), (.i .i64 0), (.i .i64 0)] [(0, 1, (.c (.i .i64 3))), (3, 1, (.t 37))]), 0, 1⟩,
 ⟨so (.store 3 (.t 4) (.t 33)), 0, 1⟩, ⟨so (.store 4 (.t 5) (.t 38)), 1, 2⟩])
 (.pre (.norm false [4, 5]) .ret))
 (.seq
 (.drawT [mv 40 0, rg 41 (.nilc (.t 40)), rg 42 (.fad 6 (.t 41)), rg 43 (.load none (.t 42)), rg 44 (.load (some 3) (.t 8))]
 [rg 45 (.call 411 [(.t 43), (.t 44)]), rg 46 (.un .not (.t 45)), mv 39 46])
 (.cond (.t 39)
 (.seq
 (.draw [⟨rg 47 (.call 205 [(.c (.i .i64 0))]), 0, 0⟩, ⟨mv 48 0, 0, 1⟩, ⟨rg 49 (.nilc (.t 48)), 0, 1⟩, ⟨rg 50 (.fad 7 (.t 49)), 0, 1⟩,
 ⟨rg 51 (.load none (.t 50)), 0, 1⟩,
 ⟨rg 52 (.build [(.i .i64 0), (.i .i64 0), (.i .i64 0), (.i .i64 0)] [(0, 1, (.c (.i .i64 6))), (3, 1, (.t 51))]), 0, 1⟩,
 ⟨so (.store 3 (.t 4) (.t 47)), 0, 1⟩, ⟨so (.store 4 (.t 5) (.t 52)), 1, 2⟩])
 (.pre (.norm false [4, 5]) .ret))
 .skip)))))
 (.seq
 (.reg [mv 53 0, rg 54 (.nilc (.t 53)), rg 55 (.fad 7 (.t 54)), rg 56 (.load none (.t 55)), rg 57 (.bin .add (.t 56) (.c (.i .i64 1))), rg 58 (.nilc (.t 53)),
 rg 59 (.fad 7 (.t 58)), so (.store 1 (.t 59) (.t 57))])
 (.draw [⟨mv 60 0, 0, 1⟩, ⟨mv 61 0, 0, 0⟩, ⟨rg 62 (.nilc (.t 61)), 0, 0⟩, ⟨rg 63 (.fad 8 (.t 62)), 0, 0⟩, ⟨rg 64 (.load none (.t 63)), 0, 0⟩,
 ⟨rg 65 (.load (some 3) (.t 8)), 0, 0⟩, ⟨rg 66 (.bsl 3 [(.b false), (.sl [] .nl), (.sl [] .nl)] 1 [(0, (.t 65))]), 0, 0⟩,
 ⟨rg 67 (.app 3 (.t 64) (.t 66)), 0, 1⟩, ⟨rg 68 (.nilc (.t 60)), 1, 1⟩, ⟨rg 69 (.fad 8 (.t 68)), 1, 1⟩, ⟨so (.store 1 (.t 69) (.t 67)), 1, 2⟩]))))))
 (.reg [rg 70 (.bin .add (.t 20) (.c (.i .i64 1))), mv 20 70]))))
 (.norm false [0, 4, 5, 18, 19, 20]))
def b473 : AX :=
 (.seq
 (.reg [rg 4 (.alloc [(.b false), (.sl [] .nl), (.sl [] .nl)]), rg 5 (.alloc [(.i .i64 0), (.i .i64 0), (.i .i64 0), (.i .i64 0)])])
 (.seq
 (.reg [mv 10 0, mv 11 0, rg 12 (.nilc (.t 11)), rg 13 (.fad 8 (.t 12)), rg 14 (.load none (.t 13)), rg 15 (.slc 3 (.t 14) none (some (.c (.i .i64 0))) none),
 rg 16 (.nilc (.t 10)), rg 17 (.fad 8 (.t 16)), so (.store 1 (.t 17) (.t 15))])
 (.seq
 (.seq
 (.reg [mv 18 1, rg 19 (.len (.t 18)), rg 20 (.mov (.c (.i .i64 0)))])
 (.lp 0 (.norm false [0, 4, 5, 18, 19, 20]) l473_0 (.norm false [0, 4, 5])))
 (.seq
 (.reg [mv 71 0, rg 72 (.nilc (.t 71)), rg 73 (.fad 8 (.t 72)), rg 74 (.load none (.t 73)), rg 75 (.iad 3 (.t 74) (.c (.i .i64 0))),
 rg 76 (.load (some 3) (.t 75)), rg 77 (.build [(.i .i64 0), (.i .i64 0), (.i .i64 0), (.i .i64 0)] []), so (.store 3 (.t 4) (.t 76)),
 so (.store 4 (.t 5) (.t 77))])
 (.pre (.norm false [4, 5]) .ret)))))
def b462 : AX :=
 (.seq
 (.reg [rg 5 (.xop (.box 5) [(.t 1)]), rg 8 (.alloc [(.b false), (.sl [] .nl), (.sl [] .nl)]),
 rg 9 (.alloc [(.i .i64 0), (.i .i64 0), (.i .i64 0), (.i .i64 0)])])
 (.seq
 (.seq
 (.reg [mv 12 0, rg 13 (.fad 3 (.t 5)), rg 14 (.load none (.t 13)), rg 15 (.len (.t 14)), rg 16 (.fad 4 (.t 5)), rg 17 (.load none (.t 16)),
 rg 18 (.len (.t 17)), mv 19 2, rg 20 (.len (.t 19)), rg 21 (.call 46 [(.t 12), (.t 15), (.t 18), (.t 20)]), mv 10 21])
 (.seq
 (.reg [mv 22 10, rg 23 (.bin .geq (.t 22) (.c (.i .i64 0)))])
 (.cond (.t 23)
 (.seq
 (.reg [rg 24 (.call 205 [(.c (.i .i64 0))]), mv 25 10,
 rg 26 (.build [(.i .i64 0), (.i .i64 0), (.i .i64 0), (.i .i64 0)] [(0, 1, (.c (.i .i64 2))), (3, 1, (.t 25))]), so (.store 3 (.t 8) (.t 24)),
 so (.store 4 (.t 9) (.t 26))])
 (.pre (.norm false [8, 9]) .ret))
 .skip)))
 (.seq
 (.reg [rg 27 (.load (some 5) (.t 5)), rg 28 (.call 405 [(.t 27)]), mv 29 2, rg 30 (.call 420 [(.t 29)]), mv 31 3, rg 32 (.call 406 [(.t 31)]),
 rg 33 (.build [(.b false), (.sl [] .nl), (.sl [] .nl), (.sl [] .nl), (.sl [] .nl), (.sl [] .nl), (.raw (.pointer none)), (.i .i64 0), (.sl [] .nl)] [(0, 5, (.t 28)), (5, 1, (.t 30)), (6, 1, (.t 32))]),
 rg 34 (.xop (.box 9) [(.t 33)]), mv 11 34])
 (.seq
 (.pre (.fld 11 0 8 3) (.reg [mv 35 11, mv 36 0, rg 37 (.call 473 [(.t 35), (.t 36)]), rg 38 (.ext (.t 37) 0), rg 39 (.ext (.t 37) 1), so (.store 3 (.t 8) (.t 38)),
 so (.store 4 (.t 9) (.t 39))]))
 (.pre (.norm false [8, 9]) .ret)))))
class CEval2 (T : Tbl) : Prop where
 h490 : T 490 = some ⟨1, 28, [.cell 2 (some 3)], b490, (some [true]), false⟩
 h489 : T 489 = some ⟨2, 57, [.cell 4 (some 3)], b489, (some [true, false]), false⟩
 h484 : T 484 = some ⟨2, 58, [.cell 4 (some 3), .t 5], b484, (some [true, false]), false⟩
 h473 : T 473 = some ⟨2, 78, [.cell 4 (some 3), .cell 5 (some 4)], b473, (some [true, false]), false⟩
 h462 : T 462 = some ⟨4, 40, [.cell 8 (some 3), .cell 9 (some 4)], b462, none, false⟩
section
variable {T : Tbl} [CEval2 T] {d : Option Nat} {st : St} {xs : List AV} {ps : List Opd} {e : Env} {h : Heap} {ol : List Heap}
@[simp] theorem x490 : callX (orc T) T 490 xs d st = cL T 490 false [true] xs d st := callX_lent CEval2.h490
theorem f490 (xs : List AV) (hb : Heap) (hn : xs.length = 1) : callH T 490 xs hb = retH [.cell 2 (some 3)] false hb.length (evX (orc T) T hb.length b490 ⟨argEnv xs, hb, hb.length + 1⟩) := callH_eq CEval2.h490 hn
@[simp] theorem x489 : callX (orc T) T 489 xs d st = cL T 489 false [true, false] xs d st := callX_lent CEval2.h489
theorem f489 (xs : List AV) (hb : Heap) (hn : xs.length = 2) : callH T 489 xs hb = retH [.cell 4 (some 3)] false hb.length (evX (orc T) T hb.length b489 ⟨argEnv xs, hb, hb.length + 1⟩) := callH_eq CEval2.h489 hn
@[simp] theorem x484 : callX (orc T) T 484 xs d st = cL T 484 false [true, false] xs d st := callX_lent CEval2.h484
theorem f484 (xs : List AV) (hb : Heap) (hn : xs.length = 2) : callH T 484 xs hb = retH [.cell 4 (some 3), .t 5] false hb.length (evX (orc T) T hb.length b484 ⟨argEnv xs, hb, hb.length + 1⟩) := callH_eq CEval2.h484 hn
@[simp] theorem x473 : callX (orc T) T 473 xs d st = cL T 473 false [true, false] xs d st := callX_lent CEval2.h473
theorem f473 (xs : List AV) (hb : Heap) (hn : xs.length = 2) : callH T 473 xs hb = retH [.cell 4 (some 3), .cell 5 (some 4)] false hb.length (evX (orc T) T hb.length b473 ⟨argEnv xs, hb, hb.length + 1⟩) := callH_eq CEval2.h473 hn
@[simp] theorem x462 : callX (orc T) T 462 xs d st = cP T 462 false xs d st := callX_pure CEval2.h462
theorem f462 (xs : List AV) (hn : xs.length = 4) : callF T 462 xs = retF [.cell 8 (some 3), .cell 9 (some 4)] false (evX (orc T) T 0 b462 ⟨argEnv xs, [], 1⟩) := callF_eq CEval2.h462 hn
end
end Go.Ab
end

section
namespace Go.Ab
def b380 : AX :=
 (.seq
 (.reg [rg 3 (.xop (.box 5) [(.t 0)]), rg 6 (.mov (.c (.b false)))])
 (.seq
 (.reg [rg 7 (.fad 0 (.t 3)), rg 8 (.load (some 3) (.t 7)), mv 9 2, rg 10 (.call 247 [(.t 8), (.t 9)]), mv 11 10, gd 12 11 false (.fad 3 (.t 3)),
 gd 13 11 false (.load none (.t 12)), gd 14 11 false (.mov (.t 1)), gd 15 11 false (.mov (.t 2)), gd 16 11 false (.call 286 [(.t 13), (.t 14), (.t 15)]),
 rg 17 (.pick (.t 11) (.c (.b true)) (.t 16)), mv 18 17, gd 19 18 false (.fad 4 (.t 3)), gd 20 18 false (.load none (.t 19)),
 gd 21 18 false (.mov (.t 1)), gd 22 18 false (.mov (.t 2)), gd 23 18 false (.call 286 [(.t 20), (.t 21), (.t 22)]),
 rg 24 (.pick (.t 18) (.c (.b true)) (.t 23)), mv 6 24])
 (.pre (.norm false [6]) .ret)))
def b383 : AX :=
 (.seq
 (.reg [rg 1 (.xop (.box 5) [(.t 0)]), rg 2 (.alloc [(.b false), (.sl [] .nl), (.sl [] .nl), (.sl [] .nl), (.sl [] .nl)])])
 (.seq
 (.drawT [rg 3 (.fad 0 (.t 1)), rg 4 (.load (some 3) (.t 3)), rg 5 (.call 248 [(.t 4)]), rg 6 (.fad 3 (.t 1)), rg 7 (.load none (.t 6)), rg 8 (.call 287 [(.t 7)]),
 rg 9 (.fad 4 (.t 1)), rg 10 (.load none (.t 9))]
 [rg 11 (.call 287 [(.t 10)]),
 rg 12 (.build [(.b false), (.sl [] .nl), (.sl [] .nl), (.sl [] .nl), (.sl [] .nl)] [(0, 3, (.t 5)), (3, 1, (.t 8)), (4, 1, (.t 11))]),
 so (.store 5 (.t 2) (.t 12))])
 (.pre (.norm false [2]) .ret)))
class CLaw24 (T : Tbl) : Prop where
 h380 : T 380 = some ⟨3, 25, [.t 6], b380, none, false⟩
 h383 : T 383 = some ⟨1, 13, [.cell 2 (some 5)], b383, none, false⟩
section
variable {T : Tbl} [CLaw24 T] {d : Option Nat} {st : St} {xs : List AV} {ps : List Opd} {e : Env} {h : Heap} {ol : List Heap}
@[simp] theorem x380 : callX (orc T) T 380 xs d st = cP T 380 false xs d st := callX_pure CLaw24.h380
theorem f380 (xs : List AV) (hn : xs.length = 3) : callF T 380 xs = retF [.t 6] false (evX (orc T) T 0 b380 ⟨argEnv xs, [], 1⟩) := callF_eq CLaw24.h380 hn
@[simp] theorem x383 : callX (orc T) T 383 xs d st = cP T 383 false xs d st := callX_pure CLaw24.h383
theorem f383 (xs : List AV) (hn : xs.length = 1) : callF T 383 xs = retF [.cell 2 (some 5)] false (evX (orc T) T 0 b383 ⟨argEnv xs, [], 1⟩) := callF_eq CLaw24.h383 hn
end
end Go.Ab
end

section
namespace Go.Ab
def b129 : AX :=
 (.seq
 (.reg [rg 2 (.mov (.c (.i .i64 0)))])
 (.seq
 (.reg [mv 3 0, rg 4 (.call 68 [(.t 3)]), rg 5 (.lens (.t 4)), mv 2 5])
 (.pre (.norm false [2]) .ret)))
class CLenD (T : Tbl) : Prop where
 h129 : T 129 = some ⟨1, 6, [.t 2], b129, none, false⟩
section
variable {T : Tbl} [CLenD T] {d : Option Nat} {st : St} {xs : List AV} {ps : List Opd} {e : Env} {h : Heap} {ol : List Heap}
@[simp] theorem x129 : callX (orc T) T 129 xs d st = cP T 129 false xs d st := callX_pure CLenD.h129
theorem f129 (xs : List AV) (hn : xs.length = 1) : callF T 129 xs = retF [.t 2] false (evX (orc T) T 0 b129 ⟨argEnv xs, [], 1⟩) := callF_eq CLenD.h129 hn
end
end Go.Ab
end

section
namespace Go.Ab
def b76 : AX :=
 (.seq
 (.reg [rg 2 (.mov (.c (.i .i64 0)))])
 (.seq
 (.seq
 (.reg [mv 3 0])
 (.block 0
 (.seq
 (.seq
 (.reg [rg 5 (.bin .eql (.t 3) (.c (.i .i64 1))), mv 4 5])
 (.cond (.t 4)
 .skip
 (.seq
 (.reg [rg 6 (.bin .eql (.t 3) (.c (.i .i64 2))), mv 4 6])
 (.cond (.t 4)
 .skip
 (.seq
 (.reg [rg 7 (.bin .eql (.t 3) (.c (.i .i64 3))), mv 4 7])
 (.cond (.t 4)
 .skip
 (.seq
 (.reg [rg 8 (.bin .eql (.t 3) (.c (.i .i64 4))), mv 4 8])
 (.cond (.t 4)
 .skip
 (.reg [rg 9 (.bin .eql (.t 3) (.c (.i .i64 5))), mv 4 9])))))))))
 (.cond (.t 4)
 (.seq
 (.reg [rg 2 (.mov (.c (.i .i64 0)))])
 (.pre (.norm false [2]) .ret))
 (.seq
 (.seq
 (.reg [rg 11 (.bin .eql (.t 3) (.c (.i .i64 6))), mv 10 11])
 (.cond (.t 10)
 .skip
 (.reg [rg 12 (.bin .eql (.t 3) (.c (.i .i64 11))), mv 10 12])))
 (.cond (.t 10)
 (.seq
 (.reg [rg 2 (.mov (.c (.i .i64 1)))])
 (.pre (.norm false [2]) .ret))
 (.seq
 (.seq
 (.reg [rg 14 (.bin .eql (.t 3) (.c (.i .i64 7))), mv 13 14])
 (.cond (.t 13)
 .skip
 (.seq
 (.reg [rg 15 (.bin .eql (.t 3) (.c (.i .i64 8))), mv 13 15])
 (.cond (.t 13)
 .skip
 (.seq
 (.reg [rg 16 (.bin .eql (.t 3) (.c (.i .i64 9))), mv 13 16])
 (.cond (.t 13)
 .skip
 (.reg [rg 17 (.bin .eql (.t 3) (.c (.i .i64 10))), mv 13 17])))))))
 (.cond (.t 13)
 (.seq
 (.reg [rg 2 (.mov (.c (.i .i64 2)))])
 (.pre (.norm false [2]) .ret))
 .skip))))))))
 (.seq
 (.reg [rg 2 (.mov (.c (.i .i64 (-1))))])
 (.pre (.norm false [2]) .ret))))
def l74_0 : AX :=
 (.note
 (.seq
 (.reg [rg 10 (.bin .lss (.t 9) (.t 8))])
 (.seq
 (.cond (.t 10)
 .skip
 (.exit 0))
 (.seq
 (.block 1
 (.seq
 (.reg [mv 11 9, rg 12 (.iad 3 (.t 7) (.t 9)), rg 13 (.load (some 3) (.t 12)), rg 5 (.alloc [(.i .i64 0), (.i .i64 0), (.sl [] .nl)]), mv 4 11,
 so (.store 3 (.t 5) (.t 13))])
 (.seq
 (.reg [rg 14 (.fad 0 (.t 5)), rg 15 (.load none (.t 14)), rg 16 (.call 76 [(.t 15)]), mv 6 16])
 (.seq
 (.seq
 (.reg [mv 17 6, rg 18 (.bin .lss (.t 17) (.c (.i .i64 0))), mv 19 18, gd 20 19 false (.mov (.t 6)), gd 21 19 false (.mov (.t 3)),
 gd 22 19 false (.bin .gtr (.t 20) (.t 21)), rg 23 (.pick (.t 19) (.c (.b true)) (.t 22))])
 (.cond (.t 23)
 (.seq
 (.reg [mv 24 4, mv 2 24])
 (.pre (.norm false [2]) .ret))
 .skip))
 (.reg [mv 25 3, mv 26 6, rg 27 (.bin .sub (.c (.i .i64 1)) (.t 26)), rg 28 (.bin .add (.t 25) (.t 27)), mv 3 28])))))
 (.reg [rg 29 (.bin .add (.t 9) (.c (.i .i64 1))), mv 9 29]))))
 (.norm false [0, 3, 7, 8, 9]))
def b74 : AX :=
 (.seq
 (.reg [rg 2 (.mov (.c (.i .i64 0)))])
 (.seq
 (.reg [rg 3 (.mov (.c (.i .i64 0)))])
 (.seq
 (.seq
 (.reg [mv 7 0, rg 8 (.len (.t 7)), rg 9 (.mov (.c (.i .i64 0)))])
 (.lp 0 (.norm false [0, 3, 7, 8, 9]) l74_0 (.norm false [0, 3])))
 (.seq
 (.seq
 (.reg [mv 30 3, rg 31 (.bin .neq (.t 30) (.c (.i .i64 1)))])
 (.cond (.t 31)
 (.seq
 (.reg [mv 32 0, rg 33 (.len (.t 32)), mv 2 33])
 (.pre (.norm false [2]) .ret))
 .skip))
 (.seq
 (.reg [rg 2 (.mov (.c (.i .i64 (-1))))])
 (.pre (.norm false [2]) .ret))))))
def b44 : AX :=
 (.seq
 (.reg [rg 2 (.mov (.c (.b false)))])
 (.seq
 (.reg [mv 3 0, rg 4 (.call 74 [(.t 3)]), rg 5 (.bin .lss (.t 4) (.c (.i .i64 0))), mv 2 5])
 (.pre (.norm false [2]) .ret)))
def b108 : AX :=
 (.seq
 (.reg [rg 4 (.mov (.c (.b false)))])
 (.seq
 (.reg [mv 5 0, rg 6 (.bin .geq (.t 5) (.c (.i .i64 0))), mv 7 6, gd 8 7 true (.mov (.t 0)), gd 9 7 true (.mov (.t 1)), gd 10 7 true (.bin .lss (.t 8) (.t 9)),
 rg 11 (.pick (.t 7) (.t 10) (.c (.b false))), mv 4 11])
 (.pre (.norm false [4]) .ret)))
def b107 : AX :=
 (.seq
 (.reg [rg 2 (.mov (.c (.b false)))])
 (.seq
 (.reg [mv 3 0, rg 4 (.call 71 [(.t 3)]), rg 5 (.len (.t 4)), mv 6 0, rg 7 (.len (.t 6)), rg 8 (.bin .eql (.t 5) (.t 7)), mv 9 8, gd 10 9 true (.mov (.t 0)),
 gd 11 9 true (.call 129 [(.t 10)]), gd 12 9 true (.bin .leq (.t 11) (.c (.i .i64 60))), rg 13 (.pick (.t 9) (.t 12) (.c (.b false))), mv 2 13])
 (.pre (.norm false [2]) .ret)))
def b75 : AX :=
 (.seq
 (.reg [rg 4 (.xop (.box 3) [(.t 0)]), rg 8 (.mov (.c (.b false)))])
 (.seq
 (.seq
 (.reg [rg 9 (.fad 0 (.t 4)), rg 10 (.load none (.t 9)), rg 11 (.bin .neq (.t 10) (.c (.i .i64 1))), mv 12 11, gd 13 12 true (.fad 2 (.t 4)),
 gd 14 12 true (.load none (.t 13)), gd 15 12 true (.len (.t 14)), gd 16 12 true (.bin .gtr (.t 15) (.c (.i .i64 0))),
 rg 17 (.pick (.t 12) (.t 16) (.c (.b false)))])
 (.cond (.t 17)
 (.seq
 (.reg [rg 8 (.mov (.c (.b false)))])
 (.pre (.norm false [8]) .ret))
 .skip))
 (.seq
 (.seq
 (.reg [rg 18 (.fad 0 (.t 4)), rg 19 (.load none (.t 18))])
 (.block 0
 (.seq
 (.reg [rg 21 (.bin .eql (.t 19) (.c (.i .i64 1))), mv 20 21])
 (.cond (.t 20)
 (.seq
 (.reg [rg 22 (.fad 1 (.t 4)), rg 23 (.load none (.t 22)), rg 24 (.bin .eql (.t 23) (.c (.i .i64 0))), mv 25 24, gd 26 25 true (.fad 2 (.t 4)),
 gd 27 25 true (.load none (.t 26)), gd 28 25 true (.call 107 [(.t 27)]), rg 29 (.pick (.t 25) (.t 28) (.c (.b false))), mv 8 29])
 (.pre (.norm false [8]) .ret))
 (.seq
 (.reg [rg 31 (.bin .eql (.t 19) (.c (.i .i64 3))), mv 30 31])
 (.cond (.t 30)
 (.seq
 (.reg [rg 32 (.fad 1 (.t 4)), rg 33 (.load none (.t 32)), mv 34 1, rg 35 (.call 108 [(.t 33), (.t 34)]), mv 8 35])
 (.pre (.norm false [8]) .ret))
 (.seq
 (.reg [rg 37 (.bin .eql (.t 19) (.c (.i .i64 4))), mv 36 37])
 (.cond (.t 36)
 (.seq
 (.reg [rg 38 (.fad 1 (.t 4)), rg 39 (.load none (.t 38)), mv 40 2, rg 41 (.call 108 [(.t 39), (.t 40)]), mv 8 41])
 (.pre (.norm false [8]) .ret))
 (.seq
 (.reg [rg 43 (.bin .eql (.t 19) (.c (.i .i64 5))), mv 42 43])
 (.cond (.t 42)
 (.seq
 (.reg [rg 44 (.fad 1 (.t 4)), rg 45 (.load none (.t 44)), mv 46 3, rg 47 (.call 108 [(.t 45), (.t 46)]), mv 8 47])
 (.pre (.norm false [8]) .ret))
 (.seq
 (.reg [rg 49 (.bin .eql (.t 19) (.c (.i .i64 11))), mv 48 49])
 (.cond (.t 48)
 (.seq
 (.reg [rg 50 (.fad 1 (.t 4)), rg 51 (.load none (.t 50)), rg 52 (.bin .geq (.t 51) (.c (.i .i64 (-8)))), mv 53 52, gd 54 53 true (.fad 1 (.t 4)),
 gd 55 53 true (.load none (.t 54)), gd 56 53 true (.bin .leq (.t 55) (.c (.i .i64 8))), rg 57 (.pick (.t 53) (.t 56) (.c (.b false))), mv 8 57])
 (.pre (.norm false [8]) .ret))
 .skip))))))))))))
 (.seq
 (.reg [rg 58 (.fad 1 (.t 4)), rg 59 (.load none (.t 58)), rg 60 (.bin .eql (.t 59) (.c (.i .i64 0))), mv 61 60, gd 62 61 true (.fad 0 (.t 4)),
 gd 63 61 true (.load none (.t 62)), gd 64 61 true (.call 76 [(.t 63)]), gd 65 61 true (.bin .geq (.t 64) (.c (.i .i64 0))),
 rg 66 (.pick (.t 61) (.t 65) (.c (.b false))), mv 8 66])
 (.pre (.norm false [8]) .ret)))))
def l46_0 : AX :=
 (.note
 (.seq
 (.reg [rg 17 (.bin .lss (.t 16) (.t 15))])
 (.seq
 (.cond (.t 17)
 .skip
 (.exit 0))
 (.seq
 (.block 1
 (.seq
 (.reg [mv 18 16, rg 19 (.iad 3 (.t 14) (.t 16)), rg 20 (.load (some 3) (.t 19)), rg 11 (.alloc [(.i .i64 0), (.i .i64 0), (.sl [] .nl)]), mv 10 18,
 so (.store 3 (.t 11) (.t 20))])
 (.seq
 (.reg [mv 21 10, mv 22 9, rg 23 (.bin .eql (.t 21) (.t 22)), mv 24 23, gd 25 24 false (.load (some 3) (.t 11)), gd 26 24 false (.mov (.t 1)),
 gd 27 24 false (.mov (.t 2)), gd 28 24 false (.mov (.t 3)), gd 29 24 false (.call 75 [(.t 25), (.t 26), (.t 27), (.t 28)]),
 gd 30 24 false (.un .not (.t 29)), rg 31 (.pick (.t 24) (.c (.b true)) (.t 30))])
 (.cond (.t 31)
 (.seq
 (.reg [mv 32 10, mv 8 32])
 (.pre (.norm false [8]) .ret))
 .skip))))
 (.reg [rg 33 (.bin .add (.t 16) (.c (.i .i64 1))), mv 16 33]))))
 (.norm false [1, 2, 3, 9, 14, 15, 16]))
def b46 : AX :=
 (.seq
 (.reg [rg 8 (.mov (.c (.i .i64 0)))])
 (.seq
 (.reg [mv 12 0, rg 13 (.call 74 [(.t 12)]), mv 9 13])
 (.seq
 (.seq
 (.reg [mv 14 0, rg 15 (.len (.t 14)), rg 16 (.mov (.c (.i .i64 0)))])
 (.lp 0 (.norm false [1, 2, 3, 9, 14, 15, 16]) l46_0 (.norm false [9])))
 (.seq
 (.reg [mv 34 9, mv 8 34])
 (.pre (.norm false [8]) .ret)))))
class CTree (T : Tbl) : Prop where
 h76 : T 76 = some ⟨1, 18, [.t 2], b76, none, false⟩
 h74 : T 74 = some ⟨1, 34, [.t 2], b74, none, false⟩
 h44 : T 44 = some ⟨1, 6, [.t 2], b44, none, false⟩
 h108 : T 108 = some ⟨2, 12, [.t 4], b108, none, false⟩
 h107 : T 107 = some ⟨1, 14, [.t 2], b107, none, false⟩
 h75 : T 75 = some ⟨4, 67, [.t 8], b75, none, false⟩
 h46 : T 46 = some ⟨4, 35, [.t 8], b46, none, false⟩
section
variable {T : Tbl} [CTree T] {d : Option Nat} {st : St} {xs : List AV} {ps : List Opd} {e : Env} {h : Heap} {ol : List Heap}
@[simp] theorem x76 : callX (orc T) T 76 xs d st = cP T 76 false xs d st := callX_pure CTree.h76
theorem f76 (xs : List AV) (hn : xs.length = 1) : callF T 76 xs = retF [.t 2] false (evX (orc T) T 0 b76 ⟨argEnv xs, [], 1⟩) := callF_eq CTree.h76 hn
@[simp] theorem x74 : callX (orc T) T 74 xs d st = cP T 74 false xs d st := callX_pure CTree.h74
theorem f74 (xs : List AV) (hn : xs.length = 1) : callF T 74 xs = retF [.t 2] false (evX (orc T) T 0 b74 ⟨argEnv xs, [], 1⟩) := callF_eq CTree.h74 hn
@[simp] theorem x44 : callX (orc T) T 44 xs d st = cP T 44 false xs d st := callX_pure CTree.h44
theorem f44 (xs : List AV) (hn : xs.length = 1) : callF T 44 xs = retF [.t 2] false (evX (orc T) T 0 b44 ⟨argEnv xs, [], 1⟩) := callF_eq CTree.h44 hn
@[simp] theorem x108 : callX (orc T) T 108 xs d st = cP T 108 false xs d st := callX_pure CTree.h108
theorem f108 (xs : List AV) (hn : xs.length = 2) : callF T 108 xs = retF [.t 4] false (evX (orc T) T 0 b108 ⟨argEnv xs, [], 1⟩) := callF_eq CTree.h108 hn
@[simp] theorem x107 : callX (orc T) T 107 xs d st = cP T 107 false xs d st := callX_pure CTree.h107
theorem f107 (xs : List AV) (hn : xs.length = 1) : callF T 107 xs = retF [.t 2] false (evX (orc T) T 0 b107 ⟨argEnv xs, [], 1⟩) := callF_eq CTree.h107 hn
@[simp] theorem x75 : callX (orc T) T 75 xs d st = cP T 75 false xs d st := callX_pure CTree.h75
theorem f75 (xs : List AV) (hn : xs.length = 4) : callF T 75 xs = retF [.t 8] false (evX (orc T) T 0 b75 ⟨argEnv xs, [], 1⟩) := callF_eq CTree.h75 hn
@[simp] theorem x46 : callX (orc T) T 46 xs d st = cP T 46 false xs d st := callX_pure CTree.h46
theorem f46 (xs : List AV) (hn : xs.length = 4) : callF T 46 xs = retF [.t 8] false (evX (orc T) T 0 b46 ⟨argEnv xs, [], 1⟩) := callF_eq CTree.h46 hn
end
end Go.Ab
end

section
namespace Go.Ab
def l16_0 : AX :=
 (.note
 (.seq
 (.seq
 (.reg [mv 11 5, mv 12 0, rg 13 (.len (.t 12)), rg 14 (.bin .lss (.t 11) (.t 13))])
 (.cond (.t 14)
 .skip
 (.exit 0)))
 (.seq
 (.block 1
 (.seq
 (.drawT [mv 17 0, mv 18 5, rg 19 (.iad 3 (.t 17) (.t 18)), rg 20 (.fad 0 (.t 19)), rg 21 (.load none (.t 20)), mv 22 1, mv 23 5, rg 24 (.iad 3 (.t 22) (.t 23)),
 rg 25 (.fad 0 (.t 24)), rg 26 (.load none (.t 25)), rg 27 (.bin .neq (.t 21) (.t 26)), mv 28 27, gd 29 28 false (.mov (.t 0)),
 gd 30 28 false (.mov (.t 5)), gd 31 28 false (.iad 3 (.t 29) (.t 30)), gd 32 28 false (.fad 1 (.t 31)), gd 33 28 false (.load none (.t 32)),
 gd 34 28 false (.mov (.t 1)), gd 35 28 false (.mov (.t 5)), gd 36 28 false (.iad 3 (.t 34) (.t 35)), gd 37 28 false (.fad 1 (.t 36)),
 gd 38 28 false (.load none (.t 37)), gd 39 28 false (.bin .neq (.t 33) (.t 38)), rg 40 (.pick (.t 28) (.c (.b true)) (.t 39)), mv 41 40,
 gd 42 41 false (.mov (.t 0)), gd 43 41 false (.mov (.t 5)), gd 44 41 false (.iad 3 (.t 42) (.t 43)), gd 45 41 false (.fad 2 (.t 44)),
 gd 46 41 false (.load none (.t 45)), gd 47 41 false (.mov (.t 1)), gd 48 41 false (.mov (.t 5)), gd 49 41 false (.iad 3 (.t 47) (.t 48)),
 gd 50 41 false (.fad 2 (.t 49)), gd 51 41 false (.load none (.t 50))]
 [gd 52 41 false (.call 52 [(.t 46), (.t 51)]), gd 53 41 false (.bin .neq (.t 52) (.c (.i .i64 0))), rg 54 (.pick (.t 41) (.c (.b true)) (.t 53))])
 (.cond (.t 54)
 (.seq
 (.reg [rg 4 (.mov (.c (.b false)))])
 (.pre (.norm false [4]) .ret))
 .skip)))
 (.reg [mv 15 5, rg 16 (.bin .add (.t 15) (.c (.i .i64 1))), mv 5 16])))
 (.norm false [0, 1, 5]))
def b16 : AX :=
 (.seq
 (.reg [rg 4 (.mov (.c (.b false)))])
 (.seq
 (.seq
 (.reg [mv 6 0, rg 7 (.len (.t 6)), mv 8 1, rg 9 (.len (.t 8)), rg 10 (.bin .neq (.t 7) (.t 9))])
 (.cond (.t 10)
 (.seq
 (.reg [rg 4 (.mov (.c (.b false)))])
 (.pre (.norm false [4]) .ret))
 .skip))
 (.seq
 (.seq
 (.reg [rg 5 (.mov (.c (.i .i64 0)))])
 (.lp 0 (.norm false [0, 1, 5]) l16_0 (.norm false [])))
 (.seq
 (.reg [rg 4 (.mov (.c (.b true)))])
 (.pre (.norm false [4]) .ret)))))
def l10_0 : AX :=
 (.note
 (.seq
 (.seq
 (.reg [mv 8 7, mv 9 0, rg 10 (.len (.t 9)), rg 11 (.bin .lss (.t 8) (.t 10)), mv 12 11, gd 13 12 true (.mov (.t 7)), gd 14 12 true (.mov (.t 1)),
 gd 15 12 true (.bin .lss (.t 13) (.t 14)), rg 16 (.pick (.t 12) (.t 15) (.c (.b false)))])
 (.cond (.t 16)
 .skip
 (.exit 0)))
 (.seq
 (.block 1
 (.seq
 (.reg [mv 19 0, mv 20 7, rg 21 (.iad 3 (.t 19) (.t 20)), rg 22 (.fad 2 (.t 21)), rg 23 (.load none (.t 22)), rg 24 (.len (.t 23)), mv 25 2,
 rg 26 (.bin .gtr (.t 24) (.t 25))])
 (.cond (.t 26)
 (.seq
 (.reg [rg 6 (.mov (.c (.b true)))])
 (.pre (.norm false [6]) .ret))
 .skip)))
 (.reg [mv 17 7, rg 18 (.bin .add (.t 17) (.c (.i .i64 1))), mv 7 18])))
 (.norm false [0, 1, 2, 7]))
def b10 : AX :=
 (.seq
 (.reg [rg 6 (.mov (.c (.b false)))])
 (.seq
 (.seq
 (.reg [rg 7 (.mov (.c (.i .i64 0)))])
 (.lp 0 (.norm false [0, 1, 2, 7]) l10_0 (.norm false [0, 1])))
 (.seq
 (.reg [mv 27 0, rg 28 (.len (.t 27)), mv 29 1, rg 30 (.bin .gtr (.t 28) (.t 29)), mv 6 30])
 (.pre (.norm false [6]) .ret))))
class CRef17 (T : Tbl) : Prop where
 h16 : T 16 = some ⟨2, 55, [.t 4], b16, none, false⟩
 h10 : T 10 = some ⟨3, 31, [.t 6], b10, none, false⟩
section
variable {T : Tbl} [CRef17 T] {d : Option Nat} {st : St} {xs : List AV} {ps : List Opd} {e : Env} {h : Heap} {ol : List Heap}
@[simp] theorem x16 : callX (orc T) T 16 xs d st = cP T 16 false xs d st := callX_pure CRef17.h16
@[simp] theorem x10 : callX (orc T) T 10 xs d st = cP T 10 false xs d st := callX_pure CRef17.h10
theorem f10 (xs : List AV) (hn : xs.length = 3) : callF T 10 xs = retF [.t 6] false (evX (orc T) T 0 b10 ⟨argEnv xs, [], 1⟩) := callF_eq CRef17.h10 hn
end
end Go.Ab
end

section
namespace Go.Ab
def l13_0 : AX :=
 (.note
 (.seq
 (.seq
 (.reg [mv 5 4, mv 6 0, rg 7 (.len (.t 6)), rg 8 (.bin .lss (.t 5) (.t 7))])
 (.cond (.t 8)
 .skip
 (.exit 0)))
 (.seq
 (.block 1
 (.drawT [mv 11 3, mv 12 0, mv 13 4, rg 14 (.iad 3 (.t 12) (.t 13)), rg 15 (.fad 0 (.t 14)), rg 16 (.load none (.t 15)), mv 17 0, mv 18 4,
 rg 19 (.iad 3 (.t 17) (.t 18)), rg 20 (.fad 1 (.t 19)), rg 21 (.load none (.t 20)), mv 22 0, mv 23 4, rg 24 (.iad 3 (.t 22) (.t 23)),
 rg 25 (.fad 2 (.t 24)), rg 26 (.load none (.t 25)),
 rg 27 (.build [(.i .i64 0), (.i .i64 0), (.sl [] .nl)] [(0, 1, (.t 16)), (1, 1, (.t 21)), (2, 1, (.t 26))]),
 rg 28 (.bsl 3 [(.i .i64 0), (.i .i64 0), (.sl [] .nl)] 1 [(0, (.t 27))])]
 [rg 29 (.app 3 (.t 11) (.t 28)), mv 3 29]))
 (.reg [mv 9 4, rg 10 (.bin .add (.t 9) (.c (.i .i64 1))), mv 4 10])))
 (.norm false [0, 3, 4]))
def b13 : AX :=
 (.seq
 (.reg [rg 2 (.mov (.c (.sl [] .nl)))])
 (.seq
 (.note (.reg [rg 3 (.mov (.c (.sl [] .nl)))]) (.nil 3 3))
 (.seq
 (.seq
 (.reg [rg 4 (.mov (.c (.i .i64 0)))])
 (.lp 0 (.norm false [0, 3, 4]) l13_0 (.norm false [3])))
 (.seq
 (.reg [mv 30 3, mv 2 30])
 (.pre (.norm false [2]) .ret)))))
def l17_0 : AX :=
 (.note
 (.seq
 (.seq
 (.reg [mv 5 4, mv 6 0, rg 7 (.len (.t 6)), rg 8 (.bin .lss (.t 5) (.t 7))])
 (.cond (.t 8)
 .skip
 (.exit 0)))
 (.seq
 (.block 1
 (.drawT [mv 11 3, mv 12 0, mv 13 4, rg 14 (.iad 3 (.t 12) (.t 13)), rg 15 (.fad 0 (.t 14)), rg 16 (.load none (.t 15)), mv 17 0, mv 18 4,
 rg 19 (.iad 3 (.t 17) (.t 18)), rg 20 (.fad 1 (.t 19)), rg 21 (.load none (.t 20)), mv 22 0, mv 23 4, rg 24 (.iad 3 (.t 22) (.t 23)),
 rg 25 (.fad 2 (.t 24)), rg 26 (.load none (.t 25)),
 rg 27 (.build [(.i .i64 0), (.i .i64 0), (.sl [] .nl)] [(0, 1, (.t 16)), (1, 1, (.t 21)), (2, 1, (.t 26))]),
 rg 28 (.bsl 3 [(.i .i64 0), (.i .i64 0), (.sl [] .nl)] 1 [(0, (.t 27))])]
 [rg 29 (.app 3 (.t 11) (.t 28)), mv 3 29]))
 (.reg [mv 9 4, rg 10 (.bin .add (.t 9) (.c (.i .i64 1))), mv 4 10])))
 (.norm false [0, 3, 4]))
def b17 : AX :=
 (.seq
 (.reg [rg 2 (.mov (.c (.sl [] .nl)))])
 (.seq
 (.note (.reg [rg 3 (.mov (.c (.sl [] .nl)))]) (.nil 3 3))
 (.seq
 (.seq
 (.reg [rg 4 (.mov (.c (.i .i64 0)))])
 (.lp 0 (.norm false [0, 3, 4]) l17_0 (.norm false [3])))
 (.seq
 (.reg [mv 30 3, mv 2 30])
 (.pre (.norm false [2]) .ret)))))
class CLaw17 (T : Tbl) : Prop where
 h13 : T 13 = some ⟨1, 31, [.t 2], b13, none, false⟩
 h17 : T 17 = some ⟨1, 31, [.t 2], b17, none, false⟩
section
variable {T : Tbl} [CLaw17 T] {d : Option Nat} {st : St} {xs : List AV} {ps : List Opd} {e : Env} {h : Heap} {ol : List Heap}
@[simp] theorem x13 : callX (orc T) T 13 xs d st = cP T 13 false xs d st := callX_pure CLaw17.h13
theorem f13 (xs : List AV) (hn : xs.length = 1) : callF T 13 xs = retF [.t 2] false (evX (orc T) T 0 b13 ⟨argEnv xs, [], 1⟩) := callF_eq CLaw17.h13 hn
@[simp] theorem x17 : callX (orc T) T 17 xs d st = cP T 17 false xs d st := callX_pure CLaw17.h17
end
end Go.Ab
end

section
namespace Go.Ab
def l109_0 : AX :=
 (.note
 (.seq
 (.reg [rg 19 (.bin .lss (.t 18) (.t 17))])
 (.seq
 (.cond (.t 19)
 .skip
 (.exit 2))
 (.seq
 (.block 3
 (.seq
 (.reg [rg 20 (.iad 3 (.t 16) (.t 18)), rg 21 (.load (some 3) (.t 20)), rg 9 (.alloc [(.i .i64 0), (.i .i64 0), (.sl [] .nl)]), so (.store 3 (.t 9) (.t 21))])
 (.drawT [mv 22 5, rg 23 (.fad 0 (.t 9)), rg 24 (.load none (.t 23)), rg 25 (.fad 1 (.t 9)), rg 26 (.load none (.t 25)), rg 27 (.fad 2 (.t 9)),
 rg 28 (.load none (.t 27)), rg 29 (.app 1 (.c (.sl [] .nl)) (.t 28)),
 rg 30 (.build [(.i .i64 0), (.i .i64 0), (.sl [] .nl)] [(0, 1, (.t 24)), (1, 1, (.t 26)), (2, 1, (.t 29))]),
 rg 31 (.bsl 3 [(.i .i64 0), (.i .i64 0), (.sl [] .nl)] 1 [(0, (.t 30))])]
 [rg 32 (.app 3 (.t 22) (.t 31)), mv 5 32])))
 (.reg [rg 33 (.bin .add (.t 18) (.c (.i .i64 1))), mv 18 33]))))
 (.norm false [0, 5, 10, 11, 12, 16, 17, 18]))
def l109_1 : AX :=
 (.note
 (.seq
 (.reg [rg 13 (.bin .lss (.t 12) (.t 11))])
 (.seq
 (.cond (.t 13)
 .skip
 (.exit 0))
 (.seq
 (.block 1
 (.seq
 (.reg [rg 14 (.iad 1 (.t 10) (.t 12)), rg 15 (.load none (.t 14)), mv 7 15])
 (.seq
 (.reg [mv 16 7, rg 17 (.len (.t 16)), rg 18 (.mov (.c (.i .i64 0)))])
 (.lp 2 (.norm false [0, 5, 10, 11, 12, 16, 17, 18]) l109_0 (.norm false [0, 5, 10, 11, 12])))))
 (.reg [rg 34 (.bin .add (.t 12) (.c (.i .i64 1))), mv 12 34]))))
 (.norm false [0, 5, 10, 11, 12]))
def b109 : AX :=
 (.seq
 (.reg [rg 4 (.mov (.c (.sl [] .nl)))])
 (.seq
 (.note (.reg [rg 5 (.mov (.c (.sl [] .nl)))]) (.nil 5 3))
 (.seq
 (.seq
 (.reg [mv 10 1, rg 11 (.len (.t 10)), rg 12 (.mov (.c (.i .i64 0)))])
 (.lp 0 (.norm false [0, 5, 10, 11, 12]) l109_1 (.norm false [0, 5])))
 (.seq
 (.reg [mv 35 5, mv 36 0, rg 37 (.build [(.i .i64 0), (.i .i64 0), (.sl [] .nl)] [(0, 1, (.t 36))]),
 rg 38 (.bsl 3 [(.i .i64 0), (.i .i64 0), (.sl [] .nl)] 1 [(0, (.t 37))]), rg 39 (.app 3 (.t 35) (.t 38)), mv 4 39])
 (.pre (.norm false [4]) .ret)))))
def b48 : AX :=
 (.seq
 (.reg [rg 2 (.mov (.c (.sl [] .nl)))])
 (.seq
 (.seq
 (.reg [mv 3 0, rg 4 (.bin .eql (.t 3) (.c (.i .i64 0)))])
 (.cond (.t 4)
 (.seq
 (.reg [rg 5 (.build [(.i .i64 0), (.i .i64 0), (.sl [] .nl)] [(0, 1, (.c (.i .i64 1)))]),
 rg 6 (.bsl 3 [(.i .i64 0), (.i .i64 0), (.sl [] .nl)] 1 [(0, (.t 5))]), mv 2 6])
 (.pre (.norm false [2]) .ret))
 .skip))
 (.seq
 (.reg [mv 7 0, rg 8 (.conv .u32 (.t 7)), rg 9 (.bsl 1 [(u32 0)] 1 [(0, (.t 8))]),
 rg 10 (.build [(.i .i64 0), (.i .i64 0), (.sl [] .nl)] [(0, 1, (.c (.i .i64 1))), (2, 1, (.t 9))]),
 rg 11 (.bsl 3 [(.i .i64 0), (.i .i64 0), (.sl [] .nl)] 1 [(0, (.t 10))]), mv 2 11])
 (.pre (.norm false [2]) .ret))))
def b110 : AX :=
 (.seq
 (.reg [rg 4 (.mov (.c (.sl [] .nl)))])
 (.seq
 (.reg [mv 5 0, rg 6 (.app 3 (.c (.sl [] .nl)) (.t 5)), mv 7 1,
 rg 8 (.build [(.i .i64 0), (.i .i64 0), (.sl [] .nl)] [(0, 1, (.c (.i .i64 11))), (1, 1, (.t 7))]),
 rg 9 (.bsl 3 [(.i .i64 0), (.i .i64 0), (.sl [] .nl)] 1 [(0, (.t 8))]), rg 10 (.app 3 (.t 6) (.t 9)), mv 4 10])
 (.pre (.norm false [4]) .ret)))
def b111 : AX :=
 (.seq
 (.reg [rg 6 (.mov (.c (.sl [] .nl)))])
 (.seq
 (.block 0
 (.seq
 (.reg [mv 8 2, rg 9 (.eqnil false (.t 8)), mv 7 9])
 (.cond (.t 7)
 (.seq
 (.reg [mv 10 1, mv 6 10])
 (.pre (.norm true [6]) .ret))
 (.seq
 (.reg [mv 12 1, rg 13 (.eqnil true (.t 12)), mv 11 13])
 (.cond (.t 11)
 (.seq
 (.reg [mv 14 0, mv 15 1, mv 16 2, rg 17 (.bsl 1 [(.sl [] .nl)] 2 [(0, (.t 15)), (1, (.t 16))]), rg 18 (.call 109 [(.t 14), (.t 17)]), mv 6 18])
 (.pre (.norm true [6]) .ret))
 (.seq
 (.reg [mv 20 0, rg 21 (.bin .eql (.t 20) (.c (.i .i64 8))), mv 19 21])
 (.cond (.t 19)
 (.seq
 (.reg [mv 22 2, rg 23 (.bsl 1 [(.sl [] .nl)] 1 [(0, (.t 22))]), rg 24 (.call 109 [(.c (.i .i64 6)), (.t 23)]), mv 6 24])
 (.pre (.norm true [6]) .ret))
 .skip)))))))
 (.seq
 (.reg [mv 25 2, mv 6 25])
 (.pre (.norm true [6]) .ret))))
def b112 : AX :=
 (.seq
 (.reg [rg 8 (.mov (.c (.sl [] .nl)))])
 (.seq
 (.block 0
 (.seq
 (.reg [mv 10 1, rg 11 (.eqnil false (.t 10)), mv 9 11])
 (.cond (.t 9)
 (.seq
 (.reg [rg 8 (.mov (.c (.sl [] .nl)))])
 (.pre (.norm true [8]) .ret))
 (.seq
 (.reg [mv 13 3, mv 12 13])
 (.cond (.t 12)
 (.seq
 (.reg [mv 14 0, mv 15 1, mv 16 2, rg 17 (.bsl 1 [(.sl [] .nl)] 2 [(0, (.t 15)), (1, (.t 16))]), rg 18 (.call 109 [(.t 14), (.t 17)]), mv 8 18])
 (.pre (.norm true [8]) .ret))
 .skip)))))
 (.seq
 (.reg [mv 19 0, mv 20 2, mv 21 1, rg 22 (.bsl 1 [(.sl [] .nl)] 2 [(0, (.t 20)), (1, (.t 21))]), rg 23 (.call 109 [(.t 19), (.t 22)]), mv 8 23])
 (.pre (.norm true [8]) .ret))))
def b78 : AX :=
 (.seq
 (.reg [rg 4 (.xop (.box 2) [(.t 1)]), rg 5 (.xop (.box 2) [(.t 2)]), rg 6 (.mov (.c (.sl [] .nl)))])
 (.seq
 (.seq
 (.reg [mv 8 0])
 (.block 0
 (.seq
 (.reg [rg 10 (.bin .eql (.t 8) (.c (.i .i64 9))), mv 9 10])
 (.cond (.t 9)
 (.seq
 (.drawT [mv 11 0, rg 12 (.fad 1 (.t 4)), rg 13 (.load none (.t 12)), rg 14 (.fad 0 (.t 5)), rg 15 (.load none (.t 14)),
 rg 16 (.call 112 [(.t 11), (.t 13), (.t 15), (.c (.b true))]), mv 17 0, rg 18 (.fad 1 (.t 5)), rg 19 (.load none (.t 18)), rg 20 (.fad 0 (.t 4)),
 rg 21 (.load none (.t 20))]
 [rg 22 (.call 112 [(.t 17), (.t 19), (.t 21), (.c (.b false))]), rg 23 (.call 111 [(.c (.i .i64 7)), (.t 16), (.t 22)]), mv 6 23])
 (.pre (.norm true [6]) .ret))
 (.seq
 (.reg [rg 25 (.bin .eql (.t 8) (.c (.i .i64 10))), mv 24 25])
 (.cond (.t 24)
 (.seq
 (.reg [rg 26 (.fad 1 (.t 5)), rg 27 (.load none (.t 26)), rg 28 (.fad 0 (.t 4)), rg 29 (.load none (.t 28)),
 rg 30 (.call 112 [(.c (.i .i64 9)), (.t 27), (.t 29), (.c (.b false))]), mv 7 30])
 (.seq
 (.seq
 (.reg [mv 31 7, rg 32 (.eqnil true (.t 31))])
 (.cond (.t 32)
 (.reg [mv 33 7, rg 34 (.fad 0 (.t 5)), rg 35 (.load none (.t 34)), rg 36 (.fad 0 (.t 5)), rg 37 (.load none (.t 36)),
 rg 38 (.bsl 1 [(.sl [] .nl)] 2 [(0, (.t 35)), (1, (.t 37))]), rg 39 (.call 109 [(.c (.i .i64 9)), (.t 38)]),
 rg 40 (.bsl 1 [(.sl [] .nl)] 2 [(0, (.t 33)), (1, (.t 39))]), rg 41 (.call 109 [(.c (.i .i64 10)), (.t 40)]), mv 7 41])
 .skip))
 (.seq
 (.reg [mv 42 0, rg 43 (.fad 1 (.t 4)), rg 44 (.load none (.t 43)), rg 45 (.fad 0 (.t 5)), rg 46 (.load none (.t 45)),
 rg 47 (.call 112 [(.t 42), (.t 44), (.t 46), (.c (.b true))]), mv 48 7, rg 49 (.call 111 [(.c (.i .i64 8)), (.t 47), (.t 48)]), mv 6 49])
 (.pre (.norm true [6]) .ret))))
 .skip))))))
 (.seq
 (.reg [mv 50 0, rg 51 (.fad 1 (.t 4)), rg 52 (.load none (.t 51)), rg 53 (.fad 1 (.t 5)), rg 54 (.load none (.t 53)),
 rg 55 (.call 111 [(.t 50), (.t 52), (.t 54)]), mv 6 55])
 (.pre (.norm true [6]) .ret))))
def b77 : AX :=
 (.seq
 (.reg [rg 2 (.xop (.box 3) [(.t 0)]), rg 3 (.xop (.box 2) [(.t 1)]), rg 4 (.mov (.c (.sl [] .nl)))])
 (.seq
 (.block 0
 (.seq
 (.reg [rg 7 (.fad 1 (.t 3)), rg 8 (.load none (.t 7)), rg 9 (.eqnil false (.t 8)), mv 10 9, gd 11 10 false (.fad 0 (.t 2)), gd 12 10 false (.load none (.t 11)),
 gd 13 10 false (.bin .eql (.t 12) (.c (.i .i64 11))), gd 14 10 false (.mov (.t 13)), gd 15 14 true (.fad 1 (.t 2)), gd 16 14 true (.load none (.t 15)),
 gd 17 14 true (.bin .eql (.t 16) (.c (.i .i64 0))), gd 18 10 false (.pick (.t 14) (.t 17) (.c (.b false))), rg 19 (.pick (.t 10) (.c (.b true)) (.t 18)),
 mv 6 19])
 (.cond (.t 6)
 (.seq
 (.reg [rg 4 (.mov (.c (.sl [] .nl)))])
 (.pre (.norm true [4]) .ret))
 (.seq
 (.reg [rg 21 (.fad 0 (.t 2)), rg 22 (.load none (.t 21)), rg 23 (.bin .eql (.t 22) (.c (.i .i64 6))), mv 20 23])
 (.cond (.t 20)
 (.seq
 (.reg [rg 24 (.fad 1 (.t 3)), rg 25 (.load none (.t 24)), rg 26 (.bsl 1 [(.sl [] .nl)] 1 [(0, (.t 25))]), rg 27 (.call 109 [(.c (.i .i64 6)), (.t 26)]),
 mv 4 27])
 (.pre (.norm true [4]) .ret))
 (.seq
 (.reg [rg 29 (.fad 1 (.t 2)), rg 30 (.load none (.t 29)), rg 31 (.bin .gtr (.t 30) (.c (.i .i64 0))), mv 28 31])
 (.cond (.t 28)
 (.seq
 (.drawT [rg 32 (.fad 1 (.t 2)), rg 33 (.load none (.t 32)), rg 34 (.call 48 [(.t 33)]), rg 35 (.fad 0 (.t 3)), rg 36 (.load none (.t 35)), rg 37 (.fad 1 (.t 2)),
 rg 38 (.load none (.t 37)), rg 39 (.bin .sub (.t 38) (.c (.i .i64 1))), rg 40 (.call 110 [(.t 36), (.t 39)]),
 rg 41 (.bsl 1 [(.sl [] .nl)] 2 [(0, (.t 34)), (1, (.t 40))]), rg 42 (.call 109 [(.c (.i .i64 9)), (.t 41)]), rg 43 (.fad 1 (.t 3)),
 rg 44 (.load none (.t 43))]
 [rg 45 (.bsl 1 [(.sl [] .nl)] 2 [(0, (.t 42)), (1, (.t 44))]), rg 46 (.call 109 [(.c (.i .i64 9)), (.t 45)]), mv 4 46])
 (.pre (.norm true [4]) .ret))
 .skip)))))))
 (.seq
 (.drawT [rg 47 (.fad 1 (.t 2)), rg 48 (.load none (.t 47)), rg 49 (.un .neg (.t 48)), rg 50 (.call 48 [(.t 49)]), rg 51 (.fad 0 (.t 3)),
 rg 52 (.load none (.t 51)), rg 53 (.fad 1 (.t 2)), rg 54 (.load none (.t 53)), rg 55 (.call 110 [(.t 52), (.t 54)]),
 rg 56 (.bsl 1 [(.sl [] .nl)] 2 [(0, (.t 50)), (1, (.t 55))]), rg 57 (.call 109 [(.c (.i .i64 9)), (.t 56)]), rg 58 (.fad 1 (.t 3)),
 rg 59 (.load none (.t 58))]
 [rg 60 (.bsl 1 [(.sl [] .nl)] 2 [(0, (.t 57)), (1, (.t 59))]), rg 61 (.call 109 [(.c (.i .i64 9)), (.t 60)]), mv 5 61])
 (.seq
 (.reg [mv 62 5, rg 63 (.fad 0 (.t 3)), rg 64 (.load none (.t 63)), rg 65 (.bsl 1 [(.sl [] .nl)] 2 [(0, (.t 62)), (1, (.t 64))]),
 rg 66 (.call 109 [(.c (.i .i64 10)), (.t 65)]), rg 67 (.bsl 1 [(.sl [] .nl)] 1 [(0, (.t 66))]), rg 68 (.call 109 [(.c (.i .i64 6)), (.t 67)]), mv 4 68])
 (.pre (.norm true [4]) .ret)))))
def b53 : AX :=
 (.seq
 (.reg [rg 2 (.xop (.box 3) [(.t 0)]), rg 3 (.xop (.box 3) [(.t 1)]), rg 4 (.mov (.c (.b false)))])
 (.seq
 (.reg [rg 5 (.fad 0 (.t 2)), rg 6 (.load none (.t 5)), rg 7 (.fad 0 (.t 3)), rg 8 (.load none (.t 7)), rg 9 (.bin .eql (.t 6) (.t 8)), mv 10 9,
 gd 11 10 true (.fad 1 (.t 2)), gd 12 10 true (.load none (.t 11)), gd 13 10 true (.fad 1 (.t 3)), gd 14 10 true (.load none (.t 13)),
 gd 15 10 true (.bin .eql (.t 12) (.t 14)), rg 16 (.pick (.t 10) (.t 15) (.c (.b false))), mv 4 16])
 (.pre (.norm false [4]) .ret)))
def l47_0 : AX :=
 (.note
 (.seq
 (.reg [rg 32 (.bin .lss (.t 31) (.t 30))])
 (.seq
 (.cond (.t 32)
 .skip
 (.exit 2))
 (.seq
 (.block 3
 (.seq
 (.reg [rg 33 (.iad 2 (.t 29) (.t 31)), rg 34 (.load (some 2) (.t 33)), rg 11 (.alloc [(.sl [] .nl), (.sl [] .nl)]), so (.store 2 (.t 11) (.t 34))])
 (.reg [mv 35 9, rg 36 (.fad 0 (.t 11)), rg 37 (.load none (.t 36)), rg 38 (.len (.t 37)), rg 39 (.bin .sub (.t 35) (.t 38)), mv 9 39])))
 (.reg [rg 40 (.bin .add (.t 31) (.c (.i .i64 1))), mv 31 40]))))
 (.norm true [0, 3, 5, 6, 7, 8, 9, 13, 14, 15, 29, 30, 31]))
def l47_1 : AX :=
 (.note
 (.seq
 (.reg [rg 16 (.bin .lss (.t 15) (.t 14))])
 (.seq
 (.cond (.t 16)
 .skip
 (.exit 0))
 (.seq
 (.block 1
 (.seq
 (.reg [mv 17 15, rg 18 (.iad 3 (.t 13) (.t 15)), rg 19 (.load (some 3) (.t 18)), rg 7 (.alloc [(.i .i64 0), (.i .i64 0), (.sl [] .nl)]), mv 6 17,
 so (.store 3 (.t 7) (.t 19))])
 (.seq
 (.reg [mv 20 5, rg 21 (.len (.t 20)), rg 22 (.fad 0 (.t 7)), rg 23 (.load none (.t 22)), rg 24 (.call 76 [(.t 23)]), rg 25 (.bin .sub (.t 21) (.t 24)), mv 8 25])
 (.seq
 (.reg [mv 26 6, mv 9 26])
 (.seq
 (.seq
 (.reg [mv 27 5, mv 28 8, rg 29 (.slc 2 (.t 27) (some (.t 28)) none none), rg 30 (.len (.t 29)), rg 31 (.mov (.c (.i .i64 0)))])
 (.lp 2 (.norm true [0, 3, 5, 6, 7, 8, 9, 13, 14, 15, 29, 30, 31]) l47_0 (.norm true [0, 3, 5, 6, 7, 8, 9, 13, 14, 15])))
 (.seq
 (.reg [mv 41 0, mv 42 9, mv 43 6, rg 44 (.bin .add (.t 43) (.c (.i .i64 1))), rg 45 (.slc 3 (.t 41) (some (.t 42)) (some (.t 44)) none),
 rg 46 (.build [(.sl [] .nl), (.sl [] .nl)] [(0, 1, (.t 45))]), rg 12 (.alloc [(.sl [] .nl), (.sl [] .nl)]), so (.store 2 (.t 12) (.t 46))])
 (.seq
 (.seq
 (.reg [mv 47 5, rg 48 (.len (.t 47)), mv 49 8, rg 50 (.bin .sub (.t 48) (.t 49))])
 (.block 4
 (.seq
 (.reg [rg 65 (.bin .eql (.t 50) (.c (.i .i64 0))), mv 64 65])
 (.cond (.t 64)
 (.seq
 (.reg [rg 66 (.load (some 3) (.t 7)), rg 67 (.load (some 3) (.t 3)), rg 68 (.call 53 [(.t 66), (.t 67)])])
 (.cond (.t 68)
 (.reg [rg 69 (.call 48 [(.c (.i .i64 1))]), rg 70 (.fad 1 (.t 12)), so (.store 1 (.t 70) (.t 69))])
 .skip))
 (.seq
 (.reg [rg 72 (.bin .eql (.t 50) (.c (.i .i64 1))), mv 71 72])
 (.cond (.t 71)
 (.drawT [rg 73 (.load (some 3) (.t 7)), mv 74 5, mv 75 8, rg 76 (.iad 2 (.t 74) (.t 75)), rg 77 (.load (some 2) (.t 76))]
 [rg 78 (.call 77 [(.t 73), (.t 77)]), rg 79 (.fad 1 (.t 12)), so (.store 1 (.t 79) (.t 78))])
 (.drawT [rg 51 (.fad 0 (.t 7)), rg 52 (.load none (.t 51)), mv 53 5, mv 54 8, rg 55 (.iad 2 (.t 53) (.t 54)), rg 56 (.load (some 2) (.t 55)), mv 57 5, mv 58 8,
 rg 59 (.bin .add (.t 58) (.c (.i .i64 1))), rg 60 (.iad 2 (.t 57) (.t 59)), rg 61 (.load (some 2) (.t 60))]
 [rg 62 (.call 78 [(.t 52), (.t 56), (.t 61)]), rg 63 (.fad 1 (.t 12)), so (.store 1 (.t 63) (.t 62))])))))))
 (.drawT [mv 80 5, mv 81 8, rg 82 (.slc 2 (.t 80) none (some (.t 81)) none), rg 83 (.load (some 2) (.t 12)),
 rg 84 (.bsl 2 [(.sl [] .nl), (.sl [] .nl)] 1 [(0, (.t 83))])]
 [rg 85 (.app 2 (.t 82) (.t 84)), mv 5 85]))))))))
 (.reg [rg 86 (.bin .add (.t 15) (.c (.i .i64 1))), mv 15 86]))))
 (.norm true [0, 3, 5, 13, 14, 15]))
def b47 : AX :=
 (.seq
 (.reg [rg 3 (.xop (.box 3) [(.t 1)]), rg 4 (.mov (.c (.sl [] .nl)))])
 (.seq
 (.note (.reg [rg 5 (.mov (.c (.sl [] .nl)))]) (.nil 5 2))
 (.seq
 (.seq
 (.reg [mv 13 0, rg 14 (.len (.t 13)), rg 15 (.mov (.c (.i .i64 0)))])
 (.lp 0 (.norm true [0, 3, 5, 13, 14, 15]) l47_1 (.norm true [5])))
 (.seq
 (.reg [mv 87 5, rg 88 (.iad 2 (.t 87) (.c (.i .i64 0))), rg 89 (.fad 1 (.t 88)), rg 90 (.load none (.t 89)), mv 4 90])
 (.pre (.norm true [4]) .ret)))))
def b45 : AX :=
 (.seq
 (.reg [rg 1 (.xop (.box 3) [(.t 0)]), rg 2 (.mov (.c (.b false)))])
 (.seq
 (.seq
 (.reg [rg 3 (.fad 0 (.t 1)), rg 4 (.load none (.t 3))])
 (.block 0
 (.seq
 (.seq
 (.reg [rg 6 (.bin .eql (.t 4) (.c (.i .i64 2))), mv 5 6])
 (.cond (.t 5)
 .skip
 (.seq
 (.reg [rg 7 (.bin .eql (.t 4) (.c (.i .i64 3))), mv 5 7])
 (.cond (.t 5)
 .skip
 (.reg [rg 8 (.bin .eql (.t 4) (.c (.i .i64 4))), mv 5 8])))))
 (.cond (.t 5)
 (.seq
 (.reg [rg 9 (.load (some 3) (.t 1)), rg 10 (.call 75 [(.t 9), (.c (.i .i64 6)), (.c (.i .i64 6)), (.c (.i .i64 0))]), mv 2 10])
 (.pre (.norm false [2]) .ret))
 .skip))))
 (.seq
 (.reg [rg 2 (.mov (.c (.b false)))])
 (.pre (.norm false [2]) .ret))))
def b12 : AX :=
 (.seq
 (.reg [rg 3 (.xop (.box 3) [(.t 1)]), rg 4 (.mov (.c (.sl [] .nl))), rg 5 (.mov (.c (.b false)))])
 (.seq
 (.seq
 (.reg [rg 7 (.load (some 3) (.t 3)), rg 8 (.call 45 [(.t 7)]), rg 9 (.un .not (.t 8)), mv 10 9, gd 11 10 false (.mov (.t 0)), gd 12 10 false (.len (.t 11)),
 gd 13 10 false (.bin .gtr (.t 12) (.c (.i .i64 300))), rg 14 (.pick (.t 10) (.c (.b true)) (.t 13)), mv 15 14, gd 16 15 false (.mov (.t 0)),
 gd 17 15 false (.call 46 [(.t 16), (.c (.i .i64 6)), (.c (.i .i64 6)), (.c (.i .i64 0))]), gd 18 15 false (.bin .geq (.t 17) (.c (.i .i64 0))),
 rg 19 (.pick (.t 15) (.c (.b true)) (.t 18))])
 (.cond (.t 19)
 (.seq
 (.reg [rg 4 (.mov (.c (.sl [] .nl))), rg 5 (.mov (.c (.b false)))])
 (.pre (.norm false [4, 5]) .ret))
 .skip))
 (.seq
 (.reg [mv 20 0, rg 21 (.load (some 3) (.t 3)), rg 22 (.call 47 [(.t 20), (.t 21)]), mv 6 22])
 (.seq
 (.seq
 (.reg [mv 23 6, rg 24 (.eqnil false (.t 23))])
 (.cond (.t 24)
 (.reg [rg 25 (.call 48 [(.c (.i .i64 0))]), mv 6 25])
 .skip))
 (.seq
 (.reg [mv 26 6, mv 4 26, rg 5 (.mov (.c (.b true)))])
 (.pre (.norm false [4, 5]) .ret))))))
def l18_0 : AX :=
 (.note
 (.seq
 (.reg [rg 10 (.bin .lss (.t 9) (.t 8))])
 (.seq
 (.cond (.t 10)
 .skip
 (.exit 0))
 (.seq
 (.block 1
 (.seq
 (.reg [rg 11 (.iad 3 (.t 7) (.t 9)), rg 12 (.load (some 3) (.t 11)), rg 6 (.alloc [(.i .i64 0), (.i .i64 0), (.sl [] .nl)]), so (.store 3 (.t 6) (.t 12))])
 (.seq
 (.reg [rg 13 (.load (some 3) (.t 6)), rg 14 (.load (some 3) (.t 3)), rg 15 (.call 53 [(.t 13), (.t 14)])])
 (.cond (.t 15)
 (.seq
 (.reg [rg 4 (.mov (.c (.b false)))])
 (.pre (.norm false [4]) .ret))
 .skip))))
 (.reg [rg 16 (.bin .add (.t 9) (.c (.i .i64 1))), mv 9 16]))))
 (.norm false [3, 7, 8, 9]))
def b18 : AX :=
 (.seq
 (.reg [rg 3 (.xop (.box 3) [(.t 1)]), rg 4 (.mov (.c (.b false)))])
 (.seq
 (.seq
 (.reg [mv 7 0, rg 8 (.len (.t 7)), rg 9 (.mov (.c (.i .i64 0)))])
 (.lp 0 (.norm false [3, 7, 8, 9]) l18_0 (.norm false [])))
 (.seq
 (.reg [rg 4 (.mov (.c (.b true)))])
 (.pre (.norm false [4]) .ret))))
class CDiff (T : Tbl) : Prop where
 h109 : T 109 = some ⟨2, 40, [.t 4], b109, none, false⟩
 h48 : T 48 = some ⟨1, 12, [.t 2], b48, none, false⟩
 h110 : T 110 = some ⟨2, 11, [.t 4], b110, none, false⟩
 h111 : T 111 = some ⟨3, 26, [.t 6], b111, none, true⟩
 h112 : T 112 = some ⟨4, 24, [.t 8], b112, none, true⟩
 h78 : T 78 = some ⟨3, 56, [.t 6], b78, none, true⟩
 h77 : T 77 = some ⟨2, 69, [.t 4], b77, none, true⟩
 h53 : T 53 = some ⟨2, 17, [.t 4], b53, none, false⟩
 h47 : T 47 = some ⟨2, 91, [.t 4], b47, none, true⟩
 h45 : T 45 = some ⟨1, 11, [.t 2], b45, none, false⟩
 h12 : T 12 = some ⟨2, 27, [.t 4, .t 5], b12, none, false⟩
 h18 : T 18 = some ⟨2, 17, [.t 4], b18, none, false⟩
section
variable {T : Tbl} [CDiff T] {d : Option Nat} {st : St} {xs : List AV} {ps : List Opd} {e : Env} {h : Heap} {ol : List Heap}
@[simp] theorem x109 : callX (orc T) T 109 xs d st = cP T 109 false xs d st := callX_pure CDiff.h109
@[simp] theorem y109 : opD (orc T) T (.call 109 ps) e h ol = dP T 109 false ps e := opD_call CDiff.h109
theorem f109 (xs : List AV) (hn : xs.length = 2) : callF T 109 xs = retF [.t 4] false (evX (orc T) T 0 b109 ⟨argEnv xs, [], 1⟩) := callF_eq CDiff.h109 hn
@[simp] theorem x48 : callX (orc T) T 48 xs d st = cP T 48 false xs d st := callX_pure CDiff.h48
@[simp] theorem y48 : opD (orc T) T (.call 48 ps) e h ol = dP T 48 false ps e := opD_call CDiff.h48
theorem f48 (xs : List AV) (hn : xs.length = 1) : callF T 48 xs = retF [.t 2] false (evX (orc T) T 0 b48 ⟨argEnv xs, [], 1⟩) := callF_eq CDiff.h48 hn
@[simp] theorem y110 : opD (orc T) T (.call 110 ps) e h ol = dP T 110 false ps e := opD_call CDiff.h110
theorem f110 (xs : List AV) (hn : xs.length = 2) : callF T 110 xs = retF [.t 4] false (evX (orc T) T 0 b110 ⟨argEnv xs, [], 1⟩) := callF_eq CDiff.h110 hn
@[simp] theorem x111 : callX (orc T) T 111 xs d st = cP T 111 true xs d st := callX_pure CDiff.h111
theorem f111 (xs : List AV) (hn : xs.length = 3) : callF T 111 xs = retF [.t 6] true (evX (orc T) T 0 b111 ⟨argEnv xs, [], 1⟩) := callF_eq CDiff.h111 hn
@[simp] theorem x112 : callX (orc T) T 112 xs d st = cP T 112 true xs d st := callX_pure CDiff.h112
@[simp] theorem y112 : opD (orc T) T (.call 112 ps) e h ol = dP T 112 true ps e := opD_call CDiff.h112
theorem f112 (xs : List AV) (hn : xs.length = 4) : callF T 112 xs = retF [.t 8] true (evX (orc T) T 0 b112 ⟨argEnv xs, [], 1⟩) := callF_eq CDiff.h112 hn
@[simp] theorem x78 : callX (orc T) T 78 xs d st = cP T 78 true xs d st := callX_pure CDiff.h78
theorem f78 (xs : List AV) (hn : xs.length = 3) : callF T 78 xs = retF [.t 6] true (evX (orc T) T 0 b78 ⟨argEnv xs, [], 1⟩) := callF_eq CDiff.h78 hn
@[simp] theorem x77 : callX (orc T) T 77 xs d st = cP T 77 true xs d st := callX_pure CDiff.h77
theorem f77 (xs : List AV) (hn : xs.length = 2) : callF T 77 xs = retF [.t 4] true (evX (orc T) T 0 b77 ⟨argEnv xs, [], 1⟩) := callF_eq CDiff.h77 hn
@[simp] theorem x53 : callX (orc T) T 53 xs d st = cP T 53 false xs d st := callX_pure CDiff.h53
theorem f53 (xs : List AV) (hn : xs.length = 2) : callF T 53 xs = retF [.t 4] false (evX (orc T) T 0 b53 ⟨argEnv xs, [], 1⟩) := callF_eq CDiff.h53 hn
@[simp] theorem x47 : callX (orc T) T 47 xs d st = cP T 47 true xs d st := callX_pure CDiff.h47
theorem f47 (xs : List AV) (hn : xs.length = 2) : callF T 47 xs = retF [.t 4] true (evX (orc T) T 0 b47 ⟨argEnv xs, [], 1⟩) := callF_eq CDiff.h47 hn
@[simp] theorem x45 : callX (orc T) T 45 xs d st = cP T 45 false xs d st := callX_pure CDiff.h45
theorem f45 (xs : List AV) (hn : xs.length = 1) : callF T 45 xs = retF [.t 2] false (evX (orc T) T 0 b45 ⟨argEnv xs, [], 1⟩) := callF_eq CDiff.h45 hn
@[simp] theorem x12 : callX (orc T) T 12 xs d st = cP T 12 false xs d st := callX_pure CDiff.h12
theorem f12 (xs : List AV) (hn : xs.length = 2) : callF T 12 xs = retF [.t 4, .t 5] false (evX (orc T) T 0 b12 ⟨argEnv xs, [], 1⟩) := callF_eq CDiff.h12 hn
@[simp] theorem x18 : callX (orc T) T 18 xs d st = cP T 18 false xs d st := callX_pure CDiff.h18
@[simp] theorem y18 : opD (orc T) T (.call 18 ps) e h ol = dP T 18 false ps e := opD_call CDiff.h18
theorem f18 (xs : List AV) (hn : xs.length = 2) : callF T 18 xs = retF [.t 4] false (evX (orc T) T 0 b18 ⟨argEnv xs, [], 1⟩) := callF_eq CDiff.h18 hn
end
end Go.Ab
end

section
namespace Go.Ab
def b15 : AX :=
 (.seq
 (.reg [rg 3 (.xop (.box 3) [(.t 1)]), rg 4 (.mov (.c (.sl [] .nl))), rg 5 (.mov (.c (.b false)))])
 (.seq
 (.seq
 (.reg [rg 7 (.load (some 3) (.t 3)), rg 8 (.call 49 [(.t 7)]), rg 9 (.un .not (.t 8)), mv 10 9, gd 11 10 false (.mov (.t 0)), gd 12 10 false (.len (.t 11)),
 gd 13 10 false (.bin .gtr (.t 12) (.c (.i .i64 300))), rg 14 (.pick (.t 10) (.c (.b true)) (.t 13)), mv 15 14, gd 16 15 false (.mov (.t 0)),
 gd 17 15 false (.call 50 [(.t 16), (.c (.i .i64 6)), (.c (.i .i64 6)), (.c (.i .i64 0))]), gd 18 15 false (.bin .geq (.t 17) (.c (.i .i64 0))),
 rg 19 (.pick (.t 15) (.c (.b true)) (.t 18))])
 (.cond (.t 19)
 (.seq
 (.reg [rg 20 (.bsl 3 [(.i .i64 0), (.i .i64 0), (.sl [] .nl)] 0 []), mv 4 20, rg 5 (.mov (.c (.b false)))])
 (.pre (.norm false [4, 5]) .ret))
 .skip))
 (.seq
 (.reg [mv 21 0, rg 22 (.load (some 3) (.t 3)), rg 23 (.call 51 [(.t 21), (.t 22)]), mv 6 23])
 (.seq
 (.seq
 (.reg [mv 24 6, rg 25 (.len (.t 24)), rg 26 (.bin .eql (.t 25) (.c (.i .i64 0)))])
 (.cond (.t 26)
 (.reg [rg 27 (.build [(.i .i64 0), (.i .i64 0), (.sl [] .nl)] [(0, 1, (.c (.i .i64 1)))]),
 rg 28 (.bsl 3 [(.i .i64 0), (.i .i64 0), (.sl [] .nl)] 1 [(0, (.t 27))]), mv 6 28])
 .skip))
 (.seq
 (.reg [mv 29 6, mv 4 29, rg 5 (.mov (.c (.b true)))])
 (.pre (.norm false [4, 5]) .ret))))))
class CRef23 (T : Tbl) : Prop where
 h15 : T 15 = some ⟨2, 30, [.t 4, .t 5], b15, none, false⟩
section
variable {T : Tbl} [CRef23 T] {d : Option Nat} {st : St} {xs : List AV} {ps : List Opd} {e : Env} {h : Heap} {ol : List Heap}
@[simp] theorem x15 : callX (orc T) T 15 xs d st = cP T 15 false xs d st := callX_pure CRef23.h15
end
end Go.Ab
end

section
namespace Go.Ab
def b14 : AX :=
 (.seq
 (.reg [rg 1 (.xop (.box 3) [(.t 0)]), rg 2 (.alloc [(.i .i64 0), (.i .i64 0), (.sl [] .nl)])])
 (.seq
 (.reg [rg 3 (.fad 0 (.t 1)), rg 4 (.load none (.t 3)), rg 5 (.fad 1 (.t 1)), rg 6 (.load none (.t 5)), rg 7 (.fad 2 (.t 1)), rg 8 (.load none (.t 7)),
 rg 9 (.build [(.i .i64 0), (.i .i64 0), (.sl [] .nl)] [(0, 1, (.t 4)), (1, 1, (.t 6)), (2, 1, (.t 8))]), so (.store 3 (.t 2) (.t 9))])
 (.pre (.norm false [2]) .ret)))
def l4_0 : AX :=
 (.note
 (.seq
 (.seq
 (.reg [mv 34 10, mv 35 0, rg 36 (.len (.t 35)), rg 37 (.bin .lss (.t 34) (.t 36))])
 (.cond (.t 37)
 .skip
 (.exit 0)))
 (.seq
 (.block 1
 (.drawT [mv 40 9, mv 41 40, gd 42 41 true (.mov (.t 0)), gd 43 41 true (.mov (.t 10)), gd 44 41 true (.iad 3 (.t 42) (.t 43)), gd 45 41 true (.fad 0 (.t 44)),
 gd 46 41 true (.load none (.t 45)), gd 47 41 true (.fad 0 (.t 3)), gd 48 41 true (.load none (.t 47)), gd 49 41 true (.bin .neq (.t 46) (.t 48)),
 gd 50 41 true (.mov (.t 49)), gd 51 50 false (.mov (.t 0)), gd 52 50 false (.mov (.t 10)), gd 53 50 false (.iad 3 (.t 51) (.t 52)),
 gd 54 50 false (.fad 1 (.t 53)), gd 55 50 false (.load none (.t 54)), gd 56 50 false (.fad 1 (.t 3)), gd 57 50 false (.load none (.t 56))]
 [gd 58 50 false (.bin .neq (.t 55) (.t 57)), gd 59 41 true (.pick (.t 50) (.c (.b true)) (.t 58)), rg 60 (.pick (.t 41) (.t 59) (.c (.b false))), mv 9 60]))
 (.reg [mv 38 10, rg 39 (.bin .add (.t 38) (.c (.i .i64 1))), mv 10 39])))
 (.norm false [0, 3, 5, 6, 7, 8, 9, 10]))
def b4 : AX :=
 (.seq
 (.reg [rg 3 (.xop (.box 3) [(.t 1)]), rg 4 (.mov (.c (.b false)))])
 (.seq
 (.seq
 (.reg [mv 11 0, rg 12 (.call 10 [(.t 11), (.c (.i .i64 40)), (.c (.i .i64 9))]), mv 13 12, gd 14 13 false (.fad 2 (.t 3)), gd 15 13 false (.load none (.t 14)),
 gd 16 13 false (.len (.t 15)), gd 17 13 false (.bin .gtr (.t 16) (.c (.i .i64 9))), rg 18 (.pick (.t 13) (.c (.b true)) (.t 17))])
 (.cond (.t 18)
 (.seq
 (.reg [rg 19 (.call 11 []), mv 4 19])
 (.pre (.norm false [4]) .ret))
 .skip))
 (.seq
 (.drawT [mv 21 0, rg 22 (.call 13 [(.t 21)]), rg 23 (.load (some 3) (.t 3)), rg 24 (.call 14 [(.t 23)]), rg 25 (.call 12 [(.t 22), (.t 24)]), mv 20 25,
 rg 26 (.ext (.t 20) 0), rg 27 (.ext (.t 20) 1), mv 5 26]
 [mv 6 27])
 (.seq
 (.reg [mv 29 0, rg 30 (.load (some 3) (.t 3)), rg 31 (.call 15 [(.t 29), (.t 30)]), mv 28 31, rg 32 (.ext (.t 28) 0), rg 33 (.ext (.t 28) 1), mv 7 32, mv 8 33])
 (.seq
 (.reg [rg 9 (.mov (.c (.b true)))])
 (.seq
 (.seq
 (.reg [rg 10 (.mov (.c (.i .i64 0)))])
 (.lp 0 (.norm false [0, 3, 5, 6, 7, 8, 9, 10]) l4_0 (.norm false [0, 3, 5, 6, 7, 8, 9])))
 (.seq
 (.drawT [mv 61 5, rg 62 (.call 17 [(.t 61)]), mv 63 7, rg 64 (.call 16 [(.t 62), (.t 63)]), mv 65 64, gd 66 65 true (.mov (.t 6)), gd 67 65 true (.mov (.t 8)),
 gd 68 65 true (.eqb false (.t 66) (.t 67)), rg 69 (.pick (.t 65) (.t 68) (.c (.b false))), mv 70 69, gd 71 70 true (.mov (.t 0)),
 gd 72 70 true (.call 13 [(.t 71)]), gd 73 70 true (.load (some 3) (.t 3)), gd 74 70 true (.call 14 [(.t 73)]),
 gd 75 70 true (.call 18 [(.t 72), (.t 74)]), gd 76 70 true (.mov (.t 9))]
 [gd 77 70 true (.eqb false (.t 75) (.t 76)), rg 78 (.pick (.t 70) (.t 77) (.c (.b false))), mv 79 78, gd 80 79 true (.call 11 []),
 rg 81 (.pick (.t 79) (.t 80) (.c (.b false))), mv 4 81])
 (.pre (.norm false [4]) .ret))))))))
def b11 : AX :=
 (.seq
 (.reg [rg 0 (.mov (.c (.b false)))])
 (.seq
 (.reg [rg 6 (.build [(.i .i64 0), (.i .i64 0), (.sl [] .nl)] [(0, 1, (.c (.i .i64 2)))]), rg 1 (.alloc [(.i .i64 0), (.i .i64 0), (.sl [] .nl)]),
 so (.store 3 (.t 1) (.t 6))])
 (.seq
 (.reg [rg 8 (.load (some 3) (.t 1)), rg 9 (.build [(.i .i64 0), (.i .i64 0), (.sl [] .nl)] [(0, 1, (.c (.i .i64 11))), (1, 1, (.c (.i .i64 2)))]),
 rg 10 (.bsl 3 [(.i .i64 0), (.i .i64 0), (.sl [] .nl)] 2 [(0, (.t 8)), (1, (.t 9))]), rg 11 (.load (some 3) (.t 1)), rg 12 (.call 12 [(.t 10), (.t 11)]),
 mv 7 12, rg 13 (.ext (.t 7) 0), rg 14 (.ext (.t 7) 1), mv 2 13, mv 3 14])
 (.seq
 (.reg [rg 16 (.build [(.i .i64 0), (.i .i64 0), (.sl [] .nl)] [(0, 1, (.c (.i .i64 3)))]),
 rg 17 (.bsl 3 [(.i .i64 0), (.i .i64 0), (.sl [] .nl)] 1 [(0, (.t 16))]), rg 18 (.load (some 3) (.t 1)), rg 19 (.call 12 [(.t 17), (.t 18)]), mv 15 19,
 rg 20 (.ext (.t 15) 0), rg 21 (.ext (.t 15) 1), mv 4 20, mv 5 21])
 (.seq
 (.reg [mv 22 3, mv 23 22, gd 24 23 true (.mov (.t 5)), rg 25 (.pick (.t 23) (.t 24) (.c (.b false))), mv 26 25, gd 27 26 true (.mov (.t 2)),
 gd 28 26 true (.len (.t 27)), gd 29 26 true (.bin .eql (.t 28) (.c (.i .i64 6))), rg 30 (.pick (.t 26) (.t 29) (.c (.b false))), mv 31 30,
 gd 32 31 true (.mov (.t 4)), gd 33 31 true (.len (.t 32)), gd 34 31 true (.bin .eql (.t 33) (.c (.i .i64 1))),
 rg 35 (.pick (.t 31) (.t 34) (.c (.b false))), mv 36 35, gd 37 36 true (.mov (.t 4)), gd 38 36 true (.iad 3 (.t 37) (.c (.i .i64 0))),
 gd 39 36 true (.fad 0 (.t 38)), gd 40 36 true (.load none (.t 39)), gd 41 36 true (.bin .eql (.t 40) (.c (.i .i64 1))),
 rg 42 (.pick (.t 36) (.t 41) (.c (.b false))), mv 43 42, gd 44 43 true (.mov (.t 2)), gd 45 43 true (.call 44 [(.t 44)]),
 rg 46 (.pick (.t 43) (.t 45) (.c (.b false))), mv 0 46])
 (.pre (.norm false [0]) .ret))))))
class CLaw23 (T : Tbl) : Prop where
 h14 : T 14 = some ⟨1, 10, [.cell 2 (some 3)], b14, none, false⟩
 h4 : T 4 = some ⟨2, 82, [.t 4], b4, none, false⟩
 h11 : T 11 = some ⟨0, 47, [.t 0], b11, none, false⟩
section
variable {T : Tbl} [CLaw23 T] {d : Option Nat} {st : St} {xs : List AV} {ps : List Opd} {e : Env} {h : Heap} {ol : List Heap}
@[simp] theorem x14 : callX (orc T) T 14 xs d st = cP T 14 false xs d st := callX_pure CLaw23.h14
@[simp] theorem y14 : opD (orc T) T (.call 14 ps) e h ol = dP T 14 false ps e := opD_call CLaw23.h14
theorem f14 (xs : List AV) (hn : xs.length = 1) : callF T 14 xs = retF [.cell 2 (some 3)] false (evX (orc T) T 0 b14 ⟨argEnv xs, [], 1⟩) := callF_eq CLaw23.h14 hn
@[simp] theorem x4 : callX (orc T) T 4 xs d st = cP T 4 false xs d st := callX_pure CLaw23.h4
@[simp] theorem x11 : callX (orc T) T 11 xs d st = cP T 11 false xs d st := callX_pure CLaw23.h11
theorem f11 (xs : List AV) (hn : xs.length = 0) : callF T 11 xs = retF [.t 0] false (evX (orc T) T 0 b11 ⟨argEnv xs, [], 1⟩) := callF_eq CLaw23.h11 hn
end
end Go.Ab
end

section
namespace Go.Ab
def b457 : AX :=
 (.seq
 (.reg [rg 4 (.xop (.box 3) [(.t 1)]), rg 5 (.xop (.box 5) [(.t 2)]), rg 6 (.mov (.c (.b false)))])
 (.seq
 (.seq
 (.reg [mv 20 0, rg 21 (.call 10 [(.t 20), (.c (.i .i64 12)), (.c (.i .i64 2))]), mv 22 21, gd 23 22 false (.load (some 5) (.t 5)),
 gd 24 22 false (.call 380 [(.t 23), (.c (.i .i64 6)), (.c (.i .i64 1))]), rg 25 (.pick (.t 22) (.c (.b true)) (.t 24)), mv 26 25,
 gd 27 26 false (.fad 2 (.t 4)), gd 28 26 false (.load none (.t 27)), gd 29 26 false (.len (.t 28)), gd 30 26 false (.bin .gtr (.t 29) (.c (.i .i64 0))),
 rg 31 (.pick (.t 26) (.c (.b true)) (.t 30))])
 (.cond (.t 31)
 (.seq
 (.reg [rg 32 (.call 11 []), mv 6 32])
 (.pre (.norm false [6]) .ret))
 .skip))
 (.seq
 (.reg [mv 33 0, rg 34 (.call 13 [(.t 33)]), mv 7 34])
 (.seq
 (.reg [rg 35 (.load (some 5) (.t 5)), rg 36 (.call 383 [(.t 35)]), rg 8 (.alloc [(.b false), (.sl [] .nl), (.sl [] .nl), (.sl [] .nl), (.sl [] .nl)]),
 so (.store 5 (.t 8) (.t 36))])
 (.seq
 (.reg [mv 38 7, rg 39 (.load (some 3) (.t 4)), rg 40 (.call 14 [(.t 39)]), rg 41 (.call 12 [(.t 38), (.t 40)]), mv 37 41, rg 42 (.ext (.t 37) 0),
 rg 43 (.ext (.t 37) 1), mv 9 42, mv 10 43])
 (.seq
 (.reg [mv 45 7, rg 46 (.load (some 5) (.t 8)), rg 47 (.call 462 [(.t 45), (.t 46), (.c (.sl [] .nl)), (.c (.i .i64 200))]), mv 44 47, rg 48 (.ext (.t 44) 0),
 rg 49 (.ext (.t 44) 1), rg 11 (.alloc [(.b false), (.sl [] .nl), (.sl [] .nl)]), rg 12 (.alloc [(.i .i64 0), (.i .i64 0), (.i .i64 0), (.i .i64 0)]),
 so (.store 3 (.t 11) (.t 48)), so (.store 4 (.t 12) (.t 49))])
 (.seq
 (.seq
 (.reg [mv 50 10, rg 51 (.un .not (.t 50)), mv 52 51, gd 53 52 false (.load (some 4) (.t 12)),
 gd 54 52 false (.build [(.i .i64 0), (.i .i64 0), (.i .i64 0), (.i .i64 0)] []),
 gd 55 52 false (.eqs true [(0, .int), (1, .int), (2, .int), (3, .int)] (.t 53) (.t 54)), rg 56 (.pick (.t 52) (.c (.b true)) (.t 55))])
 (.cond (.t 56)
 (.seq
 (.reg [rg 57 (.call 11 []), mv 6 57])
 (.pre (.norm false [6]) .ret))
 .skip))
 (.seq
 (.seq
 (.reg [mv 58 9, rg 59 (.call 44 [(.t 58)]), rg 60 (.un .not (.t 59))])
 (.cond (.t 60)
 (.seq
 (.reg [rg 6 (.mov (.c (.b false)))])
 (.pre (.norm false [6]) .ret))
 .skip))
 (.seq
 (.reg [mv 62 9, rg 63 (.load (some 5) (.t 8)), rg 64 (.call 462 [(.t 62), (.t 63), (.c (.sl [] .nl)), (.c (.i .i64 4000))]), mv 61 64, rg 65 (.ext (.t 61) 0),
 rg 66 (.ext (.t 61) 1), rg 13 (.alloc [(.b false), (.sl [] .nl), (.sl [] .nl)]), rg 14 (.alloc [(.i .i64 0), (.i .i64 0), (.i .i64 0), (.i .i64 0)]),
 so (.store 3 (.t 13) (.t 65)), so (.store 4 (.t 14) (.t 66))])
 (.seq
 (.reg [rg 67 (.bsl 3 [(.i .i64 0), (.i .i64 0), (.sl [] .nl)] 0 []), mv 68 7, rg 69 (.app 3 (.t 67) (.t 68)), mv 70 7, rg 71 (.app 3 (.t 69) (.t 70)),
 rg 72 (.build [(.i .i64 0), (.i .i64 0), (.sl [] .nl)] [(0, 1, (.c (.i .i64 7)))]),
 rg 73 (.bsl 3 [(.i .i64 0), (.i .i64 0), (.sl [] .nl)] 1 [(0, (.t 72))]), rg 74 (.app 3 (.t 71) (.t 73)), mv 15 74])
 (.seq
 (.reg [mv 76 15, rg 77 (.load (some 3) (.t 4)), rg 78 (.call 14 [(.t 77)]), rg 79 (.call 12 [(.t 76), (.t 78)]), mv 75 79, rg 80 (.ext (.t 75) 0),
 rg 81 (.ext (.t 75) 1), mv 16 80, mv 17 81])
 (.seq
 (.reg [mv 83 16, rg 84 (.load (some 5) (.t 8)), rg 85 (.call 462 [(.t 83), (.t 84), (.c (.sl [] .nl)), (.c (.i .i64 4000))]), mv 82 85, rg 86 (.ext (.t 82) 0),
 rg 87 (.ext (.t 82) 1), rg 18 (.alloc [(.b false), (.sl [] .nl), (.sl [] .nl)]), rg 19 (.alloc [(.i .i64 0), (.i .i64 0), (.i .i64 0), (.i .i64 0)]),
 so (.store 3 (.t 18) (.t 86)), so (.store 4 (.t 19) (.t 87))])
 (.seq
 (.seq
 (.reg [rg 88 (.fad 0 (.t 14)), rg 89 (.load none (.t 88)), rg 90 (.bin .eql (.t 89) (.c (.i .i64 3))), mv 91 90, gd 92 91 false (.fad 0 (.t 14)),
 gd 93 91 false (.load none (.t 92)), gd 94 91 false (.bin .eql (.t 93) (.c (.i .i64 2))), rg 95 (.pick (.t 91) (.c (.b true)) (.t 94)), mv 96 95,
 gd 97 96 false (.mov (.t 17)), gd 98 96 false (.un .not (.t 97)), rg 99 (.pick (.t 96) (.c (.b true)) (.t 98)), mv 100 99,
 gd 101 100 false (.fad 0 (.t 19)), gd 102 100 false (.load none (.t 101)), gd 103 100 false (.bin .eql (.t 102) (.c (.i .i64 3))),
 rg 104 (.pick (.t 100) (.c (.b true)) (.t 103))])
 (.cond (.t 104)
 (.seq
 (.reg [rg 6 (.mov (.c (.b false)))])
 (.pre (.norm false [6]) .ret))
 .skip))
 (.seq
 (.seq
 (.reg [rg 105 (.fad 0 (.t 14)), rg 106 (.load none (.t 105)), rg 107 (.bin .eql (.t 106) (.c (.i .i64 6))), mv 108 107, gd 109 108 false (.fad 0 (.t 19)),
 gd 110 108 false (.load none (.t 109)), gd 111 108 false (.bin .eql (.t 110) (.c (.i .i64 6))), rg 112 (.pick (.t 108) (.c (.b true)) (.t 111))])
 (.cond (.t 112)
 (.seq
 (.reg [rg 113 (.call 11 []), mv 6 113])
 (.pre (.norm false [6]) .ret))
 .skip))
 (.seq
 (.drawT [mv 114 7, rg 115 (.load (some 3) (.t 4)), rg 116 (.call 14 [(.t 115)]), rg 117 (.call 18 [(.t 114), (.t 116)]), rg 118 (.un .not (.t 117)), mv 119 118,
 gd 120 119 false (.load (some 3) (.t 13)), gd 121 119 false (.call 209 [(.t 120)]), gd 122 119 false (.bin .eql (.t 121) (.c (.i .i64 0))),
 rg 123 (.pick (.t 119) (.c (.b true)) (.t 122)), mv 124 123, gd 125 124 true (.load (some 3) (.t 18)), gd 126 124 true (.load (some 3) (.t 13)),
 gd 127 124 true (.load (some 3) (.t 13)), gd 128 124 true (.call 215 [(.t 126), (.t 127)])]
 [gd 129 124 true (.call 212 [(.t 125), (.t 128)]), rg 130 (.pick (.t 124) (.t 129) (.c (.b false))), mv 131 130, gd 132 131 true (.call 11 []),
 rg 133 (.pick (.t 131) (.t 132) (.c (.b false))), mv 6 133])
 (.pre (.norm false [6]) .ret))))))))))))))))
class CLaw23b (T : Tbl) : Prop where
 h457 : T 457 = some ⟨3, 134, [.t 6], b457, none, false⟩
section
variable {T : Tbl} [CLaw23b T] {d : Option Nat} {st : St} {xs : List AV} {ps : List Opd} {e : Env} {h : Heap} {ol : List Heap}
theorem f457 (xs : List AV) (hn : xs.length = 3) : callF T 457 xs = retF [.t 6] false (evX (orc T) T 0 b457 ⟨argEnv xs, [], 1⟩) := callF_eq CLaw23b.h457 hn
end
end Go.Ab
end

section
namespace Go.Ab
open Go.RowKit
def opU : AOp → List Nat
 | .call u _ => [u]
 | .ifc k _ => [1000000 + k]
 | .inv _ k u _ _ => [1000000 + k, u]
 | _ => []
def cXs : AX → List Nat
 | .reg l => l.flatMap fun o => opU o.op
 | .draw l => l.flatMap fun o => opU o.ao.op
 | .drawT hd tl => (hd.flatMap fun o => opU o.op) ++ tl.flatMap fun o => opU o.op
 | .drawM hd tl => (hd.flatMap fun o => opU o.op) ++ tl.flatMap fun o => opU o.op
 | .seq a b => cXs a ++ cXs b
 | .cond _ x y => cXs x ++ cXs y
 | .block _ c | .loop c | .note c _ | .pre _ c | .scope c | .lp _ _ c _ => cXs c
 | _ => []
structure Agr (R : Nat → Bool) (T T' : Tbl) (O O' : Orc) : Prop where
 tbl : ∀ u, R u = true → T u = T' u
 call : ∀ u xs hb, R u = true → O.call u xs hb = O'.call u xs hb
 loop : ∀ k c st, (∀ u ∈ cXs c, R u = true) → O.loop k c st = O'.loop k c st
section
variable {R : Nat → Bool} {T T' : Tbl} {O O' : Orc}
theorem callX_agr (h : Agr R T T' O O') {u : Nat} (hu : R u = true) {xs : List AV} {d : Option Nat} {st : St} : callX O T u xs d st = callX O' T' u xs d st := by
 unfold callX
 rw [h.tbl u hu]
 simp only [h.call u _ _ hu]
theorem opX_agr (h : Agr R T T' O O') {op : AOp} (hu : ∀ u ∈ opU op, R u = true) {d : Option Nat} {st : St} : opX O T op d st = opX O' T' op d st := by
 cases op <;> simp only [opX]
 case call u args => exact callX_agr h (hu _ (by simp [opU]))
 case ifc k x => unfold tyNum; rw [h.tbl _ (hu _ (by simp [opU]))]
 case inv nm k u r args =>
  have e1 : tyNum T k = tyNum T' k := by unfold tyNum; rw [h.tbl _ (hu _ (by simp [opU]))]
  have e2 : methsT T k = methsT T' k := by unfold methsT; rw [h.tbl _ (hu _ (by simp [opU]))]
  rw [e1, e2]
  simp only [callX_agr h (hu u (by simp [opU]))]
theorem stepX_agr (h : Agr R T T' O O') {o : AO} (hu : ∀ u ∈ opU o.op, R u = true) {st : St} : stepX O T o st = stepX O' T' o st := by
 unfold stepX gX
 simp only [opX_agr h hu]
theorem runX_agr (h : Agr R T T' O O') : ∀ (l : List AO), (∀ o ∈ l, ∀ u ∈ opU o.op, R u = true) → ∀ st, runX O T l st = runX O' T' l st
 | [], _, st => rfl
 | o :: l, hu, st => by
  simp only [runX]
  rw [stepX_agr h (hu o List.mem_cons_self)]
  congr 1
  funext s
  exact runX_agr h l (fun o ho => hu o (List.mem_cons_of_mem _ ho)) s
theorem opD_agr (h : Agr R T T' O O') {op : AOp} (hu : ∀ u ∈ opU op, R u = true) {e : Env} {hp : Heap} {older : List Heap} : opD O T op e hp older = opD O' T' op e hp older := by
 by_cases hap : ∃ z x0 y, op = .app z x0 y
 ·obtain ⟨z, x0, y, rfl⟩ := hap
  by_cases hc : x0 = .c (.sl [] .nl)
  ·subst hc; rfl
  ·rw [opD_app hc, opD_app hc]
 cases op <;> (try exact absurd ⟨_, _, _, rfl⟩ hap) <;> simp only [opD]
 case call u args =>
  rw [h.tbl _ (hu _ (by simp [opU]))]
  simp only [h.call _ _ _ (hu _ (show u ∈ _ by simp [opU]))]
 case ifc k x => unfold tyNum; rw [h.tbl _ (hu _ (by simp [opU]))]
 case inv nm k u r args =>
  have e1 : tyNum T k = tyNum T' k := by unfold tyNum; rw [h.tbl _ (hu _ (by simp [opU]))]
  have e2 : methsT T k = methsT T' k := by unfold methsT; rw [h.tbl _ (hu _ (by simp [opU]))]
  rw [e1, e2, h.tbl u (hu u (by simp [opU]))]
  simp only [h.call u _ _ (hu u (by simp [opU]))]
theorem qX_agr (h : Agr R T T' O O') {o : AO} (hu : ∀ u ∈ opU o.op, R u = true) {e : Env} {hp : Heap} {older : List Heap} : qX O T o e hp older = qX O' T' o e hp older := by
 unfold qX
 simp only [opD_agr h hu]
theorem drawX_agr (h : Agr R T T' O O') : ∀ (l : List DO), (∀ o ∈ l, ∀ u ∈ opU o.ao.op, R u = true) → ∀ e hp clk older pend, drawX O T l e hp clk older pend = drawX O' T' l e hp clk older pend
 | [], _, e, hp, clk, older, pend => rfl
 | o :: l, hu, e, hp, clk, older, pend => by
  have ih := drawX_agr h l (fun o ho => hu o (List.mem_cons_of_mem _ ho))
  simp only [drawX]
  rw [qX_agr h (hu o List.mem_cons_self)]
  simp only [ih]
theorem headX_agr (h : Agr R T T' O O') (tl : List AO) (ht : ∀ o ∈ tl, ∀ u ∈ opU o.op, R u = true) : ∀ (l : List AO), (∀ o ∈ l, ∀ u ∈ opU o.op, R u = true) → ∀ e hp clk, headX O T tl l e hp clk = headX O' T' tl l e hp clk
 | [], _, e, hp, clk => runX_agr h tl ht _
 | o :: l, hu, e, hp, clk => by
  have ih := headX_agr h tl ht l (fun o ho => hu o (List.mem_cons_of_mem _ ho))
  simp only [headX]
  rw [qX_agr h (hu o List.mem_cons_self)]
  simp only [ih]
theorem callM_agr (h : Agr R T T' O O') {u : Nat} (hu : R u = true) {xs : List AV} {d clk : Nat} : callM O T u xs d clk = callM O' T' u xs d clk := by
 unfold callM
 rw [h.tbl u hu]
 simp only [h.call u _ _ hu]
theorem headM_agr (h : Agr R T T' O O') (tl : List AO) (ht : ∀ o ∈ tl, ∀ u ∈ opU o.op, R u = true) (h0 : Heap) (c0 : Nat) : ∀ (l : List AO), (∀ o ∈ l, ∀ u ∈ opU o.op, R u = true) → ∀ e hp clk, headM O T tl h0 c0 l e hp clk = headM O' T' tl h0 c0 l e hp clk
 | [], _, e, hp, clk => runX_agr h tl ht _
 | o :: l, hu, e, hp, clk => by
  have ih := headM_agr h tl ht h0 c0 l (fun o ho => hu o (List.mem_cons_of_mem _ ho))
  simp only [headM]
  rw [qX_agr h (hu o List.mem_cons_self)]
  simp only [ih]
  cases hm : o.op.maker with
  | true => rfl
  | false =>
   cases hst : o.op.isStore with
   | true => rfl
   | false =>
   cases hl : o.op.lentN with
   | none => rfl
   | some ua =>
    have hua : R ua.1 = true := hu o List.mem_cons_self _ (by rw [lentN_spec hl]; simp [opU])
    simp only [callM_agr h hua]
theorem evX_agr (h : Agr R T T' O O') (k : Nat) : ∀ (c : AX), (∀ u ∈ cXs c, R u = true) → ∀ st, evX O T k c st = evX O' T' k c st
 | .skip, _, st => rfl
 | .reg l, hu, st => by
  simp only [evX]
  rw [runX_agr h l fun o ho u hou => hu u (List.mem_flatMap.2 ⟨o, ho, hou⟩)]
 | .draw l, hu, st => by
  simp only [evX]
  rw [drawX_agr h l fun o ho u hou => hu u (List.mem_flatMap.2 ⟨o, ho, hou⟩)]
 | .drawT hd tl, hu, st => by
  simp only [evX]
  rw [headX_agr h tl (fun o ho u hou => hu u (List.mem_append_right _ (List.mem_flatMap.2 ⟨o, ho, hou⟩))) hd (fun o ho u hou => hu u (List.mem_append_left _ (List.mem_flatMap.2 ⟨o, ho, hou⟩)))]
 | .drawM hd tl, hu, st => by
  simp only [evX]
  rw [headM_agr h tl (fun o ho u hou => hu u (List.mem_append_right _ (List.mem_flatMap.2 ⟨o, ho, hou⟩))) _ _ hd (fun o ho u hou => hu u (List.mem_append_left _ (List.mem_flatMap.2 ⟨o, ho, hou⟩)))]
 | .bad, _, st => rfl
 | .prim f, _, st => rfl
 | .seq a b, hu, st => by
  simp only [evX]
  rw [evX_agr h k a fun u hm => hu u (List.mem_append_left _ hm)]
  congr 1
  funext r
  rw [evX_agr h k b fun u hm => hu u (List.mem_append_right _ hm)]
 | .cond c x y, hu, st => by
  simp only [evX]
  rw [evX_agr h k x fun u hm => hu u (List.mem_append_left _ hm), evX_agr h k y fun u hm => hu u (List.mem_append_right _ hm)]
 | .block id c, hu, st => by
  simp only [evX]
  rw [evX_agr h k c hu]
 | .loop c, hu, st => h.loop k c st hu
 | .exit id, _, st => rfl
 | .ret, _, st => rfl
 | .note c g, hu, st => by
  simp only [evX]
  rw [evX_agr h k c hu]
 | .pre g c, hu, st => by
  simp only [evX]
  congr 1
  funext s
  exact evX_agr h k c hu s
 | .scope c, hu, st => by
  simp only [evX]
  exact evX_agr h k c hu st
 | .lp id g c g2, hu, st => by
  simp only [evX, h.loop k c _ hu]
theorem nextO_agr (hc : ∀ u af, R u = true → T u = some af → ∀ v ∈ cXs af.body, R v = true) (h : Agr R T T' O O') : Agr R T T' (nextO T O) (nextO T' O') where
 tbl := h.tbl
 call u xs hb hu := by
  simp only [nextO]
  rw [← h.tbl u hu]
  cases ht : T u with
  | none => rfl
  | some af =>
   simp only
   rw [evX_agr h hb.length af.body (hc u af hu ht)]
 loop k c st hu := by
  simp only [nextO]
  rw [evX_agr h k c hu]
  congr 1
  funext r
  rw [h.loop k c _ hu]
theorem orcN_agr (ht : ∀ u, R u = true → T u = T' u) (hc : ∀ u af, R u = true → T u = some af → ∀ v ∈ cXs af.body, R v = true) : ∀ n, Agr R T T' (orcN T n) (orcN T' n)
 | 0 => ⟨ht, fun _ _ _ _ => rfl, fun _ _ _ _ => rfl⟩
 | n + 1 => nextO_agr hc (orcN_agr ht hc n)
theorem orc_agr (ht : ∀ u, R u = true → T u = T' u) (hc : ∀ u af, R u = true → T u = some af → ∀ v ∈ cXs af.body, R v = true) : Agr R T T' (orc T) (orc T') := by
 refine ⟨ht, fun u xs hb hu => ?_, fun k c st hu => ?_⟩
 ·simp only [orc]
  congr 1
  funext n
  exact (orcN_agr ht hc n).call u xs hb hu
 ·simp only [orc]
  congr 1
  funext n
  exact (orcN_agr ht hc n).loop k c st hu
end
theorem mem_of_lookup {l : List (Nat × AFx)} {u : Nat} {af : AFx} (h : l.lookup u = some af) : (u, af) ∈ l := by
 induction l with
 | nil => cases h
 | cons q l ih =>
  obtain ⟨q1, q2⟩ := q
  simp only [List.lookup_cons] at h
  split at h
  ·rename_i he
   have := eq_of_beq he
   subst this
   cases h
   exact List.mem_cons_self
  ·exact List.mem_cons_of_mem _ (ih h)
structure Part (l l' : List (Nat × AFx)) : Prop where
 sub : ∀ p ∈ l', l.lookup p.1 = some p.2
 clo : (l'.all fun p => (cXs p.2.body).all fun v => (l'.lookup v).isSome || (l.lookup v).isNone) = true
theorem Part.agr {l l' : List (Nat × AFx)} (h : Part l l') : Agr (fun u => (l'.lookup u).isSome || (l.lookup u).isNone) (fun u => l.lookup u) (fun u => l'.lookup u) (orc fun u => l.lookup u) (orc fun u => l'.lookup u) := by
 refine orc_agr (fun v hv => ?_) (fun v a hv hva w hw => ?_)
 ·cases hv2 : l'.lookup v with
  | none =>
   simp only [hv2] at hv
   cases hv3 : l.lookup v with
   | none => rfl
   | some a => rw [hv3] at hv; cases hv
  | some a => exact h.sub _ (mem_of_lookup hv2)
 ·cases hv2 : l'.lookup v with
  | none => simp only [hv2, hva] at hv; cases hv
  | some b =>
   have hb := mem_of_lookup hv2
   have h1 := h.sub _ hb
   simp only at hva h1
   rw [hva] at h1
   cases h1
   exact List.all_eq_true.1 (List.all_eq_true.1 h.clo _ hb) w hw
theorem Part.ev {l l' : List (Nat × AFx)} (h : Part l l') {c : AX} (hc : ((cXs c).all fun v => (l'.lookup v).isSome) = true) {st : St} {r : Option (Ex × St)}
  (he : evX (orc fun u => l.lookup u) (fun u => l.lookup u) 0 c st = r) : evX (orc fun u => l'.lookup u) (fun u => l'.lookup u) 0 c st = r := by
 rw [← evX_agr h.agr 0 c (fun v hv => by rw [List.all_eq_true.1 hc v hv]; rfl) st]
 exact he
theorem Part.call {l l' : List (Nat × AFx)} (h : Part l l') {u : Nat} (hu : (l'.lookup u).isSome = true) {xs : List AV} {r : Option AV} (he : callF (fun u => l.lookup u) u xs = r) : callF (fun u => l'.lookup u) u xs = r := by
 rw [← he]
 unfold callF
 rw [h.agr.call u xs [] (by rw [hu]; rfl)]
end Go.Ab
end
