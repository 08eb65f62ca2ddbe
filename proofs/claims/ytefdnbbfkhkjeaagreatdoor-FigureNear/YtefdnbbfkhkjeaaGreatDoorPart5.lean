/-
  A calculus of values, boxes and code, and what functions of the program compute, proved in it.
  Conditions: none beyond those that the theorems state. (Part 5: GcRef08, GcRef09, GcRef10, GcRef11, GcLaw09, GcLaw11, GcLaw10, GcLenD, Ax10.)
-/
import Derived.Test.YtefdnbbfkhkjeaaGreatDoorPart4

set_option linter.unusedSectionVars false
set_option linter.unusedVariables false
set_option linter.unusedSimpArgs false
set_option linter.unnecessarySimpa false

section
namespace Go.Ab
def b39 : AX :=
 (.seq
 (.reg [⟨(some 1), none, .xop (.box 2) [(.t 0)]⟩,
 ⟨(some 2), none, .alloc [(.b false), (.sl [] .nl)]⟩])
 (.seq
 (.reg [⟨(some 4), none, .fad 1 (.t 1)⟩,
 ⟨(some 5), none, .load none (.t 4)⟩,
 ⟨(some 6), none, .call 43 [(.t 5)]⟩,
 ⟨(some 3), none, .mov (.t 6)⟩])
 (.seq
 (.reg [⟨(some 7), none, .fad 0 (.t 1)⟩,
 ⟨(some 8), none, .load none (.t 7)⟩,
 ⟨(some 9), none, .mov (.t 8)⟩,
 ⟨(some 10), (some (9, true)), .mov (.t 3)⟩,
 ⟨(some 11), (some (9, true)), .len (.t 10)⟩,
 ⟨(some 12), (some (9, true)), .bin .gtr (.t 11) (.c (.i .i64 0))⟩,
 ⟨(some 13), none, .pick (.t 9) (.t 12) (.c (.b false))⟩,
 ⟨(some 14), none, .mov (.t 3)⟩,
 ⟨(some 15), none, .build [(.b false), (.sl [] .nl)] [(0, 1, (.t 13)), (1, 1, (.t 14))]⟩,
 ⟨none, none, .store 2 (.t 2) (.t 15)⟩])
 (.pre (.norm false [2]) .ret))))
def b21 : AX :=
 (.seq
 (.reg [⟨(some 2), none, .xop (.box 2) [(.t 0)]⟩,
 ⟨(some 3), none, .xop (.box 2) [(.t 1)]⟩,
 ⟨(some 4), none, .mov (.c (.b false))⟩])
 (.seq
 (.reg [⟨(some 5), none, .fad 0 (.t 2)⟩,
 ⟨(some 6), none, .load none (.t 5)⟩,
 ⟨(some 7), none, .fad 0 (.t 3)⟩,
 ⟨(some 8), none, .load none (.t 7)⟩,
 ⟨(some 9), none, .eqb false (.t 6) (.t 8)⟩,
 ⟨(some 10), none, .mov (.t 9)⟩,
 ⟨(some 11), (some (10, true)), .fad 1 (.t 2)⟩,
 ⟨(some 12), (some (10, true)), .load none (.t 11)⟩,
 ⟨(some 13), (some (10, true)), .fad 1 (.t 3)⟩,
 ⟨(some 14), (some (10, true)), .load none (.t 13)⟩,
 ⟨(some 15), (some (10, true)), .call 54 [(.t 12), (.t 14)]⟩,
 ⟨(some 16), none, .pick (.t 10) (.t 15) (.c (.b false))⟩,
 ⟨(some 4), none, .mov (.t 16)⟩])
 (.pre (.norm false [4]) .ret)))
def b30 : AX :=
 (.seq
 (.reg [⟨(some 1), none, .xop (.box 2) [(.t 0)]⟩,
 ⟨(some 2), none, .mov (.c (.i .i64 0))⟩])
 (.seq
 (.reg [⟨(some 4), none, .load (some 2) (.t 1)⟩,
 ⟨(some 5), none, .call 39 [(.t 4)]⟩,
 ⟨(some 3), none, .alloc [(.b false), (.sl [] .nl)]⟩,
 ⟨none, none, .store 2 (.t 3) (.t 5)⟩])
 (.seq
 (.seq
 (.reg [⟨(some 6), none, .fad 1 (.t 3)⟩,
 ⟨(some 7), none, .load none (.t 6)⟩,
 ⟨(some 8), none, .len (.t 7)⟩,
 ⟨(some 9), none, .bin .eql (.t 8) (.c (.i .i64 0))⟩])
 (.cond (.t 9)
 (.seq
 (.reg [⟨(some 2), none, .mov (.c (.i .i64 0))⟩])
 (.pre (.norm false [2]) .ret))
 .skip))
 (.seq
 (.seq
 (.reg [⟨(some 10), none, .fad 0 (.t 3)⟩,
 ⟨(some 11), none, .load none (.t 10)⟩])
 (.cond (.t 11)
 (.seq
 (.reg [⟨(some 2), none, .mov (.c (.i .i64 (-1)))⟩])
 (.pre (.norm false [2]) .ret))
 .skip))
 (.seq
 (.reg [⟨(some 2), none, .mov (.c (.i .i64 1))⟩])
 (.pre (.norm false [2]) .ret))))))
def b26 : AX :=
 (.seq
 (.reg [⟨(some 1), none, .xop (.box 2) [(.t 0)]⟩,
 ⟨(some 2), none, .alloc [(.b false), (.sl [] .nl)]⟩])
 (.seq
 (.reg [⟨(some 3), none, .fad 0 (.t 1)⟩,
 ⟨(some 4), none, .load none (.t 3)⟩,
 ⟨(some 5), none, .un .not (.t 4)⟩,
 ⟨(some 6), none, .fad 1 (.t 1)⟩,
 ⟨(some 7), none, .load none (.t 6)⟩,
 ⟨(some 8), none, .build [(.b false), (.sl [] .nl)] [(0, 1, (.t 5)), (1, 1, (.t 7))]⟩,
 ⟨(some 9), none, .call 39 [(.t 8)]⟩,
 ⟨none, none, .store 2 (.t 2) (.t 9)⟩])
 (.pre (.norm false [2]) .ret)))
def b24 : AX :=
 (.seq
 (.reg [⟨(some 2), none, .xop (.box 2) [(.t 0)]⟩,
 ⟨(some 3), none, .xop (.box 2) [(.t 1)]⟩,
 ⟨(some 4), none, .alloc [(.b false), (.sl [] .nl)]⟩])
 (.seq
 (.seq
 (.reg [⟨(some 5), none, .fad 0 (.t 2)⟩,
 ⟨(some 6), none, .load none (.t 5)⟩,
 ⟨(some 7), none, .fad 0 (.t 3)⟩,
 ⟨(some 8), none, .load none (.t 7)⟩,
 ⟨(some 9), none, .eqb false (.t 6) (.t 8)⟩])
 (.cond (.t 9)
 (.seq
 (.drawT [⟨(some 10), none, .fad 0 (.t 2)⟩,
 ⟨(some 11), none, .load none (.t 10)⟩,
 ⟨(some 12), none, .fad 1 (.t 2)⟩,
 ⟨(some 13), none, .load none (.t 12)⟩,
 ⟨(some 14), none, .fad 1 (.t 3)⟩,
 ⟨(some 15), none, .load none (.t 14)⟩,
 ⟨(some 16), none, .call 58 [(.t 13), (.t 15)]⟩]
 [⟨(some 17), none, .build [(.b false), (.sl [] .nl)] [(0, 1, (.t 11)), (1, 1, (.t 16))]⟩,
 ⟨(some 18), none, .call 39 [(.t 17)]⟩,
 ⟨none, none, .store 2 (.t 4) (.t 18)⟩])
 (.pre (.norm false [4]) .ret))
 .skip))
 (.seq
 (.seq
 (.reg [⟨(some 19), none, .fad 1 (.t 2)⟩,
 ⟨(some 20), none, .load none (.t 19)⟩,
 ⟨(some 21), none, .fad 1 (.t 3)⟩,
 ⟨(some 22), none, .load none (.t 21)⟩,
 ⟨(some 23), none, .call 52 [(.t 20), (.t 22)]⟩,
 ⟨(some 24), none, .bin .lss (.t 23) (.c (.i .i64 0))⟩])
 (.cond (.t 24)
 (.seq
 (.drawT [⟨(some 25), none, .fad 0 (.t 3)⟩,
 ⟨(some 26), none, .load none (.t 25)⟩,
 ⟨(some 27), none, .fad 1 (.t 3)⟩,
 ⟨(some 28), none, .load none (.t 27)⟩,
 ⟨(some 29), none, .fad 1 (.t 2)⟩,
 ⟨(some 30), none, .load none (.t 29)⟩,
 ⟨(some 31), none, .call 59 [(.t 28), (.t 30)]⟩]
 [⟨(some 32), none, .build [(.b false), (.sl [] .nl)] [(0, 1, (.t 26)), (1, 1, (.t 31))]⟩,
 ⟨(some 33), none, .call 39 [(.t 32)]⟩,
 ⟨none, none, .store 2 (.t 4) (.t 33)⟩])
 (.pre (.norm false [4]) .ret))
 .skip))
 (.seq
 (.drawT [⟨(some 34), none, .fad 0 (.t 2)⟩,
 ⟨(some 35), none, .load none (.t 34)⟩,
 ⟨(some 36), none, .fad 1 (.t 2)⟩,
 ⟨(some 37), none, .load none (.t 36)⟩,
 ⟨(some 38), none, .fad 1 (.t 3)⟩,
 ⟨(some 39), none, .load none (.t 38)⟩,
 ⟨(some 40), none, .call 59 [(.t 37), (.t 39)]⟩]
 [⟨(some 41), none, .build [(.b false), (.sl [] .nl)] [(0, 1, (.t 35)), (1, 1, (.t 40))]⟩,
 ⟨(some 42), none, .call 39 [(.t 41)]⟩,
 ⟨none, none, .store 2 (.t 4) (.t 42)⟩])
 (.pre (.norm false [4]) .ret)))))
def b28 : AX :=
 (.seq
 (.reg [⟨(some 2), none, .xop (.box 2) [(.t 0)]⟩,
 ⟨(some 3), none, .xop (.box 2) [(.t 1)]⟩,
 ⟨(some 4), none, .alloc [(.b false), (.sl [] .nl)]⟩])
 (.seq
 (.drawT [⟨(some 5), none, .fad 0 (.t 2)⟩,
 ⟨(some 6), none, .load none (.t 5)⟩,
 ⟨(some 7), none, .fad 0 (.t 3)⟩,
 ⟨(some 8), none, .load none (.t 7)⟩,
 ⟨(some 9), none, .eqb true (.t 6) (.t 8)⟩,
 ⟨(some 10), none, .fad 1 (.t 2)⟩,
 ⟨(some 11), none, .load none (.t 10)⟩,
 ⟨(some 12), none, .fad 1 (.t 3)⟩,
 ⟨(some 13), none, .load none (.t 12)⟩,
 ⟨(some 14), none, .call 61 [(.t 11), (.t 13)]⟩]
 [⟨(some 15), none, .build [(.b false), (.sl [] .nl)] [(0, 1, (.t 9)), (1, 1, (.t 14))]⟩,
 ⟨(some 16), none, .call 39 [(.t 15)]⟩,
 ⟨none, none, .store 2 (.t 4) (.t 16)⟩])
 (.pre (.norm false [4]) .ret)))
def b31 : AX :=
 (.seq
 (.reg [⟨(some 2), none, .xop (.box 2) [(.t 0)]⟩,
 ⟨(some 3), none, .xop (.box 2) [(.t 1)]⟩,
 ⟨(some 4), none, .alloc [(.b false), (.sl [] .nl)]⟩,
 ⟨(some 5), none, .alloc [(.b false), (.sl [] .nl)]⟩])
 (.seq
 (.reg [⟨(some 10), none, .fad 1 (.t 2)⟩,
 ⟨(some 11), none, .load none (.t 10)⟩,
 ⟨(some 12), none, .fad 1 (.t 3)⟩,
 ⟨(some 13), none, .load none (.t 12)⟩,
 ⟨(some 14), none, .call 63 [(.t 11), (.t 13)]⟩,
 ⟨(some 9), none, .mov (.t 14)⟩,
 ⟨(some 15), none, .ext (.t 9) 0⟩,
 ⟨(some 16), none, .ext (.t 9) 1⟩,
 ⟨(some 6), none, .mov (.t 15)⟩,
 ⟨(some 7), none, .mov (.t 16)⟩])
 (.seq
 (.seq
 (.reg [⟨(some 17), none, .fad 0 (.t 2)⟩,
 ⟨(some 18), none, .load none (.t 17)⟩,
 ⟨(some 19), none, .fad 0 (.t 3)⟩,
 ⟨(some 20), none, .load none (.t 19)⟩,
 ⟨(some 21), none, .eqb true (.t 18) (.t 20)⟩,
 ⟨(some 22), none, .mov (.t 21)⟩,
 ⟨(some 23), (some (22, true)), .mov (.t 7)⟩,
 ⟨(some 24), (some (22, true)), .len (.t 23)⟩,
 ⟨(some 25), (some (22, true)), .bin .gtr (.t 24) (.c (.i .i64 0))⟩,
 ⟨(some 26), none, .pick (.t 22) (.t 25) (.c (.b false))⟩])
 (.cond (.t 26)
 (.reg [⟨(some 27), none, .mov (.t 6)⟩,
 ⟨(some 28), none, .bsl 1 [(u32 0)] 1 [(0, (.c (u32 1)))]⟩,
 ⟨(some 29), none, .call 58 [(.t 27), (.t 28)]⟩,
 ⟨(some 6), none, .mov (.t 29)⟩])
 .skip))
 (.seq
 (.reg [⟨(some 30), none, .fad 0 (.t 2)⟩,
 ⟨(some 31), none, .load none (.t 30)⟩,
 ⟨(some 32), none, .fad 0 (.t 3)⟩,
 ⟨(some 33), none, .load none (.t 32)⟩,
 ⟨(some 34), none, .eqb true (.t 31) (.t 33)⟩,
 ⟨(some 35), none, .mov (.t 6)⟩,
 ⟨(some 36), none, .build [(.b false), (.sl [] .nl)] [(0, 1, (.t 34)), (1, 1, (.t 35))]⟩,
 ⟨(some 37), none, .call 39 [(.t 36)]⟩,
 ⟨(some 8), none, .alloc [(.b false), (.sl [] .nl)]⟩,
 ⟨none, none, .store 2 (.t 8) (.t 37)⟩])
 (.seq
 (.drawT [⟨(some 38), none, .load (some 2) (.t 8)⟩,
 ⟨(some 39), none, .load (some 2) (.t 2)⟩,
 ⟨(some 40), none, .load (some 2) (.t 8)⟩,
 ⟨(some 41), none, .load (some 2) (.t 3)⟩,
 ⟨(some 42), none, .call 28 [(.t 40), (.t 41)]⟩,
 ⟨(some 43), none, .call 26 [(.t 42)]⟩,
 ⟨(some 44), none, .call 24 [(.t 39), (.t 43)]⟩]
 [⟨none, none, .store 2 (.t 4) (.t 38)⟩,
 ⟨none, none, .store 2 (.t 5) (.t 44)⟩])
 (.pre (.norm false [4, 5]) .ret))))))
def b35 : AX :=
 (.seq
 (.reg [⟨(some 1), none, .xop (.box 2) [(.t 0)]⟩,
 ⟨(some 2), none, .mov (.c (.s []))⟩])
 (.seq
 (.reg [⟨(some 4), none, .fad 1 (.t 1)⟩,
 ⟨(some 5), none, .load none (.t 4)⟩,
 ⟨(some 6), none, .call 69 [(.t 5)]⟩,
 ⟨(some 3), none, .mov (.t 6)⟩])
 (.seq
 (.seq
 (.reg [⟨(some 7), none, .load (some 2) (.t 1)⟩,
 ⟨(some 8), none, .call 30 [(.t 7)]⟩,
 ⟨(some 9), none, .bin .lss (.t 8) (.c (.i .i64 0))⟩])
 (.cond (.t 9)
 (.reg [⟨(some 10), none, .mov (.t 3)⟩,
 ⟨(some 11), none, .bin .add (.c (.s [45])) (.t 10)⟩,
 ⟨(some 3), none, .mov (.t 11)⟩])
 .skip))
 (.seq
 (.reg [⟨(some 12), none, .mov (.t 3)⟩,
 ⟨(some 2), none, .mov (.t 12)⟩])
 (.pre (.norm false [2]) .ret)))))
def b33 : AX :=
 (.seq
 (.reg [⟨(some 2), none, .alloc [(.b false), (.sl [] .nl)]⟩,
 ⟨(some 3), none, .mov (.c (.i .i64 0))⟩])
 (.seq
 (.reg [⟨(some 7), none, .mov (.t 0)⟩,
 ⟨(some 8), none, .lens (.t 7)⟩,
 ⟨(some 9), none, .bin .gtr (.t 8) (.c (.i .i64 0))⟩,
 ⟨(some 10), none, .mov (.t 9)⟩,
 ⟨(some 11), (some (10, true)), .mov (.t 0)⟩,
 ⟨(some 12), (some (10, true)), .ixs (.t 11) (.c (.i .i64 0))⟩,
 ⟨(some 13), (some (10, true)), .bin .eql (.t 12) (.c (u8 45))⟩,
 ⟨(some 14), none, .pick (.t 10) (.t 13) (.c (.b false))⟩,
 ⟨(some 4), none, .mov (.t 14)⟩])
 (.seq
 (.reg [⟨(some 5), none, .mov (.c (.i .i64 0))⟩])
 (.seq
 (.seq
 (.reg [⟨(some 15), none, .mov (.t 4)⟩])
 (.cond (.t 15)
 (.reg [⟨(some 5), none, .mov (.c (.i .i64 1))⟩])
 .skip))
 (.seq
 (.reg [⟨(some 16), none, .mov (.t 0)⟩,
 ⟨(some 17), none, .mov (.t 5)⟩,
 ⟨(some 18), none, .slstr (.t 16) (some (.t 17)) none⟩,
 ⟨(some 19), none, .call 66 [(.t 18)]⟩,
 ⟨(some 6), none, .mov (.t 19)⟩])
 (.seq
 (.seq
 (.reg [⟨(some 20), none, .mov (.t 6)⟩,
 ⟨(some 21), none, .bin .geq (.t 20) (.c (.i .i64 0))⟩])
 (.cond (.t 21)
 (.seq
 (.reg [⟨(some 22), none, .build [(.b false), (.sl [] .nl)] []⟩,
 ⟨(some 23), none, .mov (.t 5)⟩,
 ⟨(some 24), none, .mov (.t 6)⟩,
 ⟨(some 25), none, .bin .add (.t 23) (.t 24)⟩,
 ⟨none, none, .store 2 (.t 2) (.t 22)⟩,
 ⟨(some 3), none, .mov (.t 25)⟩])
 (.pre (.norm false [2, 3]) .ret))
 .skip))
 (.seq
 (.reg [⟨(some 26), none, .mov (.t 4)⟩,
 ⟨(some 27), none, .mov (.t 0)⟩,
 ⟨(some 28), none, .mov (.t 5)⟩,
 ⟨(some 29), none, .slstr (.t 27) (some (.t 28)) none⟩,
 ⟨(some 30), none, .call 67 [(.t 29)]⟩,
 ⟨(some 31), none, .build [(.b false), (.sl [] .nl)] [(0, 1, (.t 26)), (1, 1, (.t 30))]⟩,
 ⟨(some 32), none, .call 39 [(.t 31)]⟩,
 ⟨none, none, .store 2 (.t 2) (.t 32)⟩,
 ⟨(some 3), none, .mov (.c (.i .i64 (-1)))⟩])
 (.pre (.norm false [2, 3]) .ret))))))))
class CRef08 (T : Tbl) : Prop extends CRef07 T where
 h39 : T 39 = some ⟨1, 16, [.cell 2 (some 2)], b39, none, false⟩
 h21 : T 21 = some ⟨2, 17, [.t 4], b21, none, false⟩
 h30 : T 30 = some ⟨1, 12, [.t 2], b30, none, false⟩
 h26 : T 26 = some ⟨1, 10, [.cell 2 (some 2)], b26, none, false⟩
 h24 : T 24 = some ⟨2, 43, [.cell 4 (some 2)], b24, none, false⟩
 h28 : T 28 = some ⟨2, 17, [.cell 4 (some 2)], b28, none, false⟩
 h31 : T 31 = some ⟨2, 45, [.cell 4 (some 2), .cell 5 (some 2)], b31, none, false⟩
 h35 : T 35 = some ⟨1, 13, [.t 2], b35, none, false⟩
 h33 : T 33 = some ⟨1, 33, [.cell 2 (some 2), .t 3], b33, none, false⟩
section
variable {T : Tbl} [CRef08 T] {d : Option Nat} {st : St}
@[simp] theorem x39 (xs : List AV) : callX (orc T) T 39 xs d st = bL (frzL st.heap xs) fun ys => cR (callF T 39 (ys.map (wkIf false))) xs d st := callX_pure CRef08.h39
@[simp] theorem x21 (xs : List AV) : callX (orc T) T 21 xs d st = bL (frzL st.heap xs) fun ys => cR (callF T 21 (ys.map (wkIf false))) xs d st := callX_pure CRef08.h21
@[simp] theorem x30 (xs : List AV) : callX (orc T) T 30 xs d st = bL (frzL st.heap xs) fun ys => cR (callF T 30 (ys.map (wkIf false))) xs d st := callX_pure CRef08.h30
@[simp] theorem x26 (xs : List AV) : callX (orc T) T 26 xs d st = bL (frzL st.heap xs) fun ys => cR (callF T 26 (ys.map (wkIf false))) xs d st := callX_pure CRef08.h26
@[simp] theorem x24 (xs : List AV) : callX (orc T) T 24 xs d st = bL (frzL st.heap xs) fun ys => cR (callF T 24 (ys.map (wkIf false))) xs d st := callX_pure CRef08.h24
@[simp] theorem x28 (xs : List AV) : callX (orc T) T 28 xs d st = bL (frzL st.heap xs) fun ys => cR (callF T 28 (ys.map (wkIf false))) xs d st := callX_pure CRef08.h28
@[simp] theorem x31 (xs : List AV) : callX (orc T) T 31 xs d st = bL (frzL st.heap xs) fun ys => cR (callF T 31 (ys.map (wkIf false))) xs d st := callX_pure CRef08.h31
@[simp] theorem x35 (xs : List AV) : callX (orc T) T 35 xs d st = bL (frzL st.heap xs) fun ys => cR (callF T 35 (ys.map (wkIf false))) xs d st := callX_pure CRef08.h35
@[simp] theorem x33 (xs : List AV) : callX (orc T) T 33 xs d st = bL (frzL st.heap xs) fun ys => cR (callF T 33 (ys.map (wkIf false))) xs d st := callX_pure CRef08.h33
end
end Go.Ab
end

section
namespace Go.Ab
def b231 : AX :=
 (.seq
 (.reg [rg 1 (.xop (.box 3) [(.t 0)]), rg 2 (.alloc [(.b false), (.sl [] .nl), (.sl [] .nl)])])
 (.seq
 (.reg [rg 6 (.fad 2 (.t 1)), rg 7 (.load none (.t 6)), rg 8 (.call 43 [(.t 7)]), mv 3 8])
 (.seq
 (.reg [rg 9 (.fad 1 (.t 1)), rg 10 (.load none (.t 9)), rg 11 (.call 43 [(.t 10)]), mv 4 11])
 (.seq
 (.seq
 (.reg [mv 12 3, rg 13 (.len (.t 12)), rg 14 (.bin .eql (.t 13) (.c (.i .i64 0))), mv 15 14, gd 16 15 false (.mov (.t 4)), gd 17 15 false (.len (.t 16)),
 gd 18 15 false (.bin .eql (.t 17) (.c (.i .i64 0))), rg 19 (.pick (.t 15) (.c (.b true)) (.t 18))])
 (.cond (.t 19)
 (.seq
 (.reg [rg 20 (.bsl 1 [(u32 0)] 0 []), rg 21 (.bsl 1 [(u32 0)] 1 [(0, (.c (u32 1)))]),
 rg 22 (.build [(.b false), (.sl [] .nl), (.sl [] .nl)] [(1, 1, (.t 20)), (2, 1, (.t 21))]), so (.store 3 (.t 2) (.t 22))])
 (.pre (.norm false [2]) .ret))
 .skip))
 (.seq
 (.seq
 (.reg [mv 23 3, rg 24 (.call 229 [(.t 23)]), rg 25 (.un .not (.t 24))])
 (.cond (.t 25)
 (.seq
 (.reg [mv 26 4, mv 27 3, rg 28 (.call 228 [(.t 26), (.t 27)]), mv 5 28])
 (.seq
 (.reg [mv 29 4, mv 30 5, rg 31 (.call 230 [(.t 29), (.t 30)]), mv 4 31])
 (.reg [mv 32 3, mv 33 5, rg 34 (.call 230 [(.t 32), (.t 33)]), mv 3 34])))
 .skip))
 (.seq
 (.reg [rg 35 (.fad 0 (.t 1)), rg 36 (.load none (.t 35)), mv 37 4, mv 38 3,
 rg 39 (.build [(.b false), (.sl [] .nl), (.sl [] .nl)] [(0, 1, (.t 36)), (1, 1, (.t 37)), (2, 1, (.t 38))]), so (.store 3 (.t 2) (.t 39))])
 (.pre (.norm false [2]) .ret)))))))
def b232 : AX :=
 (.seq
 (.reg [rg 2 (.alloc [(.b false), (.sl [] .nl), (.sl [] .nl)])])
 (.seq
 (.seq
 (.reg [mv 3 0, rg 4 (.bin .lss (.t 3) (.c (.i .i64 0)))])
 (.cond (.t 4)
 (.seq
 (.reg [mv 5 0, rg 6 (.bin .add (.t 5) (.c (.i .i64 1))), rg 7 (.un .neg (.t 6)), rg 8 (.conv .u64 (.t 7)), rg 9 (.call 353 [(.t 8)]),
 rg 10 (.bsl 1 [(u32 0)] 1 [(0, (.c (u32 1)))]), rg 11 (.call 58 [(.t 9), (.t 10)]), rg 12 (.bsl 1 [(u32 0)] 1 [(0, (.c (u32 1)))]),
 rg 13 (.build [(.b false), (.sl [] .nl), (.sl [] .nl)] [(0, 1, (.c (.b true))), (1, 1, (.t 11)), (2, 1, (.t 12))]), rg 14 (.call 231 [(.t 13)]),
 so (.store 3 (.t 2) (.t 14))])
 (.pre (.norm false [2]) .ret))
 .skip))
 (.seq
 (.reg [mv 15 0, rg 16 (.conv .u64 (.t 15)), rg 17 (.call 353 [(.t 16)]), rg 18 (.bsl 1 [(u32 0)] 1 [(0, (.c (u32 1)))]),
 rg 19 (.build [(.b false), (.sl [] .nl), (.sl [] .nl)] [(1, 1, (.t 17)), (2, 1, (.t 18))]), rg 20 (.call 231 [(.t 19)]), so (.store 3 (.t 2) (.t 20))])
 (.pre (.norm false [2]) .ret))))
def b233 : AX :=
 (.seq
 (.reg [rg 2 (.xop (.box 3) [(.t 0)]), rg 3 (.xop (.box 3) [(.t 1)]), rg 4 (.mov (.c (.b false)))])
 (.seq
 (.reg [rg 5 (.fad 0 (.t 2)), rg 6 (.load none (.t 5)), rg 7 (.fad 0 (.t 3)), rg 8 (.load none (.t 7)), rg 9 (.eqb false (.t 6) (.t 8)), mv 10 9,
 gd 11 10 true (.fad 1 (.t 2)), gd 12 10 true (.load none (.t 11)), gd 13 10 true (.fad 1 (.t 3)), gd 14 10 true (.load none (.t 13)),
 gd 15 10 true (.call 54 [(.t 12), (.t 14)]), rg 16 (.pick (.t 10) (.t 15) (.c (.b false))), mv 17 16, gd 18 17 true (.fad 2 (.t 2)),
 gd 19 17 true (.load none (.t 18)), gd 20 17 true (.fad 2 (.t 3)), gd 21 17 true (.load none (.t 20)), gd 22 17 true (.call 54 [(.t 19), (.t 21)]),
 rg 23 (.pick (.t 17) (.t 22) (.c (.b false))), mv 4 23])
 (.pre (.norm false [4]) .ret)))
def b247 : AX :=
 (.seq
 (.reg [rg 2 (.xop (.box 3) [(.t 0)]), rg 4 (.mov (.c (.b false)))])
 (.seq
 (.reg [rg 5 (.fad 1 (.t 2)), rg 6 (.load none (.t 5)), rg 7 (.len (.t 6)), mv 8 1, rg 9 (.bin .gtr (.t 7) (.t 8)), mv 10 9, gd 11 10 false (.fad 2 (.t 2)),
 gd 12 10 false (.load none (.t 11)), gd 13 10 false (.len (.t 12)), gd 14 10 false (.mov (.t 1)), gd 15 10 false (.bin .gtr (.t 13) (.t 14)),
 rg 16 (.pick (.t 10) (.c (.b true)) (.t 15)), mv 4 16])
 (.pre (.norm false [4]) .ret)))
def b353 : AX :=
 (.seq
 (.reg [rg 2 (.mov (.c (.sl [] .nl)))])
 (.seq
 (.reg [mv 3 0, rg 4 (.bin .rem (.t 3) (.c (u64 4294967296))), rg 5 (.conv .u32 (.t 4)), mv 6 0, rg 7 (.bin .quo (.t 6) (.c (u64 4294967296))),
 rg 8 (.conv .u32 (.t 7)), rg 9 (.bsl 1 [(u32 0)] 2 [(0, (.t 5)), (1, (.t 8))]), rg 10 (.call 43 [(.t 9)]), mv 2 10])
 (.pre (.norm false [2]) .ret)))
class CRef09 (T : Tbl) : Prop where
 h231 : T 231 = some ⟨1, 40, [.cell 2 (some 3)], b231, none, false⟩
 h232 : T 232 = some ⟨1, 21, [.cell 2 (some 3)], b232, none, false⟩
 h233 : T 233 = some ⟨2, 24, [.t 4], b233, none, false⟩
 h247 : T 247 = some ⟨2, 17, [.t 4], b247, none, false⟩
 h353 : T 353 = some ⟨1, 11, [.t 2], b353, none, false⟩
section
variable {T : Tbl} [CRef09 T] {d : Option Nat} {st : St} {xs : List AV} {ps : List Opd} {e : Env} {h : Heap} {ol : List Heap}
@[simp] theorem x247 : callX (orc T) T 247 xs d st = cP T 247 false xs d st := callX_pure CRef09.h247
theorem f247 (xs : List AV) (hn : xs.length = 2) : callF T 247 xs = retF [.t 4] false (evX (orc T) T 0 b247 ⟨argEnv xs, [], 1⟩) := callF_eq CRef09.h247 hn
end
end Go.Ab
end

section
namespace Go.Ab
def l260_0 : AX :=
 (.note
 (.seq
 (.seq
 (.reg [mv 6 4, mv 7 0, rg 8 (.bin .lss (.t 6) (.t 7))])
 (.cond (.t 8)
 .skip
 (.exit 0)))
 (.seq
 (.block 1
 (.reg [mv 11 3, rg 12 (.bsl 1 [(u32 0)] 1 [(0, (.c (u32 10)))]), rg 13 (.call 61 [(.t 11), (.t 12)]), mv 3 13]))
 (.reg [mv 9 4, rg 10 (.bin .add (.t 9) (.c (.i .i64 1))), mv 4 10])))
 (.norm false [0, 3, 4]))
def b260 : AX :=
 (.seq
 (.reg [rg 2 (.mov (.c (.sl [] .nl)))])
 (.seq
 (.reg [rg 5 (.bsl 1 [(u32 0)] 1 [(0, (.c (u32 1)))]), mv 3 5])
 (.seq
 (.seq
 (.reg [rg 4 (.mov (.c (.i .i64 0)))])
 (.lp 0 (.norm false [0, 3, 4]) l260_0 (.norm false [3])))
 (.seq
 (.reg [mv 14 3, mv 2 14])
 (.pre (.norm false [2]) .ret)))))
def l261_0 : AX :=
 (.note
 (.seq
 (.seq
 (.reg [mv 11 5, mv 12 0, rg 13 (.lens (.t 12)), rg 14 (.bin .lss (.t 11) (.t 13)), mv 15 14, gd 16 15 true (.mov (.t 0)), gd 17 15 true (.mov (.t 5)),
 gd 18 15 true (.ixs (.t 16) (.t 17)), gd 19 15 true (.bin .neq (.t 18) (.c (u8 47))), rg 20 (.pick (.t 15) (.t 19) (.c (.b false))), mv 21 20,
 gd 22 21 true (.mov (.t 0)), gd 23 21 true (.mov (.t 5)), gd 24 21 true (.ixs (.t 22) (.t 23)), gd 25 21 true (.bin .neq (.t 24) (.c (u8 46))),
 rg 26 (.pick (.t 21) (.t 25) (.c (.b false)))])
 (.cond (.t 26)
 .skip
 (.exit 0)))
 (.block 1
 (.reg [mv 27 5, rg 28 (.bin .add (.t 27) (.c (.i .i64 1))), mv 5 28])))
 (.norm false [0, 2, 5]))
def b261 : AX :=
 (.seq
 (.reg [rg 2 (.alloc [(.b false), (.sl [] .nl), (.sl [] .nl)]), rg 3 (.mov (.c (.i .i64 0))), rg 4 (.mov (.c (.i .i64 0)))])
 (.seq
 (.reg [rg 5 (.mov (.c (.i .i64 0)))])
 (.seq
 (.lp 0 (.norm false [0, 2, 5]) l261_0 (.norm false [0, 2, 5]))
 (.seq
 (.reg [mv 30 0, mv 31 5, rg 32 (.slstr (.t 30) none (some (.t 31))), rg 33 (.call 33 [(.t 32)]), mv 29 33, rg 34 (.ext (.t 29) 0), rg 35 (.ext (.t 29) 1),
 rg 6 (.alloc [(.b false), (.sl [] .nl)]), so (.store 2 (.t 6) (.t 34)), mv 7 35])
 (.seq
 (.seq
 (.reg [mv 36 7, rg 37 (.bin .geq (.t 36) (.c (.i .i64 0)))])
 (.cond (.t 37)
 (.seq
 (.reg [rg 38 (.call 232 [(.c (.i .i64 0))]), mv 39 7, so (.store 3 (.t 2) (.t 38)), rg 3 (.mov (.c (.i .i64 1))), mv 4 39])
 (.pre (.norm false [2, 3, 4]) .ret))
 .skip))
 (.seq
 (.seq
 (.reg [mv 40 5, mv 41 0, rg 42 (.lens (.t 41)), rg 43 (.bin .eql (.t 40) (.t 42))])
 (.cond (.t 43)
 (.seq
 (.reg [rg 44 (.fad 0 (.t 6)), rg 45 (.load none (.t 44)), rg 46 (.fad 1 (.t 6)), rg 47 (.load none (.t 46)), rg 48 (.bsl 1 [(u32 0)] 1 [(0, (.c (u32 1)))]),
 rg 49 (.build [(.b false), (.sl [] .nl), (.sl [] .nl)] [(0, 1, (.t 45)), (1, 1, (.t 47)), (2, 1, (.t 48))]), rg 50 (.call 231 [(.t 49)]),
 so (.store 3 (.t 2) (.t 50)), rg 3 (.mov (.c (.i .i64 0))), rg 4 (.mov (.c (.i .i64 0)))])
 (.pre (.norm false [2, 3, 4]) .ret))
 .skip))
 (.seq
 (.reg [mv 51 0, mv 52 5, rg 53 (.bin .add (.t 52) (.c (.i .i64 1))), rg 54 (.slstr (.t 51) (some (.t 53)) none), mv 8 54])
 (.seq
 (.reg [mv 55 8, rg 56 (.call 66 [(.t 55)]), mv 7 56])
 (.seq
 (.seq
 (.reg [mv 57 7, rg 58 (.bin .geq (.t 57) (.c (.i .i64 0)))])
 (.cond (.t 58)
 (.seq
 (.reg [rg 59 (.call 232 [(.c (.i .i64 0))]), mv 60 5, rg 61 (.bin .add (.t 60) (.c (.i .i64 1))), mv 62 7, rg 63 (.bin .add (.t 61) (.t 62)),
 so (.store 3 (.t 2) (.t 59)), rg 3 (.mov (.c (.i .i64 1))), mv 4 63])
 (.pre (.norm false [2, 3, 4]) .ret))
 .skip))
 (.seq
 (.reg [mv 64 8, rg 65 (.call 67 [(.t 64)]), mv 9 65])
 (.seq
 (.seq
 (.reg [mv 66 0, mv 67 5, rg 68 (.ixs (.t 66) (.t 67)), rg 69 (.bin .eql (.t 68) (.c (u8 46)))])
 (.cond (.t 69)
 (.seq
 (.drawT [rg 70 (.fad 1 (.t 6)), rg 71 (.load none (.t 70)), mv 72 8, rg 73 (.lens (.t 72)), rg 74 (.call 260 [(.t 73)]), rg 75 (.call 61 [(.t 71), (.t 74)]),
 mv 76 9]
 [rg 77 (.call 58 [(.t 75), (.t 76)]), mv 10 77])
 (.seq
 (.drawT [mv 78 0, rg 79 (.ixs (.t 78) (.c (.i .i64 0))), rg 80 (.bin .eql (.t 79) (.c (u8 45))), mv 81 10, mv 82 8, rg 83 (.lens (.t 82)),
 rg 84 (.call 260 [(.t 83)])]
 [rg 85 (.build [(.b false), (.sl [] .nl), (.sl [] .nl)] [(0, 1, (.t 80)), (1, 1, (.t 81)), (2, 1, (.t 84))]), rg 86 (.call 231 [(.t 85)]),
 so (.store 3 (.t 2) (.t 86)), rg 3 (.mov (.c (.i .i64 0))), rg 4 (.mov (.c (.i .i64 0)))])
 (.pre (.norm false [2, 3, 4]) .ret)))
 .skip))
 (.seq
 (.seq
 (.reg [mv 87 9, rg 88 (.len (.t 87)), rg 89 (.bin .eql (.t 88) (.c (.i .i64 0)))])
 (.cond (.t 89)
 (.seq
 (.reg [rg 90 (.call 232 [(.c (.i .i64 0))]), mv 91 5, rg 92 (.bin .add (.t 91) (.c (.i .i64 1))), so (.store 3 (.t 2) (.t 90)), rg 3 (.mov (.c (.i .i64 2))),
 mv 4 92])
 (.pre (.norm false [2, 3, 4]) .ret))
 .skip))
 (.seq
 (.reg [rg 93 (.fad 0 (.t 6)), rg 94 (.load none (.t 93)), rg 95 (.fad 1 (.t 6)), rg 96 (.load none (.t 95)), mv 97 9,
 rg 98 (.build [(.b false), (.sl [] .nl), (.sl [] .nl)] [(0, 1, (.t 94)), (1, 1, (.t 96)), (2, 1, (.t 97))]), rg 99 (.call 231 [(.t 98)]),
 so (.store 3 (.t 2) (.t 99)), rg 3 (.mov (.c (.i .i64 0))), rg 4 (.mov (.c (.i .i64 0)))])
 (.pre (.norm false [2, 3, 4]) .ret))))))))))))))
class CRef10 (T : Tbl) : Prop where
 h260 : T 260 = some ⟨1, 15, [.t 2], b260, none, false⟩
 h261 : T 261 = some ⟨1, 100, [.cell 2 (some 3), .t 3, .t 4], b261, none, false⟩
end Go.Ab
end

section
namespace Go.Ab
class CRef11 (T : Tbl) : Prop where
end Go.Ab
end

section
namespace Go.Ab
def b248 : AX :=
 (.seq
 (.reg [rg 1 (.xop (.box 3) [(.t 0)]), rg 2 (.alloc [(.b false), (.sl [] .nl), (.sl [] .nl)])])
 (.seq
 (.reg [rg 3 (.fad 0 (.t 1)), rg 4 (.load none (.t 3)), rg 5 (.fad 1 (.t 1)), rg 6 (.load none (.t 5)),
 rg 7 (.build [(.b false), (.sl [] .nl)] [(0, 1, (.t 4)), (1, 1, (.t 6))]), rg 8 (.fad 2 (.t 1)), rg 9 (.load none (.t 8)),
 rg 10 (.build [(.b false), (.sl [] .nl), (.sl [] .nl)] [(0, 2, (.t 7)), (2, 1, (.t 9))]), so (.store 3 (.t 2) (.t 10))])
 (.pre (.norm false [2]) .ret)))
def b249 : AX :=
 (.seq
 (.reg [rg 1 (.xop (.box 3) [(.t 0)]), rg 2 (.alloc [(.b false), (.sl [] .nl), (.sl [] .nl)])])
 (.seq
 (.reg [rg 3 (.fad 0 (.t 1)), rg 4 (.fad 0 (.t 3)), rg 5 (.load none (.t 4)), rg 6 (.fad 0 (.t 1)), rg 7 (.fad 1 (.t 6)), rg 8 (.load none (.t 7)),
 rg 9 (.fad 2 (.t 1)), rg 10 (.load none (.t 9)),
 rg 11 (.build [(.b false), (.sl [] .nl), (.sl [] .nl)] [(0, 1, (.t 5)), (1, 1, (.t 8)), (2, 1, (.t 10))]), so (.store 3 (.t 2) (.t 11))])
 (.pre (.norm false [2]) .ret)))
def b250 : AX :=
 (.seq
 (.reg [rg 2 (.xop (.box 3) [(.t 0)]), rg 3 (.xop (.box 3) [(.t 1)]), rg 4 (.mov (.c (.b false)))])
 (.seq
 (.drawT [rg 5 (.load (some 3) (.t 2)), rg 6 (.call 249 [(.t 5)]), rg 7 (.load (some 3) (.t 3))]
 [rg 8 (.call 233 [(.t 6), (.t 7)]), mv 4 8])
 (.pre (.norm false [4]) .ret)))
class CLaw09 (T : Tbl) : Prop where
 h248 : T 248 = some ⟨1, 11, [.cell 2 (some 3)], b248, none, false⟩
 h249 : T 249 = some ⟨1, 12, [.cell 2 (some 3)], b249, none, false⟩
 h250 : T 250 = some ⟨2, 9, [.t 4], b250, none, false⟩
section
variable {T : Tbl} [CLaw09 T] {d : Option Nat} {st : St} {xs : List AV} {ps : List Opd} {e : Env} {h : Heap} {ol : List Heap}
@[simp] theorem x248 : callX (orc T) T 248 xs d st = cP T 248 false xs d st := callX_pure CLaw09.h248
theorem f248 (xs : List AV) (hn : xs.length = 1) : callF T 248 xs = retF [.cell 2 (some 3)] false (evX (orc T) T 0 b248 ⟨argEnv xs, [], 1⟩) := callF_eq CLaw09.h248 hn
end
end Go.Ab
end

section
namespace Go.Ab
class CLaw11 (T : Tbl) : Prop where
end Go.Ab
end

section
namespace Go.Ab
def b318 : AX :=
 (.seq
 (.reg [rg 2 (.mov (.c (.b false)))])
 (.seq
 (.seq
 (.reg [mv 8 0, rg 9 (.lens (.t 8)), rg 10 (.bin .gtr (.t 9) (.c (.i .i64 300)))])
 (.cond (.t 10)
 (.seq
 (.reg [rg 11 (.call 333 []), mv 2 11])
 (.pre (.norm false [2]) .ret))
 .skip))
 (.seq
 (.reg [mv 13 0, rg 14 (.call 256 [(.t 13)]), mv 12 14, rg 15 (.ext (.t 12) 0), rg 16 (.ext (.t 12) 1), rg 3 (.alloc [(.b false), (.sl [] .nl), (.sl [] .nl)]),
 rg 4 (.alloc [(.i .i64 0), (.i .i64 0), (.i .i64 0), (.i .i64 0)]), so (.store 3 (.t 3) (.t 15)), so (.store 4 (.t 4) (.t 16))])
 (.seq
 (.reg [mv 18 0, rg 19 (.call 261 [(.t 18)]), mv 17 19, rg 20 (.ext (.t 17) 0), rg 21 (.ext (.t 17) 1), rg 22 (.ext (.t 17) 2),
 rg 5 (.alloc [(.b false), (.sl [] .nl), (.sl [] .nl)]), so (.store 3 (.t 5) (.t 20)), mv 6 21, mv 7 22])
 (.seq
 (.reg [rg 23 (.load (some 3) (.t 3)), rg 24 (.load (some 3) (.t 5)), rg 25 (.call 250 [(.t 23), (.t 24)]), mv 26 25, gd 27 26 true (.load (some 4) (.t 4)),
 gd 28 26 true (.mov (.t 6)), gd 29 26 true (.mov (.t 7)),
 gd 30 26 true (.build [(.i .i64 0), (.i .i64 0), (.i .i64 0), (.i .i64 0)] [(0, 1, (.t 28)), (3, 1, (.t 29))]),
 gd 31 26 true (.eqs false [(0, .int), (1, .int), (2, .int), (3, .int)] (.t 27) (.t 30)), rg 32 (.pick (.t 26) (.t 31) (.c (.b false))), mv 33 32,
 gd 34 33 true (.call 333 []), rg 35 (.pick (.t 33) (.t 34) (.c (.b false))), mv 2 35])
 (.pre (.norm false [2]) .ret))))))
def b319 : AX :=
 (.seq
 (.reg [rg 2 (.xop (.box 3) [(.t 0)]), rg 4 (.mov (.c (.b false)))])
 (.seq
 (.seq
 (.reg [rg 12 (.load (some 3) (.t 2)), rg 13 (.call 247 [(.t 12), (.c (.i .i64 6))]), mv 14 13, gd 15 14 false (.mov (.t 1)), gd 16 14 false (.lens (.t 15)),
 gd 17 14 false (.bin .gtr (.t 16) (.c (.i .i64 200))), rg 18 (.pick (.t 14) (.c (.b true)) (.t 17))])
 (.cond (.t 18)
 (.seq
 (.reg [rg 19 (.call 333 []), mv 4 19])
 (.pre (.norm false [4]) .ret))
 .skip))
 (.seq
 (.reg [rg 20 (.load (some 3) (.t 2)), rg 21 (.call 248 [(.t 20)]), rg 22 (.call 207 [(.t 21)]), rg 5 (.alloc [(.b false), (.sl [] .nl), (.sl [] .nl)]),
 so (.store 3 (.t 5) (.t 22))])
 (.seq
 (.seq
 (.reg [rg 23 (.fad 0 (.t 5)), rg 24 (.fad 1 (.t 23)), rg 25 (.load none (.t 24)), rg 26 (.call 129 [(.t 25)]), rg 27 (.bin .leq (.t 26) (.c (.i .i64 60))),
 mv 28 27, gd 29 28 true (.fad 2 (.t 5)), gd 30 28 true (.load none (.t 29)), gd 31 28 true (.call 129 [(.t 30)]),
 gd 32 28 true (.bin .leq (.t 31) (.c (.i .i64 60))), rg 33 (.pick (.t 28) (.t 32) (.c (.b false)))])
 (.cond (.t 33)
 (.seq
 (.reg [rg 35 (.load (some 3) (.t 5)), rg 36 (.call 251 [(.t 35)]), rg 37 (.call 256 [(.t 36)]), mv 34 37, rg 38 (.ext (.t 34) 0), rg 39 (.ext (.t 34) 1),
 rg 6 (.alloc [(.b false), (.sl [] .nl), (.sl [] .nl)]), rg 7 (.alloc [(.i .i64 0), (.i .i64 0), (.i .i64 0), (.i .i64 0)]), so (.store 3 (.t 6) (.t 38)),
 so (.store 4 (.t 7) (.t 39))])
 (.seq
 (.reg [rg 40 (.load (some 4) (.t 7)), rg 41 (.build [(.i .i64 0), (.i .i64 0), (.i .i64 0), (.i .i64 0)] []),
 rg 42 (.eqs true [(0, .int), (1, .int), (2, .int), (3, .int)] (.t 40) (.t 41)), mv 43 42, gd 44 43 false (.load (some 3) (.t 6)),
 gd 45 43 false (.load (some 3) (.t 5)), gd 46 43 false (.call 212 [(.t 44), (.t 45)]), gd 47 43 false (.un .not (.t 46)),
 rg 48 (.pick (.t 43) (.c (.b true)) (.t 47))])
 (.cond (.t 48)
 (.seq
 (.reg [rg 4 (.mov (.c (.b false)))])
 (.pre (.norm false [4]) .ret))
 .skip)))
 .skip))
 (.seq
 (.reg [mv 50 1, rg 51 (.call 256 [(.t 50)]), mv 49 51, rg 52 (.ext (.t 49) 0), rg 53 (.ext (.t 49) 1), rg 8 (.alloc [(.b false), (.sl [] .nl), (.sl [] .nl)]),
 rg 9 (.alloc [(.i .i64 0), (.i .i64 0), (.i .i64 0), (.i .i64 0)]), so (.store 3 (.t 8) (.t 52)), so (.store 4 (.t 9) (.t 53))])
 (.seq
 (.seq
 (.reg [rg 54 (.load (some 4) (.t 9)), rg 55 (.build [(.i .i64 0), (.i .i64 0), (.i .i64 0), (.i .i64 0)] []),
 rg 56 (.eqs true [(0, .int), (1, .int), (2, .int), (3, .int)] (.t 54) (.t 55))])
 (.cond (.t 56)
 (.seq
 (.reg [rg 57 (.load (some 3) (.t 8)), rg 58 (.call 209 [(.t 57)]), rg 59 (.bin .eql (.t 58) (.c (.i .i64 0))), mv 60 59, gd 61 60 true (.call 333 []),
 rg 62 (.pick (.t 60) (.t 61) (.c (.b false))), mv 4 62])
 (.pre (.norm false [4]) .ret))
 .skip))
 (.seq
 (.seq
 (.reg [rg 63 (.fad 0 (.t 8)), rg 64 (.fad 1 (.t 63)), rg 65 (.load none (.t 64)), rg 66 (.call 129 [(.t 65)]), rg 67 (.bin .gtr (.t 66) (.c (.i .i64 60))),
 mv 68 67, gd 69 68 false (.fad 2 (.t 8)), gd 70 68 false (.load none (.t 69)), gd 71 68 false (.call 129 [(.t 70)]),
 gd 72 68 false (.bin .gtr (.t 71) (.c (.i .i64 60))), rg 73 (.pick (.t 68) (.c (.b true)) (.t 72))])
 (.cond (.t 73)
 (.seq
 (.reg [rg 74 (.call 333 []), mv 4 74])
 (.pre (.norm false [4]) .ret))
 .skip))
 (.seq
 (.reg [rg 76 (.load (some 3) (.t 8)), rg 77 (.call 251 [(.t 76)]), rg 78 (.call 256 [(.t 77)]), mv 75 78, rg 79 (.ext (.t 75) 0), rg 80 (.ext (.t 75) 1),
 rg 10 (.alloc [(.b false), (.sl [] .nl), (.sl [] .nl)]), rg 11 (.alloc [(.i .i64 0), (.i .i64 0), (.i .i64 0), (.i .i64 0)]),
 so (.store 3 (.t 10) (.t 79)), so (.store 4 (.t 11) (.t 80))])
 (.seq
 (.reg [rg 81 (.load (some 4) (.t 11)), rg 82 (.build [(.i .i64 0), (.i .i64 0), (.i .i64 0), (.i .i64 0)] []),
 rg 83 (.eqs false [(0, .int), (1, .int), (2, .int), (3, .int)] (.t 81) (.t 82)), mv 84 83, gd 85 84 true (.load (some 3) (.t 8)),
 gd 86 84 true (.load (some 3) (.t 10)), gd 87 84 true (.call 212 [(.t 85), (.t 86)]), rg 88 (.pick (.t 84) (.t 87) (.c (.b false))), mv 89 88,
 gd 90 89 true (.call 333 []), rg 91 (.pick (.t 89) (.t 90) (.c (.b false))), mv 4 91])
 (.pre (.norm false [4]) .ret))))))))))
def l320_0 : AX :=
 (.note
 (.seq
 (.seq
 (.reg [mv 38 10, mv 39 1, rg 40 (.bin .lss (.t 38) (.t 39))])
 (.cond (.t 40)
 .skip
 (.exit 0)))
 (.seq
 (.block 1
 (.drawT [rg 43 (.load (some 3) (.t 9)), rg 44 (.call 205 [(.c (.i .i64 10))])]
 [rg 45 (.call 217 [(.t 43), (.t 44)]), so (.store 3 (.t 9) (.t 45))]))
 (.reg [mv 41 10, rg 42 (.bin .add (.t 41) (.c (.i .i64 1))), mv 10 42])))
 (.norm false [1, 7, 9, 10]))
def b320 : AX :=
 (.seq
 (.reg [rg 2 (.xop (.box 3) [(.t 0)]), rg 4 (.mov (.c (.b false)))])
 (.seq
 (.seq
 (.reg [rg 11 (.load (some 3) (.t 2)), rg 12 (.call 247 [(.t 11), (.c (.i .i64 3))]), mv 13 12, gd 14 13 false (.mov (.t 1)),
 gd 15 13 false (.bin .lss (.t 14) (.c (.i .i64 0))), rg 16 (.pick (.t 13) (.c (.b true)) (.t 15)), mv 17 16, gd 18 17 false (.mov (.t 1)),
 gd 19 17 false (.bin .gtr (.t 18) (.c (.i .i64 20))), rg 20 (.pick (.t 17) (.c (.b true)) (.t 19))])
 (.cond (.t 20)
 (.seq
 (.reg [rg 21 (.call 333 []), mv 4 21])
 (.pre (.norm false [4]) .ret))
 .skip))
 (.seq
 (.reg [rg 22 (.load (some 3) (.t 2)), rg 23 (.call 248 [(.t 22)]), rg 5 (.alloc [(.b false), (.sl [] .nl), (.sl [] .nl)]), so (.store 3 (.t 5) (.t 23))])
 (.seq
 (.reg [rg 25 (.load (some 3) (.t 5)), mv 26 1, rg 27 (.call 257 [(.t 25), (.t 26)]), rg 28 (.call 256 [(.t 27)]), mv 24 28, rg 29 (.ext (.t 24) 0),
 rg 30 (.ext (.t 24) 1), rg 6 (.alloc [(.b false), (.sl [] .nl), (.sl [] .nl)]), rg 7 (.alloc [(.i .i64 0), (.i .i64 0), (.i .i64 0), (.i .i64 0)]),
 so (.store 3 (.t 6) (.t 29)), so (.store 4 (.t 7) (.t 30))])
 (.seq
 (.reg [rg 31 (.load (some 3) (.t 6)), rg 32 (.load (some 3) (.t 5)), rg 33 (.call 216 [(.t 31), (.t 32)]), rg 34 (.call 214 [(.t 33)]),
 rg 8 (.alloc [(.b false), (.sl [] .nl), (.sl [] .nl)]), so (.store 3 (.t 8) (.t 34))])
 (.seq
 (.reg [rg 35 (.load (some 3) (.t 8)), rg 36 (.load (some 3) (.t 8)), rg 37 (.call 215 [(.t 35), (.t 36)]),
 rg 9 (.alloc [(.b false), (.sl [] .nl), (.sl [] .nl)]), so (.store 3 (.t 9) (.t 37))])
 (.seq
 (.seq
 (.reg [rg 10 (.mov (.c (.i .i64 0)))])
 (.lp 0 (.norm false [1, 7, 9, 10]) l320_0 (.norm false [7, 9])))
 (.seq
 (.drawT [rg 46 (.load (some 4) (.t 7)), rg 47 (.build [(.i .i64 0), (.i .i64 0), (.i .i64 0), (.i .i64 0)] []),
 rg 48 (.eqs false [(0, .int), (1, .int), (2, .int), (3, .int)] (.t 46) (.t 47)), mv 49 48, gd 50 49 true (.load (some 3) (.t 9)),
 gd 51 49 true (.call 205 [(.c (.i .i64 1))])]
 [gd 52 49 true (.call 211 [(.t 50), (.t 51)]), gd 53 49 true (.bin .leq (.t 52) (.c (.i .i64 0))), rg 54 (.pick (.t 49) (.t 53) (.c (.b false))),
 mv 55 54, gd 56 55 true (.call 333 []), rg 57 (.pick (.t 55) (.t 56) (.c (.b false))), mv 4 57])
 (.pre (.norm false [4]) .ret)))))))))
def b333 : AX :=
 (.seq
 (.reg [rg 0 (.mov (.c (.b false)))])
 (.seq
 (.reg [rg 6 (.call 256 [(.c (.s [45, 49, 46, 50, 53]))]), mv 5 6, rg 7 (.ext (.t 5) 0), rg 8 (.ext (.t 5) 1),
 rg 1 (.alloc [(.b false), (.sl [] .nl), (.sl [] .nl)]), rg 2 (.alloc [(.i .i64 0), (.i .i64 0), (.i .i64 0), (.i .i64 0)]), so (.store 3 (.t 1) (.t 7)),
 so (.store 4 (.t 2) (.t 8))])
 (.seq
 (.reg [rg 10 (.call 256 [(.c (.s [49, 47, 48]))]), mv 9 10, rg 11 (.ext (.t 9) 0), rg 12 (.ext (.t 9) 1),
 rg 3 (.alloc [(.b false), (.sl [] .nl), (.sl [] .nl)]), rg 4 (.alloc [(.i .i64 0), (.i .i64 0), (.i .i64 0), (.i .i64 0)]), so (.store 3 (.t 3) (.t 11)),
 so (.store 4 (.t 4) (.t 12))])
 (.seq
 (.reg [rg 13 (.load (some 3) (.t 1)), rg 14 (.call 251 [(.t 13)]), rg 15 (.bin .eql (.t 14) (.c (.s [45, 53, 47, 52]))), mv 16 15,
 gd 17 16 true (.load (some 4) (.t 2)), gd 18 16 true (.build [(.i .i64 0), (.i .i64 0), (.i .i64 0), (.i .i64 0)] []),
 gd 19 16 true (.eqs false [(0, .int), (1, .int), (2, .int), (3, .int)] (.t 17) (.t 18)), rg 20 (.pick (.t 16) (.t 19) (.c (.b false))), mv 21 20,
 gd 22 21 true (.load (some 4) (.t 4)),
 gd 23 21 true (.build [(.i .i64 0), (.i .i64 0), (.i .i64 0), (.i .i64 0)] [(0, 1, (.c (.i .i64 2))), (3, 1, (.c (.i .i64 2)))]),
 gd 24 21 true (.eqs false [(0, .int), (1, .int), (2, .int), (3, .int)] (.t 22) (.t 23)), rg 25 (.pick (.t 21) (.t 24) (.c (.b false))), mv 26 25,
 gd 27 26 true (.load (some 3) (.t 1)), gd 28 26 true (.call 257 [(.t 27), (.c (.i .i64 1))]),
 gd 29 26 true (.bin .eql (.t 28) (.c (.s [45, 49, 46, 51]))), rg 30 (.pick (.t 26) (.t 29) (.c (.b false))), mv 0 30])
 (.pre (.norm false [0]) .ret)))))
class CLaw10 (T : Tbl) : Prop where
 h318 : T 318 = some ⟨1, 36, [.t 2], b318, none, false⟩
 h319 : T 319 = some ⟨2, 92, [.t 4], b319, none, false⟩
 h320 : T 320 = some ⟨2, 58, [.t 4], b320, none, false⟩
 h333 : T 333 = some ⟨0, 31, [.t 0], b333, none, false⟩
section
variable {T : Tbl} [CLaw10 T] {d : Option Nat} {st : St} {xs : List AV} {ps : List Opd} {e : Env} {h : Heap} {ol : List Heap}
theorem f320 (xs : List AV) (hn : xs.length = 2) : callF T 320 xs = retF [.t 4] false (evX (orc T) T 0 b320 ⟨argEnv xs, [], 1⟩) := callF_eq CLaw10.h320 hn
@[simp] theorem x333 : callX (orc T) T 333 xs d st = cP T 333 false xs d st := callX_pure CLaw10.h333
theorem f333 (xs : List AV) (hn : xs.length = 0) : callF T 333 xs = retF [.t 0] false (evX (orc T) T 0 b333 ⟨argEnv xs, [], 1⟩) := callF_eq CLaw10.h333 hn
end
end Go.Ab
end

section
namespace Go.Ab
def b129 : AX :=
 (.seq
 (.reg [rg 2 (.mov (.c (.i .i64 0)))])
 (.seq
 (.reg [mv 3 0, rg 4 (.call 68 [(.t 3)]), rg 5 (.lens (.t 4)), mv 2 5])
 (.pre (.norm false [2]) .ret)))
class CLenD (T : Tbl) : Prop where
 h129 : T 129 = some ⟨1, 6, [.t 2], b129, none, false⟩
end Go.Ab
end

section
namespace Go.Ab
open Go.RowKit
def opU : AOp → Option Nat
 | .call u _ => some u
 | _ => none
def cXs : AX → List Nat
 | .reg l => l.filterMap fun o => opU o.op
 | .draw l => l.filterMap fun o => opU o.ao.op
 | .drawT hd tl => (hd.filterMap fun o => opU o.op) ++ tl.filterMap fun o => opU o.op
 | .seq a b => cXs a ++ cXs b
 | .cond _ x y => cXs x ++ cXs y
 | .block _ c | .loop c | .note c _ | .pre _ c | .scope c | .lp _ _ c _ => cXs c
 | _ => []
structure Agr (R : Nat → Bool) (T T' : Tbl) (O O' : Orc) : Prop where
 tbl : ∀ u, R u = true → T u = T' u
 call : ∀ u xs hb, R u = true → O.call u xs hb = O'.call u xs hb
 loop : ∀ k c st, (∀ u ∈ cXs c, R u = true) → O.loop k c st = O'.loop k c st
section
variable {R : Nat → Bool} {T T' : Tbl} {O O' : Orc}
theorem callX_agr (h : Agr R T T' O O') {u : Nat} (hu : R u = true) {xs : List AV} {d : Option Nat} {st : St} : callX O T u xs d st = callX O' T' u xs d st := by
 unfold callX
 rw [h.tbl u hu]
 simp only [h.call u _ _ hu]
theorem opX_agr (h : Agr R T T' O O') {op : AOp} (hu : ∀ u, opU op = some u → R u = true) {d : Option Nat} {st : St} : opX O T op d st = opX O' T' op d st := by
 cases op <;> simp only [opX]
 exact callX_agr h (hu _ rfl)
theorem stepX_agr (h : Agr R T T' O O') {o : AO} (hu : ∀ u, opU o.op = some u → R u = true) {st : St} : stepX O T o st = stepX O' T' o st := by
 unfold stepX gX
 simp only [opX_agr h hu]
theorem runX_agr (h : Agr R T T' O O') : ∀ (l : List AO), (∀ o ∈ l, ∀ u, opU o.op = some u → R u = true) → ∀ st, runX O T l st = runX O' T' l st
 | [], _, st => rfl
 | o :: l, hu, st => by
  simp only [runX]
  rw [stepX_agr h (hu o List.mem_cons_self)]
  congr 1
  funext s
  exact runX_agr h l (fun o ho => hu o (List.mem_cons_of_mem _ ho)) s
theorem opD_agr (h : Agr R T T' O O') {op : AOp} (hu : ∀ u, opU op = some u → R u = true) {e : Env} {hp : Heap} {older : List Heap} : opD O T op e hp older = opD O' T' op e hp older := by
 cases op <;> simp only [opD]
 rw [h.tbl _ (hu _ rfl)]
 simp only [h.call _ _ _ (hu _ rfl)]
theorem qX_agr (h : Agr R T T' O O') {o : AO} (hu : ∀ u, opU o.op = some u → R u = true) {e : Env} {hp : Heap} {older : List Heap} : qX O T o e hp older = qX O' T' o e hp older := by
 unfold qX
 simp only [opD_agr h hu]
theorem drawX_agr (h : Agr R T T' O O') : ∀ (l : List DO), (∀ o ∈ l, ∀ u, opU o.ao.op = some u → R u = true) → ∀ e hp clk older pend, drawX O T l e hp clk older pend = drawX O' T' l e hp clk older pend
 | [], _, e, hp, clk, older, pend => rfl
 | o :: l, hu, e, hp, clk, older, pend => by
  have ih := drawX_agr h l (fun o ho => hu o (List.mem_cons_of_mem _ ho))
  simp only [drawX]
  rw [qX_agr h (hu o List.mem_cons_self)]
  simp only [ih]
theorem headX_agr (h : Agr R T T' O O') (tl : List AO) (ht : ∀ o ∈ tl, ∀ u, opU o.op = some u → R u = true) : ∀ (l : List AO), (∀ o ∈ l, ∀ u, opU o.op = some u → R u = true) → ∀ e hp clk, headX O T tl l e hp clk = headX O' T' tl l e hp clk
 | [], _, e, hp, clk => runX_agr h tl ht _
 | o :: l, hu, e, hp, clk => by
  have ih := headX_agr h tl ht l (fun o ho => hu o (List.mem_cons_of_mem _ ho))
  simp only [headX]
  rw [qX_agr h (hu o List.mem_cons_self)]
  simp only [ih]
theorem evX_agr (h : Agr R T T' O O') (k : Nat) : ∀ (c : AX), (∀ u ∈ cXs c, R u = true) → ∀ st, evX O T k c st = evX O' T' k c st
 | .skip, _, st => rfl
 | .reg l, hu, st => by
  simp only [evX]
  rw [runX_agr h l fun o ho u hou => hu u (List.mem_filterMap.2 ⟨o, ho, hou⟩)]
 | .draw l, hu, st => by
  simp only [evX]
  rw [drawX_agr h l fun o ho u hou => hu u (List.mem_filterMap.2 ⟨o, ho, hou⟩)]
 | .drawT hd tl, hu, st => by
  simp only [evX]
  rw [headX_agr h tl (fun o ho u hou => hu u (List.mem_append_right _ (List.mem_filterMap.2 ⟨o, ho, hou⟩))) hd (fun o ho u hou => hu u (List.mem_append_left _ (List.mem_filterMap.2 ⟨o, ho, hou⟩)))]
 | .bad, _, st => rfl
 | .prim f, _, st => rfl
 | .seq a b, hu, st => by
  simp only [evX]
  rw [evX_agr h k a fun u hm => hu u (List.mem_append_left _ hm)]
  congr 1
  funext r
  rw [evX_agr h k b fun u hm => hu u (List.mem_append_right _ hm)]
 | .cond c x y, hu, st => by
  simp only [evX]
  rw [evX_agr h k x fun u hm => hu u (List.mem_append_left _ hm), evX_agr h k y fun u hm => hu u (List.mem_append_right _ hm)]
 | .block id c, hu, st => by
  simp only [evX]
  rw [evX_agr h k c hu]
 | .loop c, hu, st => h.loop k c st hu
 | .exit id, _, st => rfl
 | .ret, _, st => rfl
 | .note c g, hu, st => by
  simp only [evX]
  rw [evX_agr h k c hu]
 | .pre g c, hu, st => by
  simp only [evX]
  congr 1
  funext s
  exact evX_agr h k c hu s
 | .scope c, hu, st => by
  simp only [evX]
  exact evX_agr h k c hu st
 | .lp id g c g2, hu, st => by
  simp only [evX, h.loop k c _ hu]
theorem nextO_agr (hc : ∀ u af, R u = true → T u = some af → ∀ v ∈ cXs af.body, R v = true) (h : Agr R T T' O O') : Agr R T T' (nextO T O) (nextO T' O') where
 tbl := h.tbl
 call u xs hb hu := by
  simp only [nextO]
  rw [← h.tbl u hu]
  cases ht : T u with
  | none => rfl
  | some af =>
   simp only
   rw [evX_agr h hb.length af.body (hc u af hu ht)]
 loop k c st hu := by
  simp only [nextO]
  rw [evX_agr h k c hu]
  congr 1
  funext r
  rw [h.loop k c _ hu]
theorem orcN_agr (ht : ∀ u, R u = true → T u = T' u) (hc : ∀ u af, R u = true → T u = some af → ∀ v ∈ cXs af.body, R v = true) : ∀ n, Agr R T T' (orcN T n) (orcN T' n)
 | 0 => ⟨ht, fun _ _ _ _ => rfl, fun _ _ _ _ => rfl⟩
 | n + 1 => nextO_agr hc (orcN_agr ht hc n)
theorem orc_agr (ht : ∀ u, R u = true → T u = T' u) (hc : ∀ u af, R u = true → T u = some af → ∀ v ∈ cXs af.body, R v = true) : Agr R T T' (orc T) (orc T') := by
 refine ⟨ht, fun u xs hb hu => ?_, fun k c st hu => ?_⟩
 ·simp only [orc]
  congr 1
  funext n
  exact (orcN_agr ht hc n).call u xs hb hu
 ·simp only [orc]
  congr 1
  funext n
  exact (orcN_agr ht hc n).loop k c st hu
end
theorem mem_of_lookup {l : List (Nat × AFx)} {u : Nat} {af : AFx} (h : l.lookup u = some af) : (u, af) ∈ l := by
 induction l with
 | nil => cases h
 | cons q l ih =>
  obtain ⟨q1, q2⟩ := q
  simp only [List.lookup_cons] at h
  split at h
  ·rename_i he
   have := eq_of_beq he
   subst this
   cases h
   exact List.mem_cons_self
  ·exact List.mem_cons_of_mem _ (ih h)
structure Part (l l' : List (Nat × AFx)) : Prop where
 sub : ∀ p ∈ l', l.lookup p.1 = some p.2
 clo : (l'.all fun p => (cXs p.2.body).all fun v => (l'.lookup v).isSome || (l.lookup v).isNone) = true
theorem Part.agr {l l' : List (Nat × AFx)} (h : Part l l') : Agr (fun u => (l'.lookup u).isSome || (l.lookup u).isNone) (fun u => l.lookup u) (fun u => l'.lookup u) (orc fun u => l.lookup u) (orc fun u => l'.lookup u) := by
 refine orc_agr (fun v hv => ?_) (fun v a hv hva w hw => ?_)
 ·cases hv2 : l'.lookup v with
  | none =>
   simp only [hv2] at hv
   cases hv3 : l.lookup v with
   | none => rfl
   | some a => rw [hv3] at hv; cases hv
  | some a => exact h.sub _ (mem_of_lookup hv2)
 ·cases hv2 : l'.lookup v with
  | none => simp only [hv2, hva] at hv; cases hv
  | some b =>
   have hb := mem_of_lookup hv2
   have h1 := h.sub _ hb
   simp only at hva h1
   rw [hva] at h1
   cases h1
   exact List.all_eq_true.1 (List.all_eq_true.1 h.clo _ hb) w hw
theorem Part.ev {l l' : List (Nat × AFx)} (h : Part l l') {c : AX} (hc : ((cXs c).all fun v => (l'.lookup v).isSome) = true) {st : St} {r : Option (Ex × St)}
  (he : evX (orc fun u => l.lookup u) (fun u => l.lookup u) 0 c st = r) : evX (orc fun u => l'.lookup u) (fun u => l'.lookup u) 0 c st = r := by
 rw [← evX_agr h.agr 0 c (fun v hv => by rw [List.all_eq_true.1 hc v hv]; rfl) st]
 exact he
theorem Part.call {l l' : List (Nat × AFx)} (h : Part l l') {u : Nat} (hu : (l'.lookup u).isSome = true) {xs : List AV} {r : Option AV} (he : callF (fun u => l.lookup u) u xs = r) : callF (fun u => l'.lookup u) u xs = r := by
 rw [← he]
 unfold callF
 rw [h.agr.call u xs [] (by rw [hu]; rfl)]
end Go.Ab
end
