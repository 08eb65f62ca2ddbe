/-
  A calculus of values, boxes and code, and what functions of the program compute, proved in it.
  Conditions: none beyond those that the theorems state. (Part 5: GcRef06, GpRef07, GcRef08, GcRef09, GcRef11, GcRef12, GcLaw09, GcLaw11, GcLaw12, GcFrac2, GcSpan, GcPoly, GcRef14, GcRef41, GcLaw41, Ax10.)
-/
import Derived.Test.YtefdnbbfkhkjeaaGreatDoorPart4

set_option linter.unusedSectionVars false
set_option linter.unusedVariables false
set_option linter.unusedSimpArgs false
set_option linter.unnecessarySimpa false

section
namespace Go.Ab
def l224_0 : AX :=
 (.note
 (.seq
 (.seq
 (.reg [mv 6 0, rg 7 (.bin .rem (.t 6) (.c (u32 2))), rg 8 (.bin .eql (.t 7) (.c (u32 0)))])
 (.cond (.t 8)
 .skip
 (.exit 0)))
 (.block 1
 (.seq
 (.reg [mv 9 0, rg 10 (.bin .quo (.t 9) (.c (u32 2))), mv 0 10])
 (.reg [mv 11 3, rg 12 (.bin .add (.t 11) (.c (.i .i64 1))), mv 3 12]))))
 (.norm false [0, 3]))
def b224 : AX :=
 (.seq
 (.reg [rg 2 (.mov (.c (.i .i64 0)))])
 (.seq
 (.seq
 (.reg [mv 4 0, rg 5 (.bin .eql (.t 4) (.c (u32 0)))])
 (.cond (.t 5)
 (.seq
 (.reg [rg 2 (.mov (.c (.i .i64 32)))])
 (.pre (.norm false [2]) .ret))
 .skip))
 (.seq
 (.reg [rg 3 (.mov (.c (.i .i64 0)))])
 (.seq
 (.lp 0 (.norm false [0, 3]) l224_0 (.norm false [3]))
 (.seq
 (.reg [mv 13 3, mv 2 13])
 (.pre (.norm false [2]) .ret))))))
def l225_0 : AX :=
 (.note
 (.seq
 (.seq
 (.reg [mv 7 5, mv 8 0, rg 9 (.len (.t 8)), rg 10 (.bin .lss (.t 7) (.t 9))])
 (.cond (.t 10)
 .skip
 (.exit 0)))
 (.seq
 (.block 1
 (.seq
 (.reg [rg 6 (.mov (.c (u64 0)))])
 (.seq
 (.seq
 (.reg [mv 13 5, rg 14 (.bin .add (.t 13) (.c (.i .i64 1))), mv 15 0, rg 16 (.len (.t 15)), rg 17 (.bin .lss (.t 14) (.t 16))])
 (.cond (.t 17)
 (.reg [mv 18 0, mv 19 5, rg 20 (.bin .add (.t 19) (.c (.i .i64 1))), rg 21 (.iad 1 (.t 18) (.t 20)), rg 22 (.load none (.t 21)), rg 23 (.conv .u64 (.t 22)),
 mv 6 23])
 .skip))
 (.reg [mv 24 0, mv 25 5, mv 26 6, rg 27 (.bin .mul (.t 26) (.c (u64 4294967296))), mv 28 0, mv 29 5, rg 30 (.iad 1 (.t 28) (.t 29)), rg 31 (.load none (.t 30)),
 rg 32 (.conv .u64 (.t 31)), rg 33 (.bin .add (.t 27) (.t 32)), mv 34 1, rg 35 (.bin .shr (.t 33) (.t 34)), rg 36 (.conv .u32 (.t 35)),
 rg 37 (.iad 1 (.t 24) (.t 25)), so (.store 1 (.t 37) (.t 36))]))))
 (.reg [mv 11 5, rg 12 (.bin .add (.t 11) (.c (.i .i64 1))), mv 5 12])))
 (.norm false [0, 1, 5]))
def l225_1 : AX :=
 (.note
 (.seq
 (.seq
 (.reg [mv 38 0, rg 39 (.len (.t 38)), rg 40 (.bin .gtr (.t 39) (.c (.i .i64 0))), mv 41 40, gd 42 41 true (.mov (.t 0)), gd 43 41 true (.mov (.t 0)),
 gd 44 41 true (.len (.t 43)), gd 45 41 true (.bin .sub (.t 44) (.c (.i .i64 1))), gd 46 41 true (.iad 1 (.t 42) (.t 45)),
 gd 47 41 true (.load none (.t 46)), gd 48 41 true (.bin .eql (.t 47) (.c (u32 0))), rg 49 (.pick (.t 41) (.t 48) (.c (.b false)))])
 (.cond (.t 49)
 .skip
 (.exit 2)))
 (.block 3
 (.reg [mv 50 0, mv 51 0, rg 52 (.len (.t 51)), rg 53 (.bin .sub (.t 52) (.c (.i .i64 1))), rg 54 (.slc 1 (.t 50) none (some (.t 53)) none), mv 0 54])))
 (.norm false [0]))
def b225 : AX :=
 (.seq
 (.reg [rg 4 (.mov (.c (.sl [] .nl)))])
 (.seq
 (.seq
 (.reg [rg 5 (.mov (.c (.i .i64 0)))])
 (.lp 0 (.norm false [0, 1, 5]) l225_0 (.norm false [0])))
 (.seq
 (.lp 2 (.norm false [0]) l225_1 (.norm false [0]))
 (.seq
 (.reg [mv 55 0, mv 4 55])
 (.pre (.norm false [4]) .ret)))))
def l226_0 : AX :=
 (.note
 (.seq
 (.seq
 (.reg [mv 6 0, rg 7 (.iad 1 (.t 6) (.c (.i .i64 0))), rg 8 (.load none (.t 7)), rg 9 (.bin .eql (.t 8) (.c (u32 0)))])
 (.cond (.t 9)
 .skip
 (.exit 0)))
 (.block 1
 (.seq
 (.reg [mv 10 0, rg 11 (.slc 1 (.t 10) (some (.c (.i .i64 1))) none none), mv 0 11])
 (.reg [mv 12 4, rg 13 (.bin .add (.t 12) (.c (.i .i64 32))), mv 4 13]))))
 (.norm false [0, 4]))
def b226 : AX :=
 (.seq
 (.reg [rg 2 (.mov (.c (.sl [] .nl))), rg 3 (.mov (.c (.i .i64 0)))])
 (.seq
 (.reg [rg 4 (.mov (.c (.i .i64 0)))])
 (.seq
 (.lp 0 (.norm false [0, 4]) l226_0 (.norm false [0, 4]))
 (.seq
 (.reg [mv 14 0, rg 15 (.iad 1 (.t 14) (.c (.i .i64 0))), rg 16 (.load none (.t 15)), rg 17 (.call 224 [(.t 16)]), mv 5 17])
 (.seq
 (.reg [mv 18 0, mv 19 5, rg 20 (.call 225 [(.t 18), (.t 19)]), mv 21 4, mv 22 5, rg 23 (.bin .add (.t 21) (.t 22)), mv 2 20, mv 3 23])
 (.pre (.norm false [2, 3]) .ret))))))
def b227 : AX :=
 (.seq
 (.reg [rg 4 (.mov (.c (.sl [] .nl)))])
 (.seq
 (.reg [mv 6 1, rg 7 (.bin .quo (.t 6) (.c (.i .i64 32))), rg 8 (.mks 1 [(u32 0)] (.t 7) (.t 7)), mv 9 0, rg 10 (.app 1 (.t 8) (.t 9)), mv 5 10])
 (.seq
 (.reg [mv 11 5, mv 12 1, rg 13 (.bin .rem (.t 12) (.c (.i .i64 32))), rg 14 (.bin .shl (.c (u32 1)) (.t 13)), rg 15 (.bsl 1 [(u32 0)] 1 [(0, (.t 14))]),
 rg 16 (.call 61 [(.t 11), (.t 15)]), mv 4 16])
 (.pre (.norm false [4]) .ret))))
def l228_0 : AX :=
 (.note
 (.block 1
 (.seq
 (.reg [mv 33 5, mv 34 6, rg 35 (.call 52 [(.t 33), (.t 34)]), mv 9 35])
 (.seq
 (.seq
 (.reg [mv 36 9, rg 37 (.bin .eql (.t 36) (.c (.i .i64 0)))])
 (.cond (.t 37)
 (.exit 0)
 .skip))
 (.seq
 (.seq
 (.reg [mv 38 9, rg 39 (.bin .lss (.t 38) (.c (.i .i64 0)))])
 (.cond (.t 39)
 (.seq
 (.reg [mv 40 5, mv 10 40])
 (.seq
 (.reg [mv 41 6, mv 5 41])
 (.reg [mv 42 10, mv 6 42])))
 .skip))
 (.seq
 (.reg [mv 43 5, mv 44 6, rg 45 (.call 2097 [(.t 43), (.t 44)])])
 (.reg [mv 47 5, rg 48 (.call 226 [(.t 47)]), mv 46 48, rg 49 (.ext (.t 46) 0), rg 50 (.ext (.t 46) 1), mv 5 49]))))))
 (.norm false [5, 6, 7, 8]))
def b228 : AX :=
 (.seq
 (.reg [rg 4 (.mov (.c (.sl [] .nl)))])
 (.seq
 (.reg [mv 11 0, rg 12 (.call 2043 [(.t 11)]), mv 5 12])
 (.seq
 (.reg [mv 13 1, rg 14 (.call 2043 [(.t 13)]), mv 6 14])
 (.seq
 (.seq
 (.reg [mv 15 5, rg 16 (.len (.t 15)), rg 17 (.bin .eql (.t 16) (.c (.i .i64 0)))])
 (.cond (.t 17)
 (.seq
 (.reg [mv 18 6, mv 4 18])
 (.pre (.norm false [4]) .ret))
 .skip))
 (.seq
 (.seq
 (.reg [mv 19 6, rg 20 (.len (.t 19)), rg 21 (.bin .eql (.t 20) (.c (.i .i64 0)))])
 (.cond (.t 21)
 (.seq
 (.reg [mv 22 5, mv 4 22])
 (.pre (.norm false [4]) .ret))
 .skip))
 (.seq
 (.reg [mv 24 5, rg 25 (.call 226 [(.t 24)]), mv 23 25, rg 26 (.ext (.t 23) 0), rg 27 (.ext (.t 23) 1), mv 5 26, mv 7 27])
 (.seq
 (.reg [mv 29 6, rg 30 (.call 226 [(.t 29)]), mv 28 30, rg 31 (.ext (.t 28) 0), rg 32 (.ext (.t 28) 1), mv 6 31, mv 8 32])
 (.seq
 (.lp 0 (.norm false [5, 6, 7, 8]) l228_0 (.norm false [5, 7, 8]))
 (.seq
 (.reg [mv 51 5, mv 52 7, mv 53 8, rg 54 (.mm false [(.t 52), (.t 53)]), rg 55 (.call 227 [(.t 51), (.t 54)]), mv 4 55])
 (.pre (.norm false [4]) .ret))))))))))
def b229 : AX :=
 (.seq
 (.reg [rg 2 (.mov (.c (.b false)))])
 (.seq
 (.reg [mv 3 0, rg 4 (.len (.t 3)), rg 5 (.bin .eql (.t 4) (.c (.i .i64 1))), mv 6 5, gd 7 6 true (.mov (.t 0)), gd 8 6 true (.iad 1 (.t 7) (.c (.i .i64 0))),
 gd 9 6 true (.load none (.t 8)), gd 10 6 true (.bin .eql (.t 9) (.c (u32 1))), rg 11 (.pick (.t 6) (.t 10) (.c (.b false))), mv 2 11])
 (.pre (.norm false [2]) .ret)))
def b230 : AX :=
 (.seq
 (.reg [rg 4 (.mov (.c (.sl [] .nl)))])
 (.seq
 (.seq
 (.reg [mv 7 1, rg 8 (.call 229 [(.t 7)])])
 (.cond (.t 8)
 (.seq
 (.reg [mv 9 0, rg 10 (.call 43 [(.t 9)]), mv 4 10])
 (.pre (.norm false [4]) .ret))
 .skip))
 (.seq
 (.reg [mv 12 0, mv 13 1, rg 14 (.call 63 [(.t 12), (.t 13)]), mv 11 14, rg 15 (.ext (.t 11) 0), rg 16 (.ext (.t 11) 1), mv 5 15, mv 6 16])
 (.seq
 (.reg [mv 17 5, mv 4 17])
 (.pre (.norm false [4]) .ret)))))
def l2097_0 : AX :=
 (.note
 (.seq
 (.seq
 (.reg [mv 8 5, mv 9 0, rg 10 (.len (.t 9)), rg 11 (.bin .lss (.t 8) (.t 10))])
 (.cond (.t 11)
 .skip
 (.exit 0)))
 (.seq
 (.block 1
 (.seq
 (.reg [mv 14 0, mv 15 5, rg 16 (.iad 1 (.t 14) (.t 15)), rg 17 (.load none (.t 16)), rg 18 (.conv .u64 (.t 17)), mv 6 18])
 (.seq
 (.reg [mv 19 1, mv 20 5, rg 21 (.call 84 [(.t 19), (.t 20)]), rg 22 (.conv .u64 (.t 21)), mv 23 4, rg 24 (.bin .add (.t 22) (.t 23)), mv 7 24])
 (.seq
 (.reg [rg 4 (.mov (.c (u64 0)))])
 (.seq
 (.seq
 (.reg [mv 25 6, mv 26 7, rg 27 (.bin .lss (.t 25) (.t 26))])
 (.cond (.t 27)
 (.seq
 (.reg [mv 28 6, rg 29 (.bin .add (.t 28) (.c (u64 4294967296))), mv 6 29])
 (.reg [rg 4 (.mov (.c (u64 1)))]))
 .skip))
 (.reg [mv 30 0, mv 31 5, mv 32 6, mv 33 7, rg 34 (.bin .sub (.t 32) (.t 33)), rg 35 (.conv .u32 (.t 34)), rg 36 (.iad 1 (.t 30) (.t 31)),
 so (.store 1 (.t 36) (.t 35))]))))))
 (.reg [mv 12 5, rg 13 (.bin .add (.t 12) (.c (.i .i64 1))), mv 5 13])))
 (.norm false [0, 1, 4, 5]))
def b2097 : AX :=
 (.seq
 (.reg [rg 4 (.mov (.c (u64 0)))])
 (.seq
 (.reg [rg 5 (.mov (.c (.i .i64 0)))])
 (.lp 0 (.norm false [0, 1, 4, 5]) l2097_0 (.norm false []))))
class CRef06 (T : Tbl) : Prop where
 h224 : T 224 = some ⟨1, 14, [.t 2], b224, none, false⟩
 h225 : T 225 = some ⟨2, 56, [.t 4], b225, (some [true, false]), false⟩
 h226 : T 226 = some ⟨1, 24, [.t 2, .t 3], b226, (some [true]), false⟩
 h227 : T 227 = some ⟨2, 17, [.t 4], b227, none, false⟩
 h228 : T 228 = some ⟨2, 56, [.t 4], b228, none, false⟩
 h229 : T 229 = some ⟨1, 12, [.t 2], b229, none, false⟩
 h230 : T 230 = some ⟨2, 18, [.t 4], b230, none, false⟩
 h2097 : T 2097 = some ⟨2, 37, [], b2097, (some [true, true]), false⟩
section
variable {T : Tbl} [CRef06 T] {d : Option Nat} {st : St} {xs : List AV} {ps : List Opd} {e : Env} {h : Heap} {ol : List Heap}
@[simp] theorem x224 : callX (orc T) T 224 xs d st = cP T 224 false xs d st := callX_pure CRef06.h224
theorem f224 (xs : List AV) (hn : xs.length = 1) : callF T 224 xs = retF [.t 2] false (evX (orc T) T 0 b224 ⟨argEnv xs, [], 1⟩) := callF_eq CRef06.h224 hn
@[simp] theorem x225 : callX (orc T) T 225 xs d st = cL T 225 false [true, false] xs d st := callX_lent CRef06.h225
theorem f225 (xs : List AV) (hb : Heap) (hn : xs.length = 2) : callH T 225 xs hb = retH [.t 4] false hb.length (evX (orc T) T hb.length b225 ⟨argEnv xs, hb, hb.length + 1⟩) := callH_eq CRef06.h225 hn
@[simp] theorem x226 : callX (orc T) T 226 xs d st = cL T 226 false [true] xs d st := callX_lent CRef06.h226
theorem f226 (xs : List AV) (hb : Heap) (hn : xs.length = 1) : callH T 226 xs hb = retH [.t 2, .t 3] false hb.length (evX (orc T) T hb.length b226 ⟨argEnv xs, hb, hb.length + 1⟩) := callH_eq CRef06.h226 hn
@[simp] theorem x227 : callX (orc T) T 227 xs d st = cP T 227 false xs d st := callX_pure CRef06.h227
theorem f227 (xs : List AV) (hn : xs.length = 2) : callF T 227 xs = retF [.t 4] false (evX (orc T) T 0 b227 ⟨argEnv xs, [], 1⟩) := callF_eq CRef06.h227 hn
@[simp] theorem x228 : callX (orc T) T 228 xs d st = cP T 228 false xs d st := callX_pure CRef06.h228
theorem f228 (xs : List AV) (hn : xs.length = 2) : callF T 228 xs = retF [.t 4] false (evX (orc T) T 0 b228 ⟨argEnv xs, [], 1⟩) := callF_eq CRef06.h228 hn
@[simp] theorem x229 : callX (orc T) T 229 xs d st = cP T 229 false xs d st := callX_pure CRef06.h229
theorem f229 (xs : List AV) (hn : xs.length = 1) : callF T 229 xs = retF [.t 2] false (evX (orc T) T 0 b229 ⟨argEnv xs, [], 1⟩) := callF_eq CRef06.h229 hn
@[simp] theorem x230 : callX (orc T) T 230 xs d st = cP T 230 false xs d st := callX_pure CRef06.h230
theorem f230 (xs : List AV) (hn : xs.length = 2) : callF T 230 xs = retF [.t 4] false (evX (orc T) T 0 b230 ⟨argEnv xs, [], 1⟩) := callF_eq CRef06.h230 hn
@[simp] theorem x2097 : callX (orc T) T 2097 xs d st = cL T 2097 false [true, true] xs d st := callX_lent CRef06.h2097
theorem f2097 (xs : List AV) (hb : Heap) (hn : xs.length = 2) : callH T 2097 xs hb = retH [] false hb.length (evX (orc T) T hb.length b2097 ⟨argEnv xs, hb, hb.length + 1⟩) := callH_eq CRef06.h2097 hn
end
end Go.Ab
end

section
namespace Go.Ab
section
variable {T : Tbl} [CRef07 T]
theorem ref02_norm_own (a : List UInt32) (hl : a.length ≤ 1000000) : callH T 2043 [.sl (u32s a) .an] [] =
    some (.bs (.loc 22) 1 1 0 (ofN (val a)).length, [(.loc 22, ⟨1, .own, 1, u32s (ofN (val a))⟩)]) := by
  obtain ⟨n, h1, h2, h3, h4⟩ := ofN_take a
  have hr := ref02_norm_loop (T := T) a (by omega) h1 h3 h4 a.length ⟨h1, Nat.le_refl _⟩
  rw [show l43_0 = l2043_0 from rfl] at hr
  have hlen : (ofN (val a)).length = n := by rw [← h2]; simp; omega
  have hb : n ≤ 4294967296 := by omega
  rw [f2043 _ _ rfl, b2043]
  simp -implicitDefEqProofs [hr, h1, h2, hb, hlen]
def stTen (N : Nat) (y : Nat × Nat × List UInt32) (P : List UInt32) : St :=
  ⟨[(0, .bs (.bor 0) 0 1 0 N), (3, u64 y.2.1), (4, .i .i64 ((y.1 : Int) - 1))], [(.bor 0, ⟨0, .own, 1, u32s (P.take y.1 ++ y.2.2)⟩)], 4⟩
end
section
variable {T : Tbl} [CRef07 T]
def stTx (b : BId) (x : List UInt32) (s : List UInt8) : St := ⟨[(3, .bs b 1 1 0 x.length), (4, .s s)], [(b, ⟨1, .own, 1, u32s x⟩)], 3⟩
end
end Go.Ab
end

section
namespace Go.Ab
def b39 : AX :=
 (.seq
 (.reg [⟨(some 1), none, .xop (.box 2) [(.t 0)]⟩,
 ⟨(some 2), none, .alloc [(.b false), (.sl [] .nl)]⟩])
 (.seq
 (.reg [⟨(some 4), none, .fad 1 (.t 1)⟩,
 ⟨(some 5), none, .load none (.t 4)⟩,
 ⟨(some 6), none, .call 43 [(.t 5)]⟩,
 ⟨(some 3), none, .mov (.t 6)⟩])
 (.seq
 (.reg [⟨(some 7), none, .fad 0 (.t 1)⟩,
 ⟨(some 8), none, .load none (.t 7)⟩,
 ⟨(some 9), none, .mov (.t 8)⟩,
 ⟨(some 10), (some (9, true)), .mov (.t 3)⟩,
 ⟨(some 11), (some (9, true)), .len (.t 10)⟩,
 ⟨(some 12), (some (9, true)), .bin .gtr (.t 11) (.c (.i .i64 0))⟩,
 ⟨(some 13), none, .pick (.t 9) (.t 12) (.c (.b false))⟩,
 ⟨(some 14), none, .mov (.t 3)⟩,
 ⟨(some 15), none, .build [(.b false), (.sl [] .nl)] [(0, 1, (.t 13)), (1, 1, (.t 14))]⟩,
 ⟨none, none, .store 2 (.t 2) (.t 15)⟩])
 (.pre (.norm false [2]) .ret))))
def b24 : AX :=
 (.seq
 (.reg [⟨(some 2), none, .xop (.box 2) [(.t 0)]⟩,
 ⟨(some 3), none, .xop (.box 2) [(.t 1)]⟩,
 ⟨(some 4), none, .alloc [(.b false), (.sl [] .nl)]⟩])
 (.seq
 (.seq
 (.reg [⟨(some 5), none, .fad 0 (.t 2)⟩,
 ⟨(some 6), none, .load none (.t 5)⟩,
 ⟨(some 7), none, .fad 0 (.t 3)⟩,
 ⟨(some 8), none, .load none (.t 7)⟩,
 ⟨(some 9), none, .eqb false (.t 6) (.t 8)⟩])
 (.cond (.t 9)
 (.seq
 (.drawT [⟨(some 10), none, .fad 0 (.t 2)⟩,
 ⟨(some 11), none, .load none (.t 10)⟩,
 ⟨(some 12), none, .fad 1 (.t 2)⟩,
 ⟨(some 13), none, .load none (.t 12)⟩,
 ⟨(some 14), none, .fad 1 (.t 3)⟩,
 ⟨(some 15), none, .load none (.t 14)⟩,
 ⟨(some 16), none, .call 58 [(.t 13), (.t 15)]⟩]
 [⟨(some 17), none, .build [(.b false), (.sl [] .nl)] [(0, 1, (.t 11)), (1, 1, (.t 16))]⟩,
 ⟨(some 18), none, .call 39 [(.t 17)]⟩,
 ⟨none, none, .store 2 (.t 4) (.t 18)⟩])
 (.pre (.norm false [4]) .ret))
 .skip))
 (.seq
 (.seq
 (.reg [⟨(some 19), none, .fad 1 (.t 2)⟩,
 ⟨(some 20), none, .load none (.t 19)⟩,
 ⟨(some 21), none, .fad 1 (.t 3)⟩,
 ⟨(some 22), none, .load none (.t 21)⟩,
 ⟨(some 23), none, .call 52 [(.t 20), (.t 22)]⟩,
 ⟨(some 24), none, .bin .lss (.t 23) (.c (.i .i64 0))⟩])
 (.cond (.t 24)
 (.seq
 (.drawT [⟨(some 25), none, .fad 0 (.t 3)⟩,
 ⟨(some 26), none, .load none (.t 25)⟩,
 ⟨(some 27), none, .fad 1 (.t 3)⟩,
 ⟨(some 28), none, .load none (.t 27)⟩,
 ⟨(some 29), none, .fad 1 (.t 2)⟩,
 ⟨(some 30), none, .load none (.t 29)⟩,
 ⟨(some 31), none, .call 59 [(.t 28), (.t 30)]⟩]
 [⟨(some 32), none, .build [(.b false), (.sl [] .nl)] [(0, 1, (.t 26)), (1, 1, (.t 31))]⟩,
 ⟨(some 33), none, .call 39 [(.t 32)]⟩,
 ⟨none, none, .store 2 (.t 4) (.t 33)⟩])
 (.pre (.norm false [4]) .ret))
 .skip))
 (.seq
 (.drawT [⟨(some 34), none, .fad 0 (.t 2)⟩,
 ⟨(some 35), none, .load none (.t 34)⟩,
 ⟨(some 36), none, .fad 1 (.t 2)⟩,
 ⟨(some 37), none, .load none (.t 36)⟩,
 ⟨(some 38), none, .fad 1 (.t 3)⟩,
 ⟨(some 39), none, .load none (.t 38)⟩,
 ⟨(some 40), none, .call 59 [(.t 37), (.t 39)]⟩]
 [⟨(some 41), none, .build [(.b false), (.sl [] .nl)] [(0, 1, (.t 35)), (1, 1, (.t 40))]⟩,
 ⟨(some 42), none, .call 39 [(.t 41)]⟩,
 ⟨none, none, .store 2 (.t 4) (.t 42)⟩])
 (.pre (.norm false [4]) .ret)))))
class CRef08 (T : Tbl) : Prop extends CRef07 T where
 h39 : T 39 = some ⟨1, 16, [.cell 2 (some 2)], b39, none, false⟩
 h24 : T 24 = some ⟨2, 43, [.cell 4 (some 2)], b24, none, false⟩
section
variable {T : Tbl} [CRef08 T] {d : Option Nat} {st : St}
@[simp] theorem x39 (xs : List AV) : callX (orc T) T 39 xs d st = bL (frzL st.heap xs) fun ys => cR (callF T 39 (ys.map (wkIf false))) xs d st := callX_pure CRef08.h39
theorem f39 (xs : List AV) (hn : xs.length = 1) : callF T 39 xs = retF [.cell 2 (some 2)] false (evX (orc T) T 0 b39 ⟨argEnv xs, [], 1⟩) := callF_eq CRef08.h39 hn
@[simp] theorem x24 (xs : List AV) : callX (orc T) T 24 xs d st = bL (frzL st.heap xs) fun ys => cR (callF T 24 (ys.map (wkIf false))) xs d st := callX_pure CRef08.h24
theorem f24 (xs : List AV) (hn : xs.length = 2) : callF T 24 xs = retF [.cell 4 (some 2)] false (evX (orc T) T 0 b24 ⟨argEnv xs, [], 1⟩) := callF_eq CRef08.h24 hn
end
end Go.Ab
end

section
namespace Go.Ab
def b231 : AX :=
 (.seq
 (.reg [rg 1 (.xop (.box 3) [(.t 0)]), rg 2 (.alloc [(.b false), (.sl [] .nl), (.sl [] .nl)])])
 (.seq
 (.reg [rg 6 (.fad 2 (.t 1)), rg 7 (.load none (.t 6)), rg 8 (.call 43 [(.t 7)]), mv 3 8])
 (.seq
 (.reg [rg 9 (.fad 1 (.t 1)), rg 10 (.load none (.t 9)), rg 11 (.call 43 [(.t 10)]), mv 4 11])
 (.seq
 (.seq
 (.reg [mv 12 3, rg 13 (.len (.t 12)), rg 14 (.bin .eql (.t 13) (.c (.i .i64 0))), mv 15 14, gd 16 15 false (.mov (.t 4)), gd 17 15 false (.len (.t 16)),
 gd 18 15 false (.bin .eql (.t 17) (.c (.i .i64 0))), rg 19 (.pick (.t 15) (.c (.b true)) (.t 18))])
 (.cond (.t 19)
 (.seq
 (.reg [rg 20 (.bsl 1 [(u32 0)] 0 []), rg 21 (.bsl 1 [(u32 0)] 1 [(0, (.c (u32 1)))]),
 rg 22 (.build [(.b false), (.sl [] .nl), (.sl [] .nl)] [(1, 1, (.t 20)), (2, 1, (.t 21))]), so (.store 3 (.t 2) (.t 22))])
 (.pre (.norm false [2]) .ret))
 .skip))
 (.seq
 (.seq
 (.reg [mv 23 3, rg 24 (.call 229 [(.t 23)]), rg 25 (.un .not (.t 24))])
 (.cond (.t 25)
 (.seq
 (.reg [mv 26 4, mv 27 3, rg 28 (.call 228 [(.t 26), (.t 27)]), mv 5 28])
 (.seq
 (.reg [mv 29 4, mv 30 5, rg 31 (.call 230 [(.t 29), (.t 30)]), mv 4 31])
 (.reg [mv 32 3, mv 33 5, rg 34 (.call 230 [(.t 32), (.t 33)]), mv 3 34])))
 .skip))
 (.seq
 (.reg [rg 35 (.fad 0 (.t 1)), rg 36 (.load none (.t 35)), mv 37 4, mv 38 3,
 rg 39 (.build [(.b false), (.sl [] .nl), (.sl [] .nl)] [(0, 1, (.t 36)), (1, 1, (.t 37)), (2, 1, (.t 38))]), so (.store 3 (.t 2) (.t 39))])
 (.pre (.norm false [2]) .ret)))))))
def b232 : AX :=
 (.seq
 (.reg [rg 2 (.alloc [(.b false), (.sl [] .nl), (.sl [] .nl)])])
 (.seq
 (.seq
 (.reg [mv 3 0, rg 4 (.bin .lss (.t 3) (.c (.i .i64 0)))])
 (.cond (.t 4)
 (.seq
 (.reg [mv 5 0, rg 6 (.bin .add (.t 5) (.c (.i .i64 1))), rg 7 (.un .neg (.t 6)), rg 8 (.conv .u64 (.t 7)), rg 9 (.call 353 [(.t 8)]),
 rg 10 (.bsl 1 [(u32 0)] 1 [(0, (.c (u32 1)))]), rg 11 (.call 58 [(.t 9), (.t 10)]), rg 12 (.bsl 1 [(u32 0)] 1 [(0, (.c (u32 1)))]),
 rg 13 (.build [(.b false), (.sl [] .nl), (.sl [] .nl)] [(0, 1, (.c (.b true))), (1, 1, (.t 11)), (2, 1, (.t 12))]), rg 14 (.call 231 [(.t 13)]),
 so (.store 3 (.t 2) (.t 14))])
 (.pre (.norm false [2]) .ret))
 .skip))
 (.seq
 (.reg [mv 15 0, rg 16 (.conv .u64 (.t 15)), rg 17 (.call 353 [(.t 16)]), rg 18 (.bsl 1 [(u32 0)] 1 [(0, (.c (u32 1)))]),
 rg 19 (.build [(.b false), (.sl [] .nl), (.sl [] .nl)] [(1, 1, (.t 17)), (2, 1, (.t 18))]), rg 20 (.call 231 [(.t 19)]), so (.store 3 (.t 2) (.t 20))])
 (.pre (.norm false [2]) .ret))))
def b233 : AX :=
 (.seq
 (.reg [rg 2 (.xop (.box 3) [(.t 0)]), rg 3 (.xop (.box 3) [(.t 1)]), rg 4 (.mov (.c (.b false)))])
 (.seq
 (.reg [rg 5 (.fad 0 (.t 2)), rg 6 (.load none (.t 5)), rg 7 (.fad 0 (.t 3)), rg 8 (.load none (.t 7)), rg 9 (.eqb false (.t 6) (.t 8)), mv 10 9,
 gd 11 10 true (.fad 1 (.t 2)), gd 12 10 true (.load none (.t 11)), gd 13 10 true (.fad 1 (.t 3)), gd 14 10 true (.load none (.t 13)),
 gd 15 10 true (.call 54 [(.t 12), (.t 14)]), rg 16 (.pick (.t 10) (.t 15) (.c (.b false))), mv 17 16, gd 18 17 true (.fad 2 (.t 2)),
 gd 19 17 true (.load none (.t 18)), gd 20 17 true (.fad 2 (.t 3)), gd 21 17 true (.load none (.t 20)), gd 22 17 true (.call 54 [(.t 19), (.t 21)]),
 rg 23 (.pick (.t 17) (.t 22) (.c (.b false))), mv 4 23])
 (.pre (.norm false [4]) .ret)))
def b235 : AX :=
 (.seq
 (.reg [rg 1 (.xop (.box 3) [(.t 0)]), rg 2 (.mov (.c (.b false)))])
 (.seq
 (.reg [rg 3 (.fad 1 (.t 1)), rg 4 (.load none (.t 3)), rg 5 (.len (.t 4)), rg 6 (.bin .eql (.t 5) (.c (.i .i64 0))), mv 2 6])
 (.pre (.norm false [2]) .ret)))
def b236 : AX :=
 (.seq
 (.reg [rg 1 (.xop (.box 3) [(.t 0)]), rg 2 (.mov (.c (.i .i64 0)))])
 (.seq
 (.seq
 (.reg [rg 3 (.fad 1 (.t 1)), rg 4 (.load none (.t 3)), rg 5 (.len (.t 4)), rg 6 (.bin .eql (.t 5) (.c (.i .i64 0)))])
 (.cond (.t 6)
 (.seq
 (.reg [rg 2 (.mov (.c (.i .i64 0)))])
 (.pre (.norm false [2]) .ret))
 .skip))
 (.seq
 (.seq
 (.reg [rg 7 (.fad 0 (.t 1)), rg 8 (.load none (.t 7))])
 (.cond (.t 8)
 (.seq
 (.reg [rg 2 (.mov (.c (.i .i64 (-1))))])
 (.pre (.norm false [2]) .ret))
 .skip))
 (.seq
 (.reg [rg 2 (.mov (.c (.i .i64 1)))])
 (.pre (.norm false [2]) .ret)))))
def b237 : AX :=
 (.seq
 (.reg [rg 1 (.xop (.box 3) [(.t 0)]), rg 2 (.alloc [(.b false), (.sl [] .nl), (.sl [] .nl)])])
 (.seq
 (.reg [rg 3 (.fad 0 (.t 1)), rg 4 (.load none (.t 3)), rg 5 (.un .not (.t 4)), rg 6 (.fad 1 (.t 1)), rg 7 (.load none (.t 6)), rg 8 (.fad 2 (.t 1)),
 rg 9 (.load none (.t 8)), rg 10 (.build [(.b false), (.sl [] .nl), (.sl [] .nl)] [(0, 1, (.t 5)), (1, 1, (.t 7)), (2, 1, (.t 9))]),
 rg 11 (.call 231 [(.t 10)]), so (.store 3 (.t 2) (.t 11))])
 (.pre (.norm false [2]) .ret)))
def b239 : AX :=
 (.seq
 (.reg [rg 2 (.xop (.box 3) [(.t 0)]), rg 3 (.xop (.box 3) [(.t 1)]), rg 4 (.alloc [(.b false), (.sl [] .nl), (.sl [] .nl)])])
 (.seq
 (.draw [⟨rg 8 (.fad 0 (.t 2)), 0, 1⟩, ⟨rg 9 (.load none (.t 8)), 0, 1⟩, ⟨rg 10 (.fad 1 (.t 2)), 0, 1⟩, ⟨rg 11 (.load none (.t 10)), 0, 1⟩,
 ⟨rg 12 (.fad 2 (.t 3)), 0, 1⟩, ⟨rg 13 (.load none (.t 12)), 0, 1⟩, ⟨rg 14 (.call 61 [(.t 11), (.t 13)]), 0, 1⟩,
 ⟨rg 15 (.build [(.b false), (.sl [] .nl)] [(0, 1, (.t 9)), (1, 1, (.t 14))]), 0, 1⟩, ⟨rg 5 (.alloc [(.b false), (.sl [] .nl)]), 0, 1⟩,
 ⟨so (.store 2 (.t 5) (.t 15)), 1, 2⟩])
 (.seq
 (.draw [⟨rg 16 (.fad 0 (.t 3)), 0, 1⟩, ⟨rg 17 (.load none (.t 16)), 0, 1⟩, ⟨rg 18 (.fad 1 (.t 3)), 0, 1⟩, ⟨rg 19 (.load none (.t 18)), 0, 1⟩,
 ⟨rg 20 (.fad 2 (.t 2)), 0, 1⟩, ⟨rg 21 (.load none (.t 20)), 0, 1⟩, ⟨rg 22 (.call 61 [(.t 19), (.t 21)]), 0, 1⟩,
 ⟨rg 23 (.build [(.b false), (.sl [] .nl)] [(0, 1, (.t 17)), (1, 1, (.t 22))]), 0, 1⟩, ⟨rg 6 (.alloc [(.b false), (.sl [] .nl)]), 0, 1⟩,
 ⟨so (.store 2 (.t 6) (.t 23)), 1, 2⟩])
 (.seq
 (.reg [rg 24 (.load (some 2) (.t 5)), rg 25 (.load (some 2) (.t 6)), rg 26 (.call 24 [(.t 24), (.t 25)]), rg 7 (.alloc [(.b false), (.sl [] .nl)]),
 so (.store 2 (.t 7) (.t 26))])
 (.seq
 (.drawT [rg 27 (.fad 0 (.t 7)), rg 28 (.load none (.t 27)), rg 29 (.fad 1 (.t 7)), rg 30 (.load none (.t 29)), rg 31 (.fad 2 (.t 2)), rg 32 (.load none (.t 31)),
 rg 33 (.fad 2 (.t 3)), rg 34 (.load none (.t 33)), rg 35 (.call 61 [(.t 32), (.t 34)])]
 [rg 36 (.build [(.b false), (.sl [] .nl), (.sl [] .nl)] [(0, 1, (.t 28)), (1, 1, (.t 30)), (2, 1, (.t 35))]), rg 37 (.call 231 [(.t 36)]),
 so (.store 3 (.t 4) (.t 37))])
 (.pre (.norm false [4]) .ret))))))
def b240 : AX :=
 (.seq
 (.reg [rg 2 (.xop (.box 3) [(.t 0)]), rg 3 (.xop (.box 3) [(.t 1)]), rg 4 (.alloc [(.b false), (.sl [] .nl), (.sl [] .nl)])])
 (.seq
 (.drawT [rg 5 (.load (some 3) (.t 2)), rg 6 (.load (some 3) (.t 3)), rg 7 (.call 237 [(.t 6)])]
 [rg 8 (.call 239 [(.t 5), (.t 7)]), so (.store 3 (.t 4) (.t 8))])
 (.pre (.norm false [4]) .ret)))
def b241 : AX :=
 (.seq
 (.reg [rg 2 (.xop (.box 3) [(.t 0)]), rg 3 (.xop (.box 3) [(.t 1)]), rg 4 (.alloc [(.b false), (.sl [] .nl), (.sl [] .nl)])])
 (.seq
 (.drawT [rg 5 (.fad 0 (.t 2)), rg 6 (.load none (.t 5)), rg 7 (.fad 0 (.t 3)), rg 8 (.load none (.t 7)), rg 9 (.eqb true (.t 6) (.t 8)), rg 10 (.fad 1 (.t 2)),
 rg 11 (.load none (.t 10)), rg 12 (.fad 1 (.t 3)), rg 13 (.load none (.t 12)), rg 14 (.call 61 [(.t 11), (.t 13)]), rg 15 (.fad 2 (.t 2)),
 rg 16 (.load none (.t 15)), rg 17 (.fad 2 (.t 3)), rg 18 (.load none (.t 17)), rg 19 (.call 61 [(.t 16), (.t 18)])]
 [rg 20 (.build [(.b false), (.sl [] .nl), (.sl [] .nl)] [(0, 1, (.t 9)), (1, 1, (.t 14)), (2, 1, (.t 19))]), rg 21 (.call 231 [(.t 20)]),
 so (.store 3 (.t 4) (.t 21))])
 (.pre (.norm false [4]) .ret)))
def b242 : AX :=
 (.seq
 (.reg [rg 2 (.xop (.box 3) [(.t 0)]), rg 3 (.xop (.box 3) [(.t 1)]), rg 4 (.alloc [(.b false), (.sl [] .nl), (.sl [] .nl)])])
 (.seq
 (.drawT [rg 5 (.fad 0 (.t 2)), rg 6 (.load none (.t 5)), rg 7 (.fad 0 (.t 3)), rg 8 (.load none (.t 7)), rg 9 (.eqb true (.t 6) (.t 8)), rg 10 (.fad 1 (.t 2)),
 rg 11 (.load none (.t 10)), rg 12 (.fad 2 (.t 3)), rg 13 (.load none (.t 12)), rg 14 (.call 61 [(.t 11), (.t 13)]), rg 15 (.fad 2 (.t 2)),
 rg 16 (.load none (.t 15)), rg 17 (.fad 1 (.t 3)), rg 18 (.load none (.t 17)), rg 19 (.call 61 [(.t 16), (.t 18)])]
 [rg 20 (.build [(.b false), (.sl [] .nl), (.sl [] .nl)] [(0, 1, (.t 9)), (1, 1, (.t 14)), (2, 1, (.t 19))]), rg 21 (.call 231 [(.t 20)]),
 so (.store 3 (.t 4) (.t 21))])
 (.pre (.norm false [4]) .ret)))
def b247 : AX :=
 (.seq
 (.reg [rg 2 (.xop (.box 3) [(.t 0)]), rg 4 (.mov (.c (.b false)))])
 (.seq
 (.reg [rg 5 (.fad 1 (.t 2)), rg 6 (.load none (.t 5)), rg 7 (.len (.t 6)), mv 8 1, rg 9 (.bin .gtr (.t 7) (.t 8)), mv 10 9, gd 11 10 false (.fad 2 (.t 2)),
 gd 12 10 false (.load none (.t 11)), gd 13 10 false (.len (.t 12)), gd 14 10 false (.mov (.t 1)), gd 15 10 false (.bin .gtr (.t 13) (.t 14)),
 rg 16 (.pick (.t 10) (.c (.b true)) (.t 15)), mv 4 16])
 (.pre (.norm false [4]) .ret)))
def b353 : AX :=
 (.seq
 (.reg [rg 2 (.mov (.c (.sl [] .nl)))])
 (.seq
 (.reg [mv 3 0, rg 4 (.bin .rem (.t 3) (.c (u64 4294967296))), rg 5 (.conv .u32 (.t 4)), mv 6 0, rg 7 (.bin .quo (.t 6) (.c (u64 4294967296))),
 rg 8 (.conv .u32 (.t 7)), rg 9 (.bsl 1 [(u32 0)] 2 [(0, (.t 5)), (1, (.t 8))]), rg 10 (.call 43 [(.t 9)]), mv 2 10])
 (.pre (.norm false [2]) .ret)))
class CRef09 (T : Tbl) : Prop where
 h231 : T 231 = some ⟨1, 40, [.cell 2 (some 3)], b231, none, false⟩
 h232 : T 232 = some ⟨1, 21, [.cell 2 (some 3)], b232, none, false⟩
 h233 : T 233 = some ⟨2, 24, [.t 4], b233, none, false⟩
 h235 : T 235 = some ⟨1, 7, [.t 2], b235, none, false⟩
 h236 : T 236 = some ⟨1, 9, [.t 2], b236, none, false⟩
 h237 : T 237 = some ⟨1, 12, [.cell 2 (some 3)], b237, none, false⟩
 h239 : T 239 = some ⟨2, 38, [.cell 4 (some 3)], b239, none, false⟩
 h240 : T 240 = some ⟨2, 9, [.cell 4 (some 3)], b240, none, false⟩
 h241 : T 241 = some ⟨2, 22, [.cell 4 (some 3)], b241, none, false⟩
 h242 : T 242 = some ⟨2, 22, [.cell 4 (some 3)], b242, none, false⟩
 h247 : T 247 = some ⟨2, 17, [.t 4], b247, none, false⟩
 h353 : T 353 = some ⟨1, 11, [.t 2], b353, none, false⟩
section
variable {T : Tbl} [CRef09 T] {d : Option Nat} {st : St} {xs : List AV} {ps : List Opd} {e : Env} {h : Heap} {ol : List Heap}
@[simp] theorem x231 : callX (orc T) T 231 xs d st = cP T 231 false xs d st := callX_pure CRef09.h231
@[simp] theorem y231 : opD (orc T) T (.call 231 ps) e h ol = dP T 231 false ps e := opD_call CRef09.h231
theorem f231 (xs : List AV) (hn : xs.length = 1) : callF T 231 xs = retF [.cell 2 (some 3)] false (evX (orc T) T 0 b231 ⟨argEnv xs, [], 1⟩) := callF_eq CRef09.h231 hn
@[simp] theorem x232 : callX (orc T) T 232 xs d st = cP T 232 false xs d st := callX_pure CRef09.h232
@[simp] theorem y232 : opD (orc T) T (.call 232 ps) e h ol = dP T 232 false ps e := opD_call CRef09.h232
theorem f232 (xs : List AV) (hn : xs.length = 1) : callF T 232 xs = retF [.cell 2 (some 3)] false (evX (orc T) T 0 b232 ⟨argEnv xs, [], 1⟩) := callF_eq CRef09.h232 hn
@[simp] theorem x233 : callX (orc T) T 233 xs d st = cP T 233 false xs d st := callX_pure CRef09.h233
theorem f233 (xs : List AV) (hn : xs.length = 2) : callF T 233 xs = retF [.t 4] false (evX (orc T) T 0 b233 ⟨argEnv xs, [], 1⟩) := callF_eq CRef09.h233 hn
@[simp] theorem x235 : callX (orc T) T 235 xs d st = cP T 235 false xs d st := callX_pure CRef09.h235
theorem f235 (xs : List AV) (hn : xs.length = 1) : callF T 235 xs = retF [.t 2] false (evX (orc T) T 0 b235 ⟨argEnv xs, [], 1⟩) := callF_eq CRef09.h235 hn
@[simp] theorem x236 : callX (orc T) T 236 xs d st = cP T 236 false xs d st := callX_pure CRef09.h236
theorem f236 (xs : List AV) (hn : xs.length = 1) : callF T 236 xs = retF [.t 2] false (evX (orc T) T 0 b236 ⟨argEnv xs, [], 1⟩) := callF_eq CRef09.h236 hn
@[simp] theorem y237 : opD (orc T) T (.call 237 ps) e h ol = dP T 237 false ps e := opD_call CRef09.h237
theorem f237 (xs : List AV) (hn : xs.length = 1) : callF T 237 xs = retF [.cell 2 (some 3)] false (evX (orc T) T 0 b237 ⟨argEnv xs, [], 1⟩) := callF_eq CRef09.h237 hn
@[simp] theorem x239 : callX (orc T) T 239 xs d st = cP T 239 false xs d st := callX_pure CRef09.h239
theorem f239 (xs : List AV) (hn : xs.length = 2) : callF T 239 xs = retF [.cell 4 (some 3)] false (evX (orc T) T 0 b239 ⟨argEnv xs, [], 1⟩) := callF_eq CRef09.h239 hn
@[simp] theorem x240 : callX (orc T) T 240 xs d st = cP T 240 false xs d st := callX_pure CRef09.h240
@[simp] theorem y240 : opD (orc T) T (.call 240 ps) e h ol = dP T 240 false ps e := opD_call CRef09.h240
theorem f240 (xs : List AV) (hn : xs.length = 2) : callF T 240 xs = retF [.cell 4 (some 3)] false (evX (orc T) T 0 b240 ⟨argEnv xs, [], 1⟩) := callF_eq CRef09.h240 hn
@[simp] theorem x241 : callX (orc T) T 241 xs d st = cP T 241 false xs d st := callX_pure CRef09.h241
@[simp] theorem y241 : opD (orc T) T (.call 241 ps) e h ol = dP T 241 false ps e := opD_call CRef09.h241
theorem f241 (xs : List AV) (hn : xs.length = 2) : callF T 241 xs = retF [.cell 4 (some 3)] false (evX (orc T) T 0 b241 ⟨argEnv xs, [], 1⟩) := callF_eq CRef09.h241 hn
@[simp] theorem y242 : opD (orc T) T (.call 242 ps) e h ol = dP T 242 false ps e := opD_call CRef09.h242
theorem f242 (xs : List AV) (hn : xs.length = 2) : callF T 242 xs = retF [.cell 4 (some 3)] false (evX (orc T) T 0 b242 ⟨argEnv xs, [], 1⟩) := callF_eq CRef09.h242 hn
@[simp] theorem x247 : callX (orc T) T 247 xs d st = cP T 247 false xs d st := callX_pure CRef09.h247
theorem f247 (xs : List AV) (hn : xs.length = 2) : callF T 247 xs = retF [.t 4] false (evX (orc T) T 0 b247 ⟨argEnv xs, [], 1⟩) := callF_eq CRef09.h247 hn
@[simp] theorem x353 : callX (orc T) T 353 xs d st = cP T 353 false xs d st := callX_pure CRef09.h353
theorem f353 (xs : List AV) (hn : xs.length = 1) : callF T 353 xs = retF [.t 2] false (evX (orc T) T 0 b353 ⟨argEnv xs, [], 1⟩) := callF_eq CRef09.h353 hn
end
end Go.Ab
end

section
namespace Go.Ab
def l278_0 : AX :=
 (.note
 (.seq
 (.seq
 (.reg [mv 5 4, mv 6 0, rg 7 (.len (.t 6)), rg 8 (.bin .lss (.t 5) (.t 7))])
 (.cond (.t 8)
 .skip
 (.exit 0)))
 (.seq
 (.block 1
 (.reg [mv 11 3, mv 12 0, mv 13 4, rg 14 (.iad 3 (.t 12) (.t 13)), rg 15 (.load (some 3) (.t 14)), rg 16 (.call 231 [(.t 15)]),
 rg 17 (.bsl 3 [(.b false), (.sl [] .nl), (.sl [] .nl)] 1 [(0, (.t 16))]), rg 18 (.app 3 (.t 11) (.t 17)), mv 3 18]))
 (.reg [mv 9 4, rg 10 (.bin .add (.t 9) (.c (.i .i64 1))), mv 4 10])))
 (.norm false [0, 3, 4]))
def b278 : AX :=
 (.seq
 (.reg [rg 2 (.mov (.c (.sl [] .nl)))])
 (.seq
 (.note (.reg [rg 3 (.mov (.c (.sl [] .nl)))]) (.nil 3 3))
 (.seq
 (.seq
 (.reg [rg 4 (.mov (.c (.i .i64 0)))])
 (.lp 0 (.norm false [0, 3, 4]) l278_0 (.norm false [3])))
 (.seq
 (.reg [mv 19 3, mv 2 19])
 (.pre (.norm false [2]) .ret)))))
def l279_0 : AX :=
 (.note
 (.seq
 (.seq
 (.reg [mv 11 5, mv 12 0, rg 13 (.len (.t 12)), rg 14 (.bin .lss (.t 11) (.t 13))])
 (.cond (.t 14)
 .skip
 (.exit 0)))
 (.seq
 (.block 1
 (.seq
 (.drawT [mv 17 0, mv 18 5, rg 19 (.iad 3 (.t 17) (.t 18)), rg 20 (.load (some 3) (.t 19)), mv 21 1, mv 22 5, rg 23 (.iad 3 (.t 21) (.t 22)),
 rg 24 (.load (some 3) (.t 23))]
 [rg 25 (.call 233 [(.t 20), (.t 24)]), rg 26 (.un .not (.t 25))])
 (.cond (.t 26)
 (.seq
 (.reg [rg 4 (.mov (.c (.b false)))])
 (.pre (.norm false [4]) .ret))
 .skip)))
 (.reg [mv 15 5, rg 16 (.bin .add (.t 15) (.c (.i .i64 1))), mv 5 16])))
 (.norm false [0, 1, 5]))
def b279 : AX :=
 (.seq
 (.reg [rg 4 (.mov (.c (.b false)))])
 (.seq
 (.seq
 (.reg [mv 6 0, rg 7 (.len (.t 6)), mv 8 1, rg 9 (.len (.t 8)), rg 10 (.bin .neq (.t 7) (.t 9))])
 (.cond (.t 10)
 (.seq
 (.reg [rg 4 (.mov (.c (.b false)))])
 (.pre (.norm false [4]) .ret))
 .skip))
 (.seq
 (.seq
 (.reg [rg 5 (.mov (.c (.i .i64 0)))])
 (.lp 0 (.norm false [0, 1, 5]) l279_0 (.norm false [])))
 (.seq
 (.reg [rg 4 (.mov (.c (.b true)))])
 (.pre (.norm false [4]) .ret)))))
def l286_0 : AX :=
 (.note
 (.seq
 (.seq
 (.reg [mv 8 7, mv 9 0, rg 10 (.len (.t 9)), rg 11 (.bin .lss (.t 8) (.t 10)), mv 12 11, gd 13 12 true (.mov (.t 7)), gd 14 12 true (.mov (.t 1)),
 gd 15 12 true (.bin .lss (.t 13) (.t 14)), rg 16 (.pick (.t 12) (.t 15) (.c (.b false)))])
 (.cond (.t 16)
 .skip
 (.exit 0)))
 (.seq
 (.block 1
 (.seq
 (.reg [mv 19 0, mv 20 7, rg 21 (.iad 3 (.t 19) (.t 20)), rg 22 (.load (some 3) (.t 21)), mv 23 2, rg 24 (.call 247 [(.t 22), (.t 23)])])
 (.cond (.t 24)
 (.seq
 (.reg [rg 6 (.mov (.c (.b true)))])
 (.pre (.norm false [6]) .ret))
 .skip)))
 (.reg [mv 17 7, rg 18 (.bin .add (.t 17) (.c (.i .i64 1))), mv 7 18])))
 (.norm false [0, 1, 2, 7]))
def b286 : AX :=
 (.seq
 (.reg [rg 6 (.mov (.c (.b false)))])
 (.seq
 (.seq
 (.reg [rg 7 (.mov (.c (.i .i64 0)))])
 (.lp 0 (.norm false [0, 1, 2, 7]) l286_0 (.norm false [0, 1])))
 (.seq
 (.reg [mv 25 0, rg 26 (.len (.t 25)), mv 27 1, rg 28 (.bin .gtr (.t 26) (.t 27)), mv 6 28])
 (.pre (.norm false [6]) .ret))))
class CRef11 (T : Tbl) : Prop where
 h278 : T 278 = some ⟨1, 20, [.t 2], b278, none, false⟩
 h279 : T 279 = some ⟨2, 27, [.t 4], b279, none, false⟩
 h286 : T 286 = some ⟨3, 29, [.t 6], b286, none, false⟩
section
variable {T : Tbl} [CRef11 T] {d : Option Nat} {st : St} {xs : List AV} {ps : List Opd} {e : Env} {h : Heap} {ol : List Heap}
@[simp] theorem x278 : callX (orc T) T 278 xs d st = cP T 278 false xs d st := callX_pure CRef11.h278
@[simp] theorem y278 : opD (orc T) T (.call 278 ps) e h ol = dP T 278 false ps e := opD_call CRef11.h278
theorem f278 (xs : List AV) (hn : xs.length = 1) : callF T 278 xs = retF [.t 2] false (evX (orc T) T 0 b278 ⟨argEnv xs, [], 1⟩) := callF_eq CRef11.h278 hn
@[simp] theorem x279 : callX (orc T) T 279 xs d st = cP T 279 false xs d st := callX_pure CRef11.h279
theorem f279 (xs : List AV) (hn : xs.length = 2) : callF T 279 xs = retF [.t 4] false (evX (orc T) T 0 b279 ⟨argEnv xs, [], 1⟩) := callF_eq CRef11.h279 hn
@[simp] theorem x286 : callX (orc T) T 286 xs d st = cP T 286 false xs d st := callX_pure CRef11.h286
theorem f286 (xs : List AV) (hn : xs.length = 3) : callF T 286 xs = retF [.t 6] false (evX (orc T) T 0 b286 ⟨argEnv xs, [], 1⟩) := callF_eq CRef11.h286 hn
end
end Go.Ab
end

section
namespace Go.Ab
class CRef12 (T : Tbl) : Prop where
end Go.Ab
end

section
namespace Go.Ab
def b248 : AX :=
 (.seq
 (.reg [rg 1 (.xop (.box 3) [(.t 0)]), rg 2 (.alloc [(.b false), (.sl [] .nl), (.sl [] .nl)])])
 (.seq
 (.reg [rg 3 (.fad 0 (.t 1)), rg 4 (.load none (.t 3)), rg 5 (.fad 1 (.t 1)), rg 6 (.load none (.t 5)),
 rg 7 (.build [(.b false), (.sl [] .nl)] [(0, 1, (.t 4)), (1, 1, (.t 6))]), rg 8 (.fad 2 (.t 1)), rg 9 (.load none (.t 8)),
 rg 10 (.build [(.b false), (.sl [] .nl), (.sl [] .nl)] [(0, 2, (.t 7)), (2, 1, (.t 9))]), so (.store 3 (.t 2) (.t 10))])
 (.pre (.norm false [2]) .ret)))
def b249 : AX :=
 (.seq
 (.reg [rg 1 (.xop (.box 3) [(.t 0)]), rg 2 (.alloc [(.b false), (.sl [] .nl), (.sl [] .nl)])])
 (.seq
 (.reg [rg 3 (.fad 0 (.t 1)), rg 4 (.fad 0 (.t 3)), rg 5 (.load none (.t 4)), rg 6 (.fad 0 (.t 1)), rg 7 (.fad 1 (.t 6)), rg 8 (.load none (.t 7)),
 rg 9 (.fad 2 (.t 1)), rg 10 (.load none (.t 9)),
 rg 11 (.build [(.b false), (.sl [] .nl), (.sl [] .nl)] [(0, 1, (.t 5)), (1, 1, (.t 8)), (2, 1, (.t 10))]), so (.store 3 (.t 2) (.t 11))])
 (.pre (.norm false [2]) .ret)))
class CLaw09 (T : Tbl) : Prop where
 h248 : T 248 = some ⟨1, 11, [.cell 2 (some 3)], b248, none, false⟩
 h249 : T 249 = some ⟨1, 12, [.cell 2 (some 3)], b249, none, false⟩
section
variable {T : Tbl} [CLaw09 T] {d : Option Nat} {st : St} {xs : List AV} {ps : List Opd} {e : Env} {h : Heap} {ol : List Heap}
@[simp] theorem x248 : callX (orc T) T 248 xs d st = cP T 248 false xs d st := callX_pure CLaw09.h248
@[simp] theorem y248 : opD (orc T) T (.call 248 ps) e h ol = dP T 248 false ps e := opD_call CLaw09.h248
theorem f248 (xs : List AV) (hn : xs.length = 1) : callF T 248 xs = retF [.cell 2 (some 3)] false (evX (orc T) T 0 b248 ⟨argEnv xs, [], 1⟩) := callF_eq CLaw09.h248 hn
@[simp] theorem x249 : callX (orc T) T 249 xs d st = cP T 249 false xs d st := callX_pure CLaw09.h249
theorem f249 (xs : List AV) (hn : xs.length = 1) : callF T 249 xs = retF [.cell 2 (some 3)] false (evX (orc T) T 0 b249 ⟨argEnv xs, [], 1⟩) := callF_eq CLaw09.h249 hn
end
end Go.Ab
end

section
namespace Go.Ab
def l287_0 : AX :=
 (.note
 (.seq
 (.seq
 (.reg [mv 5 4, mv 6 0, rg 7 (.len (.t 6)), rg 8 (.bin .lss (.t 5) (.t 7))])
 (.cond (.t 8)
 .skip
 (.exit 0)))
 (.seq
 (.block 1
 (.reg [mv 11 3, mv 12 0, mv 13 4, rg 14 (.iad 3 (.t 12) (.t 13)), rg 15 (.load (some 3) (.t 14)), rg 16 (.call 248 [(.t 15)]),
 rg 17 (.bsl 3 [(.b false), (.sl [] .nl), (.sl [] .nl)] 1 [(0, (.t 16))]), rg 18 (.app 3 (.t 11) (.t 17)), mv 3 18]))
 (.reg [mv 9 4, rg 10 (.bin .add (.t 9) (.c (.i .i64 1))), mv 4 10])))
 (.norm false [0, 3, 4]))
def b287 : AX :=
 (.seq
 (.reg [rg 2 (.mov (.c (.sl [] .nl)))])
 (.seq
 (.note (.reg [rg 3 (.mov (.c (.sl [] .nl)))]) (.nil 3 3))
 (.seq
 (.seq
 (.reg [rg 4 (.mov (.c (.i .i64 0)))])
 (.lp 0 (.norm false [0, 3, 4]) l287_0 (.norm false [3])))
 (.seq
 (.reg [mv 19 3, mv 2 19])
 (.pre (.norm false [2]) .ret)))))
def l288_0 : AX :=
 (.note
 (.seq
 (.seq
 (.reg [mv 5 4, mv 6 0, rg 7 (.len (.t 6)), rg 8 (.bin .lss (.t 5) (.t 7))])
 (.cond (.t 8)
 .skip
 (.exit 0)))
 (.seq
 (.block 1
 (.reg [mv 11 3, mv 12 0, mv 13 4, rg 14 (.iad 3 (.t 12) (.t 13)), rg 15 (.load (some 3) (.t 14)), rg 16 (.call 249 [(.t 15)]),
 rg 17 (.bsl 3 [(.b false), (.sl [] .nl), (.sl [] .nl)] 1 [(0, (.t 16))]), rg 18 (.app 3 (.t 11) (.t 17)), mv 3 18]))
 (.reg [mv 9 4, rg 10 (.bin .add (.t 9) (.c (.i .i64 1))), mv 4 10])))
 (.norm false [0, 3, 4]))
def b288 : AX :=
 (.seq
 (.reg [rg 2 (.mov (.c (.sl [] .nl)))])
 (.seq
 (.note (.reg [rg 3 (.mov (.c (.sl [] .nl)))]) (.nil 3 3))
 (.seq
 (.seq
 (.reg [rg 4 (.mov (.c (.i .i64 0)))])
 (.lp 0 (.norm false [0, 3, 4]) l288_0 (.norm false [3])))
 (.seq
 (.reg [mv 19 3, mv 2 19])
 (.pre (.norm false [2]) .ret)))))
def b289 : AX :=
 (.seq
 (.reg [rg 4 (.mov (.c (.b false)))])
 (.seq
 (.reg [mv 5 0, rg 6 (.call 288 [(.t 5)]), mv 7 1, rg 8 (.call 279 [(.t 6), (.t 7)]), mv 4 8])
 (.pre (.norm false [4]) .ret)))
class CLaw11 (T : Tbl) : Prop where
 h287 : T 287 = some ⟨1, 20, [.t 2], b287, none, false⟩
 h288 : T 288 = some ⟨1, 20, [.t 2], b288, none, false⟩
 h289 : T 289 = some ⟨2, 9, [.t 4], b289, none, false⟩
section
variable {T : Tbl} [CLaw11 T] {d : Option Nat} {st : St} {xs : List AV} {ps : List Opd} {e : Env} {h : Heap} {ol : List Heap}
@[simp] theorem x287 : callX (orc T) T 287 xs d st = cP T 287 false xs d st := callX_pure CLaw11.h287
@[simp] theorem y287 : opD (orc T) T (.call 287 ps) e h ol = dP T 287 false ps e := opD_call CLaw11.h287
theorem f287 (xs : List AV) (hn : xs.length = 1) : callF T 287 xs = retF [.t 2] false (evX (orc T) T 0 b287 ⟨argEnv xs, [], 1⟩) := callF_eq CLaw11.h287 hn
@[simp] theorem x288 : callX (orc T) T 288 xs d st = cP T 288 false xs d st := callX_pure CLaw11.h288
theorem f288 (xs : List AV) (hn : xs.length = 1) : callF T 288 xs = retF [.t 2] false (evX (orc T) T 0 b288 ⟨argEnv xs, [], 1⟩) := callF_eq CLaw11.h288 hn
@[simp] theorem x289 : callX (orc T) T 289 xs d st = cP T 289 false xs d st := callX_pure CLaw11.h289
theorem f289 (xs : List AV) (hn : xs.length = 2) : callF T 289 xs = retF [.t 4] false (evX (orc T) T 0 b289 ⟨argEnv xs, [], 1⟩) := callF_eq CLaw11.h289 hn
end
end Go.Ab
end

section
namespace Go.Ab
class CLaw12 (T : Tbl) : Prop where
end Go.Ab
end

section
namespace Go.Ab
def b214 : AX :=
 (.seq
 (.reg [rg 1 (.xop (.box 3) [(.t 0)]), rg 2 (.alloc [(.b false), (.sl [] .nl), (.sl [] .nl)])])
 (.seq
 (.reg [rg 4 (.load (some 3) (.t 1)), rg 5 (.call 207 [(.t 4)]), rg 3 (.alloc [(.b false), (.sl [] .nl), (.sl [] .nl)]), so (.store 3 (.t 3) (.t 5))])
 (.seq
 (.reg [rg 6 (.fad 0 (.t 3)), rg 7 (.fad 0 (.t 6)), so (.store 1 (.t 7) (.c (.b false)))])
 (.seq
 (.reg [rg 8 (.load (some 3) (.t 3)), so (.store 3 (.t 2) (.t 8))])
 (.pre (.norm false [2]) .ret)))))
class CFrac2 (T : Tbl) : Prop where
 h214 : T 214 = some ⟨1, 9, [.cell 2 (some 3)], b214, none, false⟩
section
variable {T : Tbl} [CFrac2 T] {d : Option Nat} {st : St} {xs : List AV} {ps : List Opd} {e : Env} {h : Heap} {ol : List Heap}
@[simp] theorem x214 : callX (orc T) T 214 xs d st = cP T 214 false xs d st := callX_pure CFrac2.h214
theorem f214 (xs : List AV) (hn : xs.length = 1) : callF T 214 xs = retF [.cell 2 (some 3)] false (evX (orc T) T 0 b214 ⟨argEnv xs, [], 1⟩) := callF_eq CFrac2.h214 hn
end
end Go.Ab
end

section
namespace Go.Ab
def b324 : AX :=
 (.seq
 (.reg [rg 2 (.xop (.box 10) [(.t 0)]), rg 3 (.xop (.box 3) [(.t 1)]), rg 4 (.mov (.c (.sl [] .nl))), rg 5 (.mov (.c (.b false)))])
 (.seq
 (.seq
 (.reg [rg 8 (.load (some 10) (.t 2)), rg 9 (.call 329 [(.t 8)]), rg 10 (.un .not (.t 9))])
 (.cond (.t 10)
 (.seq
 (.reg [rg 4 (.mov (.c (.sl [] .nl))), rg 5 (.mov (.c (.b false)))])
 (.pre (.norm false [4, 5]) .ret))
 .skip))
 (.seq
 (.reg [rg 11 (.load (some 10) (.t 2)), rg 12 (.load (some 3) (.t 3)), rg 13 (.call 335 [(.t 11), (.t 12)]),
 rg 6 (.alloc [(.b false), (.sl [] .nl), (.sl [] .nl)]), so (.store 3 (.t 6) (.t 13))])
 (.seq
 (.reg [rg 14 (.load (some 3) (.t 6)), rg 15 (.call 336 [(.c (.i .i64 1)), (.c (.i .i64 (-1))), (.t 14)]),
 rg 7 (.alloc [(.b false), (.sl [] .nl), (.sl [] .nl)]), so (.store 3 (.t 7) (.t 15))])
 (.seq
 (.drawT [rg 16 (.load (some 3) (.t 7)), rg 17 (.load (some 3) (.t 7)), rg 18 (.load (some 3) (.t 6)),
 rg 19 (.call 336 [(.c (.i .i64 1)), (.c (.i .i64 2)), (.t 18)]),
 rg 20 (.bsl 3 [(.b false), (.sl [] .nl), (.sl [] .nl)] 3 [(0, (.t 16)), (1, (.t 17)), (2, (.t 19))]), rg 21 (.call 337 [(.t 20)]),
 rg 22 (.load (some 3) (.t 6)), rg 23 (.load (some 3) (.t 6)), rg 24 (.load (some 3) (.t 6)),
 rg 25 (.call 336 [(.c (.i .i64 3)), (.c (.i .i64 (-2))), (.t 24)]),
 rg 26 (.bsl 3 [(.b false), (.sl [] .nl), (.sl [] .nl)] 3 [(0, (.t 22)), (1, (.t 23)), (2, (.t 25))]), rg 27 (.call 337 [(.t 26)]), rg 28 (.fad 3 (.t 2)),
 rg 29 (.load (some 3) (.t 28)), rg 30 (.load (some 3) (.t 6)), rg 31 (.load (some 3) (.t 7)), rg 32 (.load (some 3) (.t 7)),
 rg 33 (.bsl 3 [(.b false), (.sl [] .nl), (.sl [] .nl)] 4 [(0, (.t 29)), (1, (.t 30)), (2, (.t 31)), (3, (.t 32))]), rg 34 (.call 337 [(.t 33)]),
 rg 35 (.fad 3 (.t 2)), rg 36 (.load (some 3) (.t 35)), rg 37 (.load (some 3) (.t 6)), rg 38 (.load (some 3) (.t 6)), rg 39 (.load (some 3) (.t 7)),
 rg 40 (.call 213 [(.t 39)]), rg 41 (.bsl 3 [(.b false), (.sl [] .nl), (.sl [] .nl)] 4 [(0, (.t 36)), (1, (.t 37)), (2, (.t 38)), (3, (.t 40))]),
 rg 42 (.call 337 [(.t 41)]), rg 43 (.bsl 3 [(.b false), (.sl [] .nl), (.sl [] .nl)] 4 [(0, (.t 21)), (1, (.t 27)), (2, (.t 34)), (3, (.t 42))]),
 rg 44 (.load (some 10) (.t 2)), rg 45 (.call 338 [(.t 44)]), rg 46 (.fad 6 (.t 2)), rg 47 (.load none (.t 46)), rg 48 (.len (.t 47)),
 rg 49 (.call 271 [(.t 43), (.t 45), (.t 48)]), rg 50 (.ext (.t 49) 0), rg 51 (.ext (.t 49) 1)]
 [mv 4 50, mv 5 51])
 (.pre (.norm false [4, 5]) .ret))))))
def b326 : AX :=
 (.seq
 (.reg [rg 2 (.xop (.box 10) [(.t 0)]), rg 3 (.xop (.box 3) [(.t 1)]), rg 4 (.mov (.c (.sl [] .nl))), rg 5 (.mov (.c (.b false)))])
 (.seq
 (.seq
 (.reg [rg 10 (.load (some 10) (.t 2)), rg 11 (.call 329 [(.t 10)]), rg 12 (.un .not (.t 11))])
 (.cond (.t 12)
 (.seq
 (.reg [rg 4 (.mov (.c (.sl [] .nl))), rg 5 (.mov (.c (.b false)))])
 (.pre (.norm false [4, 5]) .ret))
 .skip))
 (.seq
 (.reg [rg 13 (.load (some 10) (.t 2)), rg 14 (.load (some 3) (.t 3)), rg 15 (.call 335 [(.t 13), (.t 14)]),
 rg 6 (.alloc [(.b false), (.sl [] .nl), (.sl [] .nl)]), so (.store 3 (.t 6) (.t 15))])
 (.seq
 (.reg [rg 16 (.load (some 3) (.t 6)), rg 17 (.call 336 [(.c (.i .i64 1)), (.c (.i .i64 (-1))), (.t 16)]),
 rg 7 (.alloc [(.b false), (.sl [] .nl), (.sl [] .nl)]), so (.store 3 (.t 7) (.t 17))])
 (.seq
 (.draw [⟨rg 19 (.call 205 [(.c (.i .i64 6))]), 0, 1⟩, ⟨rg 20 (.load (some 3) (.t 6)), 0, 1⟩, ⟨rg 21 (.load (some 3) (.t 7)), 0, 1⟩,
 ⟨rg 22 (.bsl 3 [(.b false), (.sl [] .nl), (.sl [] .nl)] 3 [(0, (.t 19)), (1, (.t 20)), (2, (.t 21))]), 0, 1⟩, ⟨rg 23 (.call 337 [(.t 22)]), 0, 1⟩,
 ⟨rg 24 (.fad 3 (.t 2)), 0, 1⟩, ⟨rg 25 (.load (some 3) (.t 24)), 0, 1⟩, ⟨rg 26 (.call 218 [(.t 23), (.t 25)]), 0, 1⟩, ⟨mv 18 26, 0, 1⟩,
 ⟨rg 27 (.ext (.t 18) 0), 0, 1⟩, ⟨rg 28 (.ext (.t 18) 1), 0, 2⟩, ⟨rg 8 (.alloc [(.b false), (.sl [] .nl), (.sl [] .nl)]), 0, 1⟩,
 ⟨so (.store 3 (.t 8) (.t 27)), 1, 2⟩, ⟨mv 9 28, 2, 2⟩])
 (.seq
 (.drawT [rg 29 (.load (some 3) (.t 8)), rg 30 (.call 213 [(.t 29)]), rg 31 (.load (some 3) (.t 8)), rg 32 (.load (some 3) (.t 7)), rg 33 (.load (some 3) (.t 6)),
 rg 34 (.call 336 [(.c (.i .i64 1)), (.c (.i .i64 (-3))), (.t 33)]),
 rg 35 (.bsl 3 [(.b false), (.sl [] .nl), (.sl [] .nl)] 2 [(0, (.t 32)), (1, (.t 34))]), rg 36 (.call 337 [(.t 35)]), rg 37 (.load (some 3) (.t 6)),
 rg 38 (.load (some 3) (.t 6)), rg 39 (.call 336 [(.c (.i .i64 (-2))), (.c (.i .i64 3)), (.t 38)]),
 rg 40 (.bsl 3 [(.b false), (.sl [] .nl), (.sl [] .nl)] 2 [(0, (.t 37)), (1, (.t 39))]), rg 41 (.call 337 [(.t 40)]),
 rg 42 (.bsl 3 [(.b false), (.sl [] .nl), (.sl [] .nl)] 4 [(0, (.t 30)), (1, (.t 31)), (2, (.t 36)), (3, (.t 41))]), rg 43 (.load (some 10) (.t 2)),
 rg 44 (.call 338 [(.t 43)]), rg 45 (.fad 6 (.t 2)), rg 46 (.load none (.t 45)), rg 47 (.len (.t 46)), rg 48 (.call 271 [(.t 42), (.t 44), (.t 47)]),
 rg 49 (.ext (.t 48) 0), rg 50 (.ext (.t 48) 1)]
 [mv 4 49, mv 5 50])
 (.pre (.norm false [4, 5]) .ret)))))))
def b329 : AX :=
 (.seq
 (.reg [rg 1 (.xop (.box 10) [(.t 0)]), rg 2 (.mov (.c (.b false)))])
 (.seq
 (.reg [rg 4 (.fad 6 (.t 1)), rg 5 (.load none (.t 4)), rg 6 (.len (.t 5)), mv 3 6])
 (.seq
 (.reg [rg 7 (.fad 3 (.t 1)), rg 8 (.load (some 3) (.t 7)), rg 9 (.call 209 [(.t 8)]), rg 10 (.bin .gtr (.t 9) (.c (.i .i64 0))), mv 11 10,
 gd 12 11 true (.mov (.t 3)), gd 13 11 true (.bin .leq (.t 12) (.c (.i .i64 300))), rg 14 (.pick (.t 11) (.t 13) (.c (.b false))), mv 15 14,
 gd 16 15 true (.fad 7 (.t 1)), gd 17 15 true (.load none (.t 16)), gd 18 15 true (.len (.t 17)), gd 19 15 true (.mov (.t 3)),
 gd 20 15 true (.bin .eql (.t 18) (.t 19)), rg 21 (.pick (.t 15) (.t 20) (.c (.b false))), mv 22 21, gd 23 22 true (.fad 8 (.t 1)),
 gd 24 22 true (.load none (.t 23)), gd 25 22 true (.len (.t 24)), gd 26 22 true (.mov (.t 3)), gd 27 22 true (.bin .eql (.t 25) (.t 26)),
 rg 28 (.pick (.t 22) (.t 27) (.c (.b false))), mv 29 28, gd 30 29 true (.fad 9 (.t 1)), gd 31 29 true (.load none (.t 30)), gd 32 29 true (.len (.t 31)),
 gd 33 29 true (.mov (.t 3)), gd 34 29 true (.bin .eql (.t 32) (.t 33)), rg 35 (.pick (.t 29) (.t 34) (.c (.b false))), mv 2 35])
 (.pre (.norm false [2]) .ret))))
def b335 : AX :=
 (.seq
 (.reg [rg 2 (.xop (.box 10) [(.t 0)]), rg 3 (.xop (.box 3) [(.t 1)]), rg 4 (.alloc [(.b false), (.sl [] .nl), (.sl [] .nl)])])
 (.seq
 (.draw [⟨rg 8 (.load (some 3) (.t 3)), 0, 1⟩, ⟨rg 9 (.fad 0 (.t 2)), 0, 1⟩, ⟨rg 10 (.load (some 3) (.t 9)), 0, 1⟩, ⟨rg 11 (.call 216 [(.t 8), (.t 10)]), 0, 1⟩,
 ⟨rg 12 (.fad 3 (.t 2)), 0, 1⟩, ⟨rg 13 (.load (some 3) (.t 12)), 0, 1⟩, ⟨rg 14 (.call 218 [(.t 11), (.t 13)]), 0, 1⟩, ⟨mv 7 14, 0, 1⟩,
 ⟨rg 15 (.ext (.t 7) 0), 0, 1⟩, ⟨rg 16 (.ext (.t 7) 1), 0, 2⟩, ⟨rg 5 (.alloc [(.b false), (.sl [] .nl), (.sl [] .nl)]), 0, 1⟩,
 ⟨so (.store 3 (.t 5) (.t 15)), 1, 2⟩, ⟨mv 6 16, 2, 2⟩])
 (.seq
 (.reg [rg 17 (.load (some 3) (.t 5)), so (.store 3 (.t 4) (.t 17))])
 (.pre (.norm false [4]) .ret))))
def b336 : AX :=
 (.seq
 (.reg [rg 5 (.xop (.box 3) [(.t 2)]), rg 6 (.alloc [(.b false), (.sl [] .nl), (.sl [] .nl)])])
 (.seq
 (.drawT [mv 7 0, rg 8 (.call 205 [(.t 7)]), mv 9 1, rg 10 (.call 205 [(.t 9)]), rg 11 (.load (some 3) (.t 5))]
 [rg 12 (.call 217 [(.t 10), (.t 11)]), rg 13 (.call 215 [(.t 8), (.t 12)]), so (.store 3 (.t 6) (.t 13))])
 (.pre (.norm false [6]) .ret)))
def l337_0 : AX :=
 (.note
 (.seq
 (.reg [rg 10 (.bin .lss (.t 9) (.t 8))])
 (.seq
 (.cond (.t 10)
 .skip
 (.exit 0))
 (.seq
 (.block 1
 (.seq
 (.reg [rg 11 (.iad 3 (.t 7) (.t 9)), rg 12 (.load (some 3) (.t 11)), rg 5 (.alloc [(.b false), (.sl [] .nl), (.sl [] .nl)]), so (.store 3 (.t 5) (.t 12))])
 (.reg [rg 13 (.load (some 3) (.t 3)), rg 14 (.load (some 3) (.t 5)), rg 15 (.call 217 [(.t 13), (.t 14)]), so (.store 3 (.t 3) (.t 15))])))
 (.reg [rg 16 (.bin .add (.t 9) (.c (.i .i64 1))), mv 9 16]))))
 (.norm false [2, 3, 7, 8, 9]))
def b337 : AX :=
 (.seq
 (.reg [rg 2 (.alloc [(.b false), (.sl [] .nl), (.sl [] .nl)])])
 (.seq
 (.reg [rg 6 (.call 205 [(.c (.i .i64 1))]), rg 3 (.alloc [(.b false), (.sl [] .nl), (.sl [] .nl)]), so (.store 3 (.t 3) (.t 6))])
 (.seq
 (.seq
 (.reg [mv 7 0, rg 8 (.len (.t 7)), rg 9 (.mov (.c (.i .i64 0)))])
 (.lp 0 (.norm false [2, 3, 7, 8, 9]) l337_0 (.norm false [2, 3])))
 (.seq
 (.reg [rg 17 (.load (some 3) (.t 3)), so (.store 3 (.t 2) (.t 17))])
 (.pre (.norm false [2]) .ret)))))
def b338 : AX :=
 (.seq
 (.reg [rg 1 (.xop (.box 10) [(.t 0)]), rg 2 (.mov (.c (.sl [] .nl)))])
 (.seq
 (.reg [rg 3 (.fad 6 (.t 1)), rg 4 (.load none (.t 3)), rg 5 (.fad 7 (.t 1)), rg 6 (.load none (.t 5)), rg 7 (.fad 8 (.t 1)), rg 8 (.load none (.t 7)),
 rg 9 (.fad 9 (.t 1)), rg 10 (.load none (.t 9)), rg 11 (.bsl 1 [(.sl [] .nl)] 4 [(0, (.t 4)), (1, (.t 6)), (2, (.t 8)), (3, (.t 10))]), mv 2 11])
 (.pre (.norm false [2]) .ret)))
class CSpan (T : Tbl) : Prop where
 h324 : T 324 = some ⟨2, 52, [.t 4, .t 5], b324, none, false⟩
 h326 : T 326 = some ⟨2, 51, [.t 4, .t 5], b326, none, false⟩
 h329 : T 329 = some ⟨1, 36, [.t 2], b329, none, false⟩
 h335 : T 335 = some ⟨2, 18, [.cell 4 (some 3)], b335, none, false⟩
 h336 : T 336 = some ⟨3, 14, [.cell 6 (some 3)], b336, none, false⟩
 h337 : T 337 = some ⟨1, 18, [.cell 2 (some 3)], b337, none, false⟩
 h338 : T 338 = some ⟨1, 12, [.t 2], b338, none, false⟩
section
variable {T : Tbl} [CSpan T] {d : Option Nat} {st : St} {xs : List AV} {ps : List Opd} {e : Env} {h : Heap} {ol : List Heap}
@[simp] theorem x324 : callX (orc T) T 324 xs d st = cP T 324 false xs d st := callX_pure CSpan.h324
@[simp] theorem y324 : opD (orc T) T (.call 324 ps) e h ol = dP T 324 false ps e := opD_call CSpan.h324
theorem f324 (xs : List AV) (hn : xs.length = 2) : callF T 324 xs = retF [.t 4, .t 5] false (evX (orc T) T 0 b324 ⟨argEnv xs, [], 1⟩) := callF_eq CSpan.h324 hn
@[simp] theorem x326 : callX (orc T) T 326 xs d st = cP T 326 false xs d st := callX_pure CSpan.h326
@[simp] theorem y326 : opD (orc T) T (.call 326 ps) e h ol = dP T 326 false ps e := opD_call CSpan.h326
theorem f326 (xs : List AV) (hn : xs.length = 2) : callF T 326 xs = retF [.t 4, .t 5] false (evX (orc T) T 0 b326 ⟨argEnv xs, [], 1⟩) := callF_eq CSpan.h326 hn
@[simp] theorem x329 : callX (orc T) T 329 xs d st = cP T 329 false xs d st := callX_pure CSpan.h329
theorem f329 (xs : List AV) (hn : xs.length = 1) : callF T 329 xs = retF [.t 2] false (evX (orc T) T 0 b329 ⟨argEnv xs, [], 1⟩) := callF_eq CSpan.h329 hn
@[simp] theorem x335 : callX (orc T) T 335 xs d st = cP T 335 false xs d st := callX_pure CSpan.h335
theorem f335 (xs : List AV) (hn : xs.length = 2) : callF T 335 xs = retF [.cell 4 (some 3)] false (evX (orc T) T 0 b335 ⟨argEnv xs, [], 1⟩) := callF_eq CSpan.h335 hn
@[simp] theorem x336 : callX (orc T) T 336 xs d st = cP T 336 false xs d st := callX_pure CSpan.h336
@[simp] theorem y336 : opD (orc T) T (.call 336 ps) e h ol = dP T 336 false ps e := opD_call CSpan.h336
theorem f336 (xs : List AV) (hn : xs.length = 3) : callF T 336 xs = retF [.cell 6 (some 3)] false (evX (orc T) T 0 b336 ⟨argEnv xs, [], 1⟩) := callF_eq CSpan.h336 hn
@[simp] theorem y337 : opD (orc T) T (.call 337 ps) e h ol = dP T 337 false ps e := opD_call CSpan.h337
theorem f337 (xs : List AV) (hn : xs.length = 1) : callF T 337 xs = retF [.cell 2 (some 3)] false (evX (orc T) T 0 b337 ⟨argEnv xs, [], 1⟩) := callF_eq CSpan.h337 hn
@[simp] theorem y338 : opD (orc T) T (.call 338 ps) e h ol = dP T 338 false ps e := opD_call CSpan.h338
theorem f338 (xs : List AV) (hn : xs.length = 1) : callF T 338 xs = retF [.t 2] false (evX (orc T) T 0 b338 ⟨argEnv xs, [], 1⟩) := callF_eq CSpan.h338 hn
end
end Go.Ab
end

section
namespace Go.Ab
def l331_0 : AX :=
 (.note
 (.seq
 (.seq
 (.reg [mv 5 4, mv 6 0, rg 7 (.len (.t 6)), rg 8 (.bin .lss (.t 5) (.t 7))])
 (.cond (.t 8)
 .skip
 (.exit 0)))
 (.seq
 (.block 1
 (.drawT [mv 11 3, mv 12 4, rg 13 (.call 205 [(.t 12)]), mv 14 0, mv 15 4, rg 16 (.iad 3 (.t 14) (.t 15)), rg 17 (.load (some 3) (.t 16)),
 rg 18 (.call 217 [(.t 13), (.t 17)]), rg 19 (.bsl 3 [(.b false), (.sl [] .nl), (.sl [] .nl)] 1 [(0, (.t 18))])]
 [rg 20 (.app 3 (.t 11) (.t 19)), mv 3 20]))
 (.reg [mv 9 4, rg 10 (.bin .add (.t 9) (.c (.i .i64 1))), mv 4 10])))
 (.norm false [0, 3, 4]))
def b331 : AX :=
 (.seq
 (.reg [rg 2 (.mov (.c (.sl [] .nl)))])
 (.seq
 (.note (.reg [rg 3 (.mov (.c (.sl [] .nl)))]) (.nil 3 3))
 (.seq
 (.seq
 (.reg [rg 4 (.mov (.c (.i .i64 1)))])
 (.lp 0 (.norm false [0, 3, 4]) l331_0 (.norm false [3])))
 (.seq
 (.reg [mv 21 3, rg 22 (.call 342 [(.t 21)]), mv 2 22])
 (.pre (.norm false [2]) .ret)))))
def l332_0 : AX :=
 (.note
 (.seq
 (.seq
 (.reg [mv 11 6, rg 12 (.bin .geq (.t 11) (.c (.i .i64 0)))])
 (.cond (.t 12)
 .skip
 (.exit 0)))
 (.seq
 (.block 1
 (.drawT [rg 15 (.load (some 3) (.t 5)), rg 16 (.load (some 3) (.t 3)), rg 17 (.call 217 [(.t 15), (.t 16)]), mv 18 0, mv 19 6, rg 20 (.iad 3 (.t 18) (.t 19)),
 rg 21 (.load (some 3) (.t 20))]
 [rg 22 (.call 215 [(.t 17), (.t 21)]), so (.store 3 (.t 5) (.t 22))]))
 (.reg [mv 13 6, rg 14 (.bin .sub (.t 13) (.c (.i .i64 1))), mv 6 14])))
 (.norm false [0, 3, 4, 5, 6]))
def b332 : AX :=
 (.seq
 (.reg [rg 3 (.xop (.box 3) [(.t 1)]), rg 4 (.alloc [(.b false), (.sl [] .nl), (.sl [] .nl)])])
 (.seq
 (.reg [rg 7 (.call 205 [(.c (.i .i64 0))]), rg 5 (.alloc [(.b false), (.sl [] .nl), (.sl [] .nl)]), so (.store 3 (.t 5) (.t 7))])
 (.seq
 (.seq
 (.reg [mv 8 0, rg 9 (.len (.t 8)), rg 10 (.bin .sub (.t 9) (.c (.i .i64 1))), mv 6 10])
 (.lp 0 (.norm false [0, 3, 4, 5, 6]) l332_0 (.norm false [4, 5])))
 (.seq
 (.reg [rg 23 (.load (some 3) (.t 5)), so (.store 3 (.t 4) (.t 23))])
 (.pre (.norm false [4]) .ret)))))
def l342_0 : AX :=
 (.note
 (.seq
 (.seq
 (.reg [mv 10 4, rg 11 (.bin .gtr (.t 10) (.c (.i .i64 0))), mv 12 11, gd 13 12 true (.mov (.t 3)), gd 14 12 true (.mov (.t 4)),
 gd 15 12 true (.bin .sub (.t 14) (.c (.i .i64 1))), gd 16 12 true (.iad 3 (.t 13) (.t 15)), gd 17 12 true (.load (some 3) (.t 16)),
 gd 18 12 true (.call 209 [(.t 17)]), gd 19 12 true (.bin .eql (.t 18) (.c (.i .i64 0))), rg 20 (.pick (.t 12) (.t 19) (.c (.b false)))])
 (.cond (.t 20)
 .skip
 (.exit 0)))
 (.block 1
 (.reg [mv 21 4, rg 22 (.bin .sub (.t 21) (.c (.i .i64 1))), mv 4 22])))
 (.norm false [3, 4]))
def b342 : AX :=
 (.seq
 (.reg [rg 2 (.mov (.c (.sl [] .nl)))])
 (.seq
 (.reg [rg 5 (.call 205 [(.c (.i .i64 1))]), mv 6 0, rg 7 (.call 269 [(.t 5), (.t 6)]), mv 3 7])
 (.seq
 (.reg [mv 8 3, rg 9 (.len (.t 8)), mv 4 9])
 (.seq
 (.lp 0 (.norm false [3, 4]) l342_0 (.norm false [3, 4]))
 (.seq
 (.reg [mv 23 3, mv 24 4, rg 25 (.slc 3 (.t 23) none (some (.t 24)) none), mv 2 25])
 (.pre (.norm false [2]) .ret))))))
class CPoly (T : Tbl) : Prop where
 h331 : T 331 = some ⟨1, 23, [.t 2], b331, none, false⟩
 h332 : T 332 = some ⟨2, 24, [.cell 4 (some 3)], b332, none, false⟩
 h342 : T 342 = some ⟨1, 26, [.t 2], b342, none, false⟩
section
variable {T : Tbl} [CPoly T] {d : Option Nat} {st : St} {xs : List AV} {ps : List Opd} {e : Env} {h : Heap} {ol : List Heap}
@[simp] theorem x331 : callX (orc T) T 331 xs d st = cP T 331 false xs d st := callX_pure CPoly.h331
theorem f331 (xs : List AV) (hn : xs.length = 1) : callF T 331 xs = retF [.t 2] false (evX (orc T) T 0 b331 ⟨argEnv xs, [], 1⟩) := callF_eq CPoly.h331 hn
@[simp] theorem x332 : callX (orc T) T 332 xs d st = cP T 332 false xs d st := callX_pure CPoly.h332
@[simp] theorem y332 : opD (orc T) T (.call 332 ps) e h ol = dP T 332 false ps e := opD_call CPoly.h332
theorem f332 (xs : List AV) (hn : xs.length = 2) : callF T 332 xs = retF [.cell 4 (some 3)] false (evX (orc T) T 0 b332 ⟨argEnv xs, [], 1⟩) := callF_eq CPoly.h332 hn
@[simp] theorem x342 : callX (orc T) T 342 xs d st = cP T 342 false xs d st := callX_pure CPoly.h342
theorem f342 (xs : List AV) (hn : xs.length = 1) : callF T 342 xs = retF [.t 2] false (evX (orc T) T 0 b342 ⟨argEnv xs, [], 1⟩) := callF_eq CPoly.h342 hn
end
end Go.Ab
end

section
namespace Go.Ab
def l340_0 : AX :=
 (.note
 (.seq
 (.seq
 (.reg [mv 5 4, mv 6 0, rg 7 (.len (.t 6)), rg 8 (.bin .lss (.t 5) (.t 7))])
 (.cond (.t 8)
 .skip
 (.exit 0)))
 (.seq
 (.block 1
 (.drawT [mv 11 3, mv 12 4, rg 13 (.call 232 [(.t 12)]), mv 14 0, mv 15 4, rg 16 (.iad 3 (.t 14) (.t 15)), rg 17 (.load (some 3) (.t 16)),
 rg 18 (.call 241 [(.t 13), (.t 17)]), rg 19 (.bsl 3 [(.b false), (.sl [] .nl), (.sl [] .nl)] 1 [(0, (.t 18))])]
 [rg 20 (.app 3 (.t 11) (.t 19)), mv 3 20]))
 (.reg [mv 9 4, rg 10 (.bin .add (.t 9) (.c (.i .i64 1))), mv 4 10])))
 (.norm false [0, 3, 4]))
def b340 : AX :=
 (.seq
 (.reg [rg 2 (.mov (.c (.sl [] .nl)))])
 (.seq
 (.note (.reg [rg 3 (.mov (.c (.sl [] .nl)))]) (.nil 3 3))
 (.seq
 (.seq
 (.reg [rg 4 (.mov (.c (.i .i64 1)))])
 (.lp 0 (.norm false [0, 3, 4]) l340_0 (.norm false [3])))
 (.seq
 (.reg [mv 21 3, rg 22 (.call 349 [(.t 21)]), mv 2 22])
 (.pre (.norm false [2]) .ret)))))
def l341_0 : AX :=
 (.note
 (.seq
 (.seq
 (.reg [mv 10 7, mv 11 0, rg 12 (.len (.t 11)), rg 13 (.bin .lss (.t 10) (.t 12))])
 (.cond (.t 13)
 .skip
 (.exit 0)))
 (.seq
 (.block 1
 (.seq
 (.drawT [rg 16 (.load (some 3) (.t 5)), mv 17 0, mv 18 7, rg 19 (.iad 3 (.t 17) (.t 18)), rg 20 (.load (some 3) (.t 19)), rg 21 (.load (some 3) (.t 6)),
 rg 22 (.call 241 [(.t 20), (.t 21)])]
 [rg 23 (.call 239 [(.t 16), (.t 22)]), so (.store 3 (.t 5) (.t 23))])
 (.reg [rg 24 (.load (some 3) (.t 6)), rg 25 (.load (some 3) (.t 3)), rg 26 (.call 241 [(.t 24), (.t 25)]), so (.store 3 (.t 6) (.t 26))])))
 (.reg [mv 14 7, rg 15 (.bin .add (.t 14) (.c (.i .i64 1))), mv 7 15])))
 (.norm false [0, 3, 4, 5, 6, 7]))
def b341 : AX :=
 (.seq
 (.reg [rg 3 (.xop (.box 3) [(.t 1)]), rg 4 (.alloc [(.b false), (.sl [] .nl), (.sl [] .nl)])])
 (.seq
 (.reg [rg 8 (.call 232 [(.c (.i .i64 0))]), rg 5 (.alloc [(.b false), (.sl [] .nl), (.sl [] .nl)]), so (.store 3 (.t 5) (.t 8))])
 (.seq
 (.reg [rg 9 (.call 232 [(.c (.i .i64 1))]), rg 6 (.alloc [(.b false), (.sl [] .nl), (.sl [] .nl)]), so (.store 3 (.t 6) (.t 9))])
 (.seq
 (.seq
 (.reg [rg 7 (.mov (.c (.i .i64 0)))])
 (.lp 0 (.norm false [0, 3, 4, 5, 6, 7]) l341_0 (.norm false [4, 5])))
 (.seq
 (.reg [rg 27 (.load (some 3) (.t 5)), so (.store 3 (.t 4) (.t 27))])
 (.pre (.norm false [4]) .ret))))))
def l347_0 : AX :=
 (.note
 (.seq
 (.seq
 (.reg [mv 19 8, mv 20 6, rg 21 (.bin .leq (.t 19) (.t 20)), mv 22 21, gd 23 22 true (.mov (.t 8)), gd 24 22 true (.mov (.t 0)), gd 25 22 true (.len (.t 24)),
 gd 26 22 true (.bin .lss (.t 23) (.t 25)), rg 27 (.pick (.t 22) (.t 26) (.c (.b false)))])
 (.cond (.t 27)
 .skip
 (.exit 2)))
 (.seq
 (.block 3
 (.seq
 (.reg [mv 30 6, mv 31 8, rg 32 (.bin .sub (.t 30) (.t 31)), mv 33 1, rg 34 (.len (.t 33)), rg 35 (.bin .lss (.t 32) (.t 34))])
 (.cond (.t 35)
 (.drawT [rg 36 (.load (some 3) (.t 7)), mv 37 0, mv 38 8, rg 39 (.iad 3 (.t 37) (.t 38)), rg 40 (.load (some 3) (.t 39)), mv 41 1, mv 42 6, mv 43 8,
 rg 44 (.bin .sub (.t 42) (.t 43)), rg 45 (.iad 3 (.t 41) (.t 44)), rg 46 (.load (some 3) (.t 45)), rg 47 (.call 241 [(.t 40), (.t 46)])]
 [rg 48 (.call 239 [(.t 36), (.t 47)]), so (.store 3 (.t 7) (.t 48))])
 .skip)))
 (.reg [mv 28 8, rg 29 (.bin .add (.t 28) (.c (.i .i64 1))), mv 8 29])))
 (.norm false [0, 1, 5, 6, 7, 8]))
def l347_1 : AX :=
 (.note
 (.seq
 (.seq
 (.reg [mv 9 6, mv 10 0, rg 11 (.len (.t 10)), mv 12 1, rg 13 (.len (.t 12)), rg 14 (.bin .add (.t 11) (.t 13)), rg 15 (.bin .lss (.t 9) (.t 14))])
 (.cond (.t 15)
 .skip
 (.exit 0)))
 (.seq
 (.block 1
 (.seq
 (.reg [rg 18 (.call 232 [(.c (.i .i64 0))]), rg 7 (.alloc [(.b false), (.sl [] .nl), (.sl [] .nl)]), so (.store 3 (.t 7) (.t 18))])
 (.seq
 (.seq
 (.reg [rg 8 (.mov (.c (.i .i64 0)))])
 (.lp 2 (.norm false [0, 1, 5, 6, 7, 8]) l347_0 (.norm false [0, 1, 5, 6, 7])))
 (.reg [mv 49 5, rg 50 (.load (some 3) (.t 7)), rg 51 (.bsl 3 [(.b false), (.sl [] .nl), (.sl [] .nl)] 1 [(0, (.t 50))]), rg 52 (.app 3 (.t 49) (.t 51)),
 mv 5 52]))))
 (.reg [mv 16 6, rg 17 (.bin .add (.t 16) (.c (.i .i64 1))), mv 6 17])))
 (.norm false [0, 1, 5, 6]))
def b347 : AX :=
 (.seq
 (.reg [rg 4 (.mov (.c (.sl [] .nl)))])
 (.seq
 (.note (.reg [rg 5 (.mov (.c (.sl [] .nl)))]) (.nil 5 3))
 (.seq
 (.seq
 (.reg [rg 6 (.mov (.c (.i .i64 0)))])
 (.lp 0 (.norm false [0, 1, 5, 6]) l347_1 (.norm false [5])))
 (.seq
 (.reg [mv 53 5, rg 54 (.call 349 [(.t 53)]), mv 4 54])
 (.pre (.norm false [4]) .ret)))))
def l348_0 : AX :=
 (.note
 (.seq
 (.seq
 (.reg [mv 7 6, mv 8 0, rg 9 (.len (.t 8)), rg 10 (.bin .lss (.t 7) (.t 9)), mv 11 10, gd 12 11 false (.mov (.t 6)), gd 13 11 false (.mov (.t 1)),
 gd 14 11 false (.len (.t 13)), gd 15 11 false (.bin .lss (.t 12) (.t 14)), rg 16 (.pick (.t 11) (.c (.b true)) (.t 15))])
 (.cond (.t 16)
 .skip
 (.exit 0)))
 (.seq
 (.block 1
 (.reg [mv 19 5, mv 20 0, mv 21 6, rg 22 (.call 355 [(.t 20), (.t 21)]), mv 23 1, mv 24 6, rg 25 (.call 355 [(.t 23), (.t 24)]),
 rg 26 (.call 239 [(.t 22), (.t 25)]), rg 27 (.bsl 3 [(.b false), (.sl [] .nl), (.sl [] .nl)] 1 [(0, (.t 26))]), rg 28 (.app 3 (.t 19) (.t 27)), mv 5 28]))
 (.reg [mv 17 6, rg 18 (.bin .add (.t 17) (.c (.i .i64 1))), mv 6 18])))
 (.norm false [0, 1, 5, 6]))
def b348 : AX :=
 (.seq
 (.reg [rg 4 (.mov (.c (.sl [] .nl)))])
 (.seq
 (.note (.reg [rg 5 (.mov (.c (.sl [] .nl)))]) (.nil 5 3))
 (.seq
 (.seq
 (.reg [rg 6 (.mov (.c (.i .i64 0)))])
 (.lp 0 (.norm false [0, 1, 5, 6]) l348_0 (.norm false [5])))
 (.seq
 (.reg [mv 29 5, rg 30 (.call 349 [(.t 29)]), mv 4 30])
 (.pre (.norm false [4]) .ret)))))
def l349_0 : AX :=
 (.note
 (.seq
 (.seq
 (.reg [mv 6 3, rg 7 (.bin .gtr (.t 6) (.c (.i .i64 0))), mv 8 7, gd 9 8 true (.mov (.t 0)), gd 10 8 true (.mov (.t 3)),
 gd 11 8 true (.bin .sub (.t 10) (.c (.i .i64 1))), gd 12 8 true (.iad 3 (.t 9) (.t 11)), gd 13 8 true (.load (some 3) (.t 12)),
 gd 14 8 true (.call 235 [(.t 13)]), rg 15 (.pick (.t 8) (.t 14) (.c (.b false)))])
 (.cond (.t 15)
 .skip
 (.exit 0)))
 (.block 1
 (.reg [mv 16 3, rg 17 (.bin .sub (.t 16) (.c (.i .i64 1))), mv 3 17])))
 (.norm false [0, 3]))
def b349 : AX :=
 (.seq
 (.reg [rg 2 (.mov (.c (.sl [] .nl)))])
 (.seq
 (.reg [mv 4 0, rg 5 (.len (.t 4)), mv 3 5])
 (.seq
 (.lp 0 (.norm false [0, 3]) l349_0 (.norm false [0, 3]))
 (.seq
 (.reg [rg 18 (.bsl 3 [(.b false), (.sl [] .nl), (.sl [] .nl)] 0 []), mv 19 0, mv 20 3, rg 21 (.slc 3 (.t 19) none (some (.t 20)) none),
 rg 22 (.app 3 (.t 18) (.t 21)), mv 2 22])
 (.pre (.norm false [2]) .ret)))))
def b355 : AX :=
 (.seq
 (.reg [rg 4 (.alloc [(.b false), (.sl [] .nl), (.sl [] .nl)])])
 (.seq
 (.seq
 (.reg [mv 5 1, mv 6 0, rg 7 (.len (.t 6)), rg 8 (.bin .lss (.t 5) (.t 7))])
 (.cond (.t 8)
 (.seq
 (.reg [mv 9 0, mv 10 1, rg 11 (.iad 3 (.t 9) (.t 10)), rg 12 (.load (some 3) (.t 11)), so (.store 3 (.t 4) (.t 12))])
 (.pre (.norm false [4]) .ret))
 .skip))
 (.seq
 (.reg [rg 13 (.call 232 [(.c (.i .i64 0))]), so (.store 3 (.t 4) (.t 13))])
 (.pre (.norm false [4]) .ret))))
class CRef14 (T : Tbl) : Prop where
 h340 : T 340 = some ⟨1, 23, [.t 2], b340, none, false⟩
 h341 : T 341 = some ⟨2, 28, [.cell 4 (some 3)], b341, none, false⟩
 h347 : T 347 = some ⟨2, 55, [.t 4], b347, none, false⟩
 h348 : T 348 = some ⟨2, 31, [.t 4], b348, none, false⟩
 h349 : T 349 = some ⟨1, 23, [.t 2], b349, none, false⟩
 h355 : T 355 = some ⟨2, 14, [.cell 4 (some 3)], b355, none, false⟩
section
variable {T : Tbl} [CRef14 T] {d : Option Nat} {st : St} {xs : List AV} {ps : List Opd} {e : Env} {h : Heap} {ol : List Heap}
@[simp] theorem x340 : callX (orc T) T 340 xs d st = cP T 340 false xs d st := callX_pure CRef14.h340
theorem f340 (xs : List AV) (hn : xs.length = 1) : callF T 340 xs = retF [.t 2] false (evX (orc T) T 0 b340 ⟨argEnv xs, [], 1⟩) := callF_eq CRef14.h340 hn
@[simp] theorem x341 : callX (orc T) T 341 xs d st = cP T 341 false xs d st := callX_pure CRef14.h341
theorem f341 (xs : List AV) (hn : xs.length = 2) : callF T 341 xs = retF [.cell 4 (some 3)] false (evX (orc T) T 0 b341 ⟨argEnv xs, [], 1⟩) := callF_eq CRef14.h341 hn
@[simp] theorem x347 : callX (orc T) T 347 xs d st = cP T 347 false xs d st := callX_pure CRef14.h347
theorem f347 (xs : List AV) (hn : xs.length = 2) : callF T 347 xs = retF [.t 4] false (evX (orc T) T 0 b347 ⟨argEnv xs, [], 1⟩) := callF_eq CRef14.h347 hn
@[simp] theorem x348 : callX (orc T) T 348 xs d st = cP T 348 false xs d st := callX_pure CRef14.h348
theorem f348 (xs : List AV) (hn : xs.length = 2) : callF T 348 xs = retF [.t 4] false (evX (orc T) T 0 b348 ⟨argEnv xs, [], 1⟩) := callF_eq CRef14.h348 hn
@[simp] theorem x349 : callX (orc T) T 349 xs d st = cP T 349 false xs d st := callX_pure CRef14.h349
@[simp] theorem y349 : opD (orc T) T (.call 349 ps) e h ol = dP T 349 false ps e := opD_call CRef14.h349
theorem f349 (xs : List AV) (hn : xs.length = 1) : callF T 349 xs = retF [.t 2] false (evX (orc T) T 0 b349 ⟨argEnv xs, [], 1⟩) := callF_eq CRef14.h349 hn
@[simp] theorem x355 : callX (orc T) T 355 xs d st = cP T 355 false xs d st := callX_pure CRef14.h355
theorem f355 (xs : List AV) (hn : xs.length = 2) : callF T 355 xs = retF [.cell 4 (some 3)] false (evX (orc T) T 0 b355 ⟨argEnv xs, [], 1⟩) := callF_eq CRef14.h355 hn
end
end Go.Ab
end

section
namespace Go.Ab
def b327 : AX :=
 (.seq
 (.reg [rg 1 (.xop (.box 10) [(.t 0)]),
 rg 2 (.alloc [(.b false), (.sl [] .nl), (.sl [] .nl), (.b false), (.sl [] .nl), (.sl [] .nl), (.sl [] .nl), (.sl [] .nl), (.sl [] .nl), (.sl [] .nl)])])
 (.seq
 (.drawT [rg 3 (.fad 0 (.t 1)), rg 4 (.load (some 3) (.t 3)), rg 5 (.call 231 [(.t 4)]), rg 6 (.fad 3 (.t 1)), rg 7 (.load (some 3) (.t 6)),
 rg 8 (.call 231 [(.t 7)]), rg 9 (.fad 6 (.t 1)), rg 10 (.load none (.t 9)), rg 11 (.call 278 [(.t 10)]), rg 12 (.fad 7 (.t 1)),
 rg 13 (.load none (.t 12)), rg 14 (.call 278 [(.t 13)]), rg 15 (.fad 8 (.t 1)), rg 16 (.load none (.t 15)), rg 17 (.call 278 [(.t 16)]),
 rg 18 (.fad 9 (.t 1)), rg 19 (.load none (.t 18))]
 [rg 20 (.call 278 [(.t 19)]),
 rg 21 (.build [(.b false), (.sl [] .nl), (.sl [] .nl), (.b false), (.sl [] .nl), (.sl [] .nl), (.sl [] .nl), (.sl [] .nl), (.sl [] .nl), (.sl [] .nl)] [(0, 3, (.t 5)), (3, 3, (.t 8)), (6, 1, (.t 11)), (7, 1, (.t 14)), (8, 1, (.t 17)), (9, 1, (.t 20))]),
 so (.store 10 (.t 2) (.t 21))])
 (.pre (.norm false [2]) .ret)))
def b328 : AX :=
 (.seq
 (.reg [rg 1 (.xop (.box 10) [(.t 0)]), rg 2 (.mov (.c (.b false)))])
 (.seq
 (.reg [rg 3 (.fad 3 (.t 1)), rg 4 (.load (some 3) (.t 3)), rg 5 (.call 236 [(.t 4)]), rg 6 (.bin .gtr (.t 5) (.c (.i .i64 0))), mv 7 6,
 gd 8 7 true (.fad 7 (.t 1)), gd 9 7 true (.load none (.t 8)), gd 10 7 true (.len (.t 9)), gd 11 7 true (.fad 6 (.t 1)),
 gd 12 7 true (.load none (.t 11)), gd 13 7 true (.len (.t 12)), gd 14 7 true (.bin .eql (.t 10) (.t 13)), rg 15 (.pick (.t 7) (.t 14) (.c (.b false))),
 mv 16 15, gd 17 16 true (.fad 8 (.t 1)), gd 18 16 true (.load none (.t 17)), gd 19 16 true (.len (.t 18)), gd 20 16 true (.fad 6 (.t 1)),
 gd 21 16 true (.load none (.t 20)), gd 22 16 true (.len (.t 21)), gd 23 16 true (.bin .eql (.t 19) (.t 22)),
 rg 24 (.pick (.t 16) (.t 23) (.c (.b false))), mv 25 24, gd 26 25 true (.fad 9 (.t 1)), gd 27 25 true (.load none (.t 26)), gd 28 25 true (.len (.t 27)),
 gd 29 25 true (.fad 6 (.t 1)), gd 30 25 true (.load none (.t 29)), gd 31 25 true (.len (.t 30)), gd 32 25 true (.bin .eql (.t 28) (.t 31)),
 rg 33 (.pick (.t 25) (.t 32) (.c (.b false))), mv 2 33])
 (.pre (.norm false [2]) .ret)))
def l330_0 : AX :=
 (.note
 (.seq
 (.seq
 (.reg [mv 15 9, rg 16 (.fad 6 (.t 3)), rg 17 (.load none (.t 16)), rg 18 (.len (.t 17)), rg 19 (.bin .lss (.t 15) (.t 18))])
 (.cond (.t 19)
 .skip
 (.exit 0)))
 (.seq
 (.block 1
 (.seq
 (.reg [rg 22 (.load (some 10) (.t 3)), mv 23 9, rg 24 (.call 339 [(.t 22), (.t 23)]), mv 10 24])
 (.seq
 (.seq
 (.reg [mv 25 2])
 (.cond (.t 25)
 (.reg [mv 26 10, rg 27 (.call 340 [(.t 26)]), mv 10 27])
 .skip))
 (.reg [mv 28 7, mv 29 10, rg 30 (.load (some 3) (.t 8)), rg 31 (.call 341 [(.t 29), (.t 30)]),
 rg 32 (.bsl 3 [(.b false), (.sl [] .nl), (.sl [] .nl)] 1 [(0, (.t 31))]), rg 33 (.app 3 (.t 28) (.t 32)), mv 7 33]))))
 (.reg [mv 20 9, rg 21 (.bin .add (.t 20) (.c (.i .i64 1))), mv 9 21])))
 (.norm false [2, 3, 7, 8, 9]))
def b330 : AX :=
 (.seq
 (.reg [rg 3 (.xop (.box 10) [(.t 0)]), rg 4 (.xop (.box 3) [(.t 1)]), rg 6 (.mov (.c (.sl [] .nl)))])
 (.seq
 (.note (.reg [rg 7 (.mov (.c (.sl [] .nl)))]) (.nil 7 3))
 (.seq
 (.reg [rg 11 (.load (some 3) (.t 4)), rg 12 (.fad 0 (.t 3)), rg 13 (.load (some 3) (.t 12)), rg 14 (.call 240 [(.t 11), (.t 13)]),
 rg 8 (.alloc [(.b false), (.sl [] .nl), (.sl [] .nl)]), so (.store 3 (.t 8) (.t 14))])
 (.seq
 (.seq
 (.reg [rg 9 (.mov (.c (.i .i64 0)))])
 (.lp 0 (.norm false [2, 3, 7, 8, 9]) l330_0 (.norm false [7])))
 (.seq
 (.reg [mv 34 7, mv 6 34])
 (.pre (.norm false [6]) .ret))))))
def b339 : AX :=
 (.seq
 (.reg [rg 2 (.xop (.box 10) [(.t 0)]), rg 4 (.mov (.c (.sl [] .nl)))])
 (.seq
 (.draw [⟨rg 11 (.fad 7 (.t 2)), 0, 1⟩, ⟨rg 12 (.load none (.t 11)), 0, 1⟩, ⟨mv 13 1, 0, 1⟩, ⟨rg 14 (.iad 3 (.t 12) (.t 13)), 0, 1⟩,
 ⟨rg 15 (.load (some 3) (.t 14)), 0, 1⟩, ⟨rg 16 (.fad 6 (.t 2)), 0, 1⟩, ⟨rg 17 (.load none (.t 16)), 0, 1⟩, ⟨mv 18 1, 0, 1⟩,
 ⟨rg 19 (.iad 3 (.t 17) (.t 18)), 0, 1⟩, ⟨rg 20 (.load (some 3) (.t 19)), 0, 1⟩, ⟨rg 21 (.call 240 [(.t 15), (.t 20)]), 0, 1⟩,
 ⟨rg 22 (.fad 3 (.t 2)), 0, 1⟩, ⟨rg 23 (.load (some 3) (.t 22)), 0, 1⟩, ⟨rg 24 (.call 242 [(.t 21), (.t 23)]), 0, 1⟩,
 ⟨rg 5 (.alloc [(.b false), (.sl [] .nl), (.sl [] .nl)]), 0, 1⟩, ⟨so (.store 3 (.t 5) (.t 24)), 1, 2⟩])
 (.seq
 (.draw [⟨rg 25 (.load (some 3) (.t 5)), 0, 1⟩, ⟨rg 26 (.fad 8 (.t 2)), 0, 1⟩, ⟨rg 27 (.load none (.t 26)), 0, 1⟩, ⟨mv 28 1, 0, 1⟩,
 ⟨rg 29 (.iad 3 (.t 27) (.t 28)), 0, 1⟩, ⟨rg 30 (.load (some 3) (.t 29)), 0, 1⟩, ⟨rg 31 (.call 240 [(.t 25), (.t 30)]), 0, 1⟩,
 ⟨rg 32 (.fad 3 (.t 2)), 0, 1⟩, ⟨rg 33 (.load (some 3) (.t 32)), 0, 1⟩, ⟨rg 34 (.call 242 [(.t 31), (.t 33)]), 0, 1⟩,
 ⟨rg 6 (.alloc [(.b false), (.sl [] .nl), (.sl [] .nl)]), 0, 1⟩, ⟨so (.store 3 (.t 6) (.t 34)), 1, 2⟩])
 (.seq
 (.draw [⟨rg 35 (.fad 9 (.t 2)), 0, 1⟩, ⟨rg 36 (.load none (.t 35)), 0, 1⟩, ⟨mv 37 1, 0, 1⟩, ⟨rg 38 (.iad 3 (.t 36) (.t 37)), 0, 1⟩,
 ⟨rg 39 (.load (some 3) (.t 38)), 0, 1⟩, ⟨rg 40 (.load (some 3) (.t 5)), 0, 1⟩, ⟨rg 41 (.call 240 [(.t 39), (.t 40)]), 0, 1⟩,
 ⟨rg 42 (.fad 3 (.t 2)), 0, 1⟩, ⟨rg 43 (.load (some 3) (.t 42)), 0, 1⟩, ⟨rg 44 (.call 242 [(.t 41), (.t 43)]), 0, 1⟩,
 ⟨rg 7 (.alloc [(.b false), (.sl [] .nl), (.sl [] .nl)]), 0, 1⟩, ⟨so (.store 3 (.t 7) (.t 44)), 1, 2⟩])
 (.seq
 (.draw [⟨rg 45 (.load (some 3) (.t 7)), 0, 1⟩, ⟨rg 46 (.load (some 3) (.t 6)), 0, 1⟩, ⟨rg 47 (.call 240 [(.t 45), (.t 46)]), 0, 1⟩,
 ⟨rg 48 (.fad 3 (.t 2)), 0, 1⟩, ⟨rg 49 (.load (some 3) (.t 48)), 0, 1⟩, ⟨rg 50 (.call 242 [(.t 47), (.t 49)]), 0, 1⟩,
 ⟨rg 8 (.alloc [(.b false), (.sl [] .nl), (.sl [] .nl)]), 0, 1⟩, ⟨so (.store 3 (.t 8) (.t 50)), 1, 2⟩])
 (.seq
 (.reg [rg 51 (.call 232 [(.c (.i .i64 0))]), rg 9 (.alloc [(.b false), (.sl [] .nl), (.sl [] .nl)]), so (.store 3 (.t 9) (.t 51))])
 (.seq
 (.drawT [rg 52 (.load (some 3) (.t 9)), rg 53 (.load (some 3) (.t 9)), rg 54 (.load (some 3) (.t 8)),
 rg 55 (.bsl 3 [(.b false), (.sl [] .nl), (.sl [] .nl)] 3 [(0, (.t 52)), (1, (.t 53)), (2, (.t 54))]), rg 56 (.fad 3 (.t 2)),
 rg 57 (.load (some 3) (.t 56)), rg 58 (.call 237 [(.t 57)]), rg 59 (.call 232 [(.c (.i .i64 1))]),
 rg 60 (.bsl 3 [(.b false), (.sl [] .nl), (.sl [] .nl)] 2 [(0, (.t 58)), (1, (.t 59))])]
 [rg 61 (.call 347 [(.t 55), (.t 60)]), mv 10 61])
 (.seq
 (.drawT [rg 62 (.fad 6 (.t 2)), rg 63 (.load none (.t 62)), mv 64 1, rg 65 (.iad 3 (.t 63) (.t 64)), rg 66 (.load (some 3) (.t 65)), rg 67 (.fad 8 (.t 2)),
 rg 68 (.load none (.t 67)), mv 69 1, rg 70 (.iad 3 (.t 68) (.t 69)), rg 71 (.load (some 3) (.t 70)), rg 72 (.load (some 3) (.t 6)),
 rg 73 (.bsl 3 [(.b false), (.sl [] .nl), (.sl [] .nl)] 3 [(0, (.t 66)), (1, (.t 71)), (2, (.t 72))]), rg 74 (.call 349 [(.t 73)]), mv 75 10]
 [rg 76 (.call 348 [(.t 74), (.t 75)]), mv 4 76])
 (.pre (.norm false [4]) .ret)))))))))
class CRef41 (T : Tbl) : Prop where
 h327 : T 327 = some ⟨1, 22, [.cell 2 (some 10)], b327, none, false⟩
 h328 : T 328 = some ⟨1, 34, [.t 2], b328, none, false⟩
 h330 : T 330 = some ⟨3, 35, [.t 6], b330, none, false⟩
 h339 : T 339 = some ⟨2, 77, [.t 4], b339, none, false⟩
section
variable {T : Tbl} [CRef41 T] {d : Option Nat} {st : St} {xs : List AV} {ps : List Opd} {e : Env} {h : Heap} {ol : List Heap}
@[simp] theorem x327 : callX (orc T) T 327 xs d st = cP T 327 false xs d st := callX_pure CRef41.h327
theorem f327 (xs : List AV) (hn : xs.length = 1) : callF T 327 xs = retF [.cell 2 (some 10)] false (evX (orc T) T 0 b327 ⟨argEnv xs, [], 1⟩) := callF_eq CRef41.h327 hn
@[simp] theorem x328 : callX (orc T) T 328 xs d st = cP T 328 false xs d st := callX_pure CRef41.h328
theorem f328 (xs : List AV) (hn : xs.length = 1) : callF T 328 xs = retF [.t 2] false (evX (orc T) T 0 b328 ⟨argEnv xs, [], 1⟩) := callF_eq CRef41.h328 hn
@[simp] theorem x330 : callX (orc T) T 330 xs d st = cP T 330 false xs d st := callX_pure CRef41.h330
theorem f330 (xs : List AV) (hn : xs.length = 3) : callF T 330 xs = retF [.t 6] false (evX (orc T) T 0 b330 ⟨argEnv xs, [], 1⟩) := callF_eq CRef41.h330 hn
@[simp] theorem x339 : callX (orc T) T 339 xs d st = cP T 339 false xs d st := callX_pure CRef41.h339
theorem f339 (xs : List AV) (hn : xs.length = 2) : callF T 339 xs = retF [.t 4] false (evX (orc T) T 0 b339 ⟨argEnv xs, [], 1⟩) := callF_eq CRef41.h339 hn
end
end Go.Ab
end

section
namespace Go.Ab
def b311 : AX :=
 (.seq
 (.reg [rg 2 (.xop (.box 10) [(.t 0)]), rg 3 (.xop (.box 3) [(.t 1)]), rg 4 (.mov (.c (.b false)))])
 (.seq
 (.seq
 (.reg [rg 12 (.load (some 10) (.t 2)), rg 13 (.call 322 [(.t 12)]), mv 14 13, gd 15 14 false (.load (some 3) (.t 3)),
 gd 16 14 false (.call 247 [(.t 15), (.c (.i .i64 2))]), rg 17 (.pick (.t 14) (.c (.b true)) (.t 16))])
 (.cond (.t 17)
 (.seq
 (.reg [rg 18 (.call 323 []), mv 4 18])
 (.pre (.norm false [4]) .ret))
 .skip))
 (.seq
 (.drawT [rg 20 (.load (some 10) (.t 2)), rg 21 (.call 325 [(.t 20)]), rg 22 (.load (some 3) (.t 3)), rg 23 (.call 248 [(.t 22)]),
 rg 24 (.call 324 [(.t 21), (.t 23)]), mv 19 24, rg 25 (.ext (.t 19) 0), rg 26 (.ext (.t 19) 1), mv 5 25]
 [mv 6 26])
 (.seq
 (.drawT [rg 28 (.load (some 10) (.t 2)), rg 29 (.call 325 [(.t 28)]), rg 30 (.load (some 3) (.t 3)), rg 31 (.call 248 [(.t 30)]),
 rg 32 (.call 326 [(.t 29), (.t 31)]), mv 27 32, rg 33 (.ext (.t 27) 0), rg 34 (.ext (.t 27) 1), mv 7 33]
 [mv 8 34])
 (.seq
 (.reg [rg 35 (.load (some 10) (.t 2)), rg 36 (.call 327 [(.t 35)]),
 rg 9 (.alloc [(.b false), (.sl [] .nl), (.sl [] .nl), (.b false), (.sl [] .nl), (.sl [] .nl), (.sl [] .nl), (.sl [] .nl), (.sl [] .nl), (.sl [] .nl)]),
 so (.store 10 (.t 9) (.t 36))])
 (.seq
 (.reg [rg 37 (.load (some 10) (.t 9)), rg 38 (.call 328 [(.t 37)]), mv 10 38])
 (.seq
 (.seq
 (.reg [rg 39 (.load (some 10) (.t 2)), rg 40 (.call 325 [(.t 39)]), rg 41 (.call 329 [(.t 40)]), mv 42 10, rg 43 (.eqb true (.t 41) (.t 42)), mv 44 43,
 gd 45 44 false (.mov (.t 6)), gd 46 44 false (.mov (.t 10)), gd 47 44 false (.eqb true (.t 45) (.t 46)), rg 48 (.pick (.t 44) (.c (.b true)) (.t 47)),
 mv 49 48, gd 50 49 false (.mov (.t 8)), gd 51 49 false (.mov (.t 10)), gd 52 49 false (.eqb true (.t 50) (.t 51)),
 rg 53 (.pick (.t 49) (.c (.b true)) (.t 52))])
 (.cond (.t 53)
 (.seq
 (.reg [rg 4 (.mov (.c (.b false)))])
 (.pre (.norm false [4]) .ret))
 .skip))
 (.seq
 (.seq
 (.reg [mv 54 10, rg 55 (.un .not (.t 54))])
 (.cond (.t 55)
 (.seq
 (.reg [mv 56 5, rg 57 (.len (.t 56)), rg 58 (.bin .eql (.t 57) (.c (.i .i64 0))), mv 59 58, gd 60 59 true (.mov (.t 7)), gd 61 59 true (.len (.t 60)),
 gd 62 59 true (.bin .eql (.t 61) (.c (.i .i64 0))), rg 63 (.pick (.t 59) (.t 62) (.c (.b false))), mv 64 63, gd 65 64 true (.call 323 []),
 rg 66 (.pick (.t 64) (.t 65) (.c (.b false))), mv 4 66])
 (.pre (.norm false [4]) .ret))
 .skip))
 (.seq
 (.reg [rg 67 (.load (some 3) (.t 3)), rg 68 (.call 231 [(.t 67)]), rg 11 (.alloc [(.b false), (.sl [] .nl), (.sl [] .nl)]), so (.store 3 (.t 11) (.t 68))])
 (.seq
 (.reg [mv 69 5, rg 70 (.load (some 10) (.t 9)), rg 71 (.load (some 3) (.t 11)), rg 72 (.call 330 [(.t 70), (.t 71), (.c (.b false))]),
 rg 73 (.call 289 [(.t 69), (.t 72)]), mv 74 73, gd 75 74 true (.mov (.t 7)), gd 76 74 true (.load (some 10) (.t 9)),
 gd 77 74 true (.load (some 3) (.t 11)), gd 78 74 true (.call 330 [(.t 76), (.t 77), (.c (.b true))]), gd 79 74 true (.call 289 [(.t 75), (.t 78)]),
 rg 80 (.pick (.t 74) (.t 79) (.c (.b false))), mv 81 80, gd 82 81 true (.call 323 []), rg 83 (.pick (.t 81) (.t 82) (.c (.b false))), mv 4 83])
 (.pre (.norm false [4]) .ret)))))))))))
def b315 : AX :=
 (.seq
 (.reg [rg 3 (.xop (.box 9) [(.t 1)]), rg 4 (.mov (.c (.b false)))])
 (.seq
 (.seq
 (.reg [mv 16 0, rg 17 (.call 286 [(.t 16), (.c (.i .i64 4)), (.c (.i .i64 2))]), mv 18 17, gd 19 18 false (.iaa 3 3 (.t 3) (.c (.i .i64 0))),
 gd 20 18 false (.load (some 3) (.t 19)), gd 21 18 false (.call 247 [(.t 20), (.c (.i .i64 2))]), rg 22 (.pick (.t 18) (.c (.b true)) (.t 21)), mv 23 22,
 gd 24 23 false (.iaa 3 3 (.t 3) (.c (.i .i64 1))), gd 25 23 false (.load (some 3) (.t 24)), gd 26 23 false (.call 247 [(.t 25), (.c (.i .i64 2))]),
 rg 27 (.pick (.t 23) (.c (.b true)) (.t 26)), mv 28 27, gd 29 28 false (.iaa 3 3 (.t 3) (.c (.i .i64 2))), gd 30 28 false (.load (some 3) (.t 29)),
 gd 31 28 false (.call 247 [(.t 30), (.c (.i .i64 2))]), rg 32 (.pick (.t 28) (.c (.b true)) (.t 31))])
 (.cond (.t 32)
 (.seq
 (.reg [rg 33 (.call 323 []), mv 4 33])
 (.pre (.norm false [4]) .ret))
 .skip))
 (.seq
 (.reg [mv 34 0, rg 35 (.call 287 [(.t 34)]), mv 5 35])
 (.seq
 (.reg [mv 36 5, rg 37 (.call 331 [(.t 36)]), mv 6 37])
 (.seq
 (.reg [rg 38 (.iaa 3 3 (.t 3) (.c (.i .i64 0))), rg 39 (.load (some 3) (.t 38)), rg 40 (.call 248 [(.t 39)]),
 rg 7 (.alloc [(.b false), (.sl [] .nl), (.sl [] .nl)]), so (.store 3 (.t 7) (.t 40))])
 (.seq
 (.reg [rg 41 (.iaa 3 3 (.t 3) (.c (.i .i64 1))), rg 42 (.load (some 3) (.t 41)), rg 43 (.call 248 [(.t 42)]), rg 44 (.call 214 [(.t 43)]),
 rg 8 (.alloc [(.b false), (.sl [] .nl), (.sl [] .nl)]), so (.store 3 (.t 8) (.t 44))])
 (.seq
 (.reg [rg 45 (.iaa 3 3 (.t 3) (.c (.i .i64 2))), rg 46 (.load (some 3) (.t 45)), rg 47 (.call 248 [(.t 46)]),
 rg 9 (.alloc [(.b false), (.sl [] .nl), (.sl [] .nl)]), so (.store 3 (.t 9) (.t 47))])
 (.seq
 (.seq
 (.reg [rg 48 (.load (some 3) (.t 8)), rg 49 (.call 209 [(.t 48)]), rg 50 (.bin .eql (.t 49) (.c (.i .i64 0)))])
 (.cond (.t 50)
 (.seq
 (.reg [rg 51 (.call 323 []), mv 4 51])
 (.pre (.norm false [4]) .ret))
 .skip))
 (.seq
 (.reg [rg 52 (.load (some 3) (.t 7)), rg 53 (.load (some 3) (.t 8)), rg 54 (.call 215 [(.t 52), (.t 53)]),
 rg 10 (.alloc [(.b false), (.sl [] .nl), (.sl [] .nl)]), so (.store 3 (.t 10) (.t 54))])
 (.seq
 (.draw [⟨rg 55 (.load (some 3) (.t 7)), 0, 1⟩, ⟨rg 56 (.load (some 3) (.t 8)), 0, 1⟩, ⟨mv 57 5, 0, 1⟩, ⟨rg 58 (.load (some 3) (.t 7)), 0, 1⟩,
 ⟨rg 59 (.call 332 [(.t 57), (.t 58)]), 0, 1⟩, ⟨rg 60 (.bsl 3 [(.b false), (.sl [] .nl), (.sl [] .nl)] 1 [(0, (.t 59))]), 0, 1⟩, ⟨mv 61 5, 0, 1⟩,
 ⟨rg 62 (.load (some 3) (.t 10)), 0, 1⟩, ⟨rg 63 (.call 332 [(.t 61), (.t 62)]), 0, 1⟩,
 ⟨rg 64 (.bsl 3 [(.b false), (.sl [] .nl), (.sl [] .nl)] 1 [(0, (.t 63))]), 0, 1⟩, ⟨mv 65 6, 0, 1⟩, ⟨rg 66 (.load (some 3) (.t 7)), 0, 1⟩,
 ⟨rg 67 (.call 332 [(.t 65), (.t 66)]), 0, 1⟩, ⟨rg 68 (.bsl 3 [(.b false), (.sl [] .nl), (.sl [] .nl)] 1 [(0, (.t 67))]), 0, 1⟩, ⟨mv 69 6, 0, 1⟩,
 ⟨rg 70 (.load (some 3) (.t 10)), 0, 1⟩, ⟨rg 71 (.call 332 [(.t 69), (.t 70)]), 0, 1⟩,
 ⟨rg 72 (.bsl 3 [(.b false), (.sl [] .nl), (.sl [] .nl)] 1 [(0, (.t 71))]), 0, 1⟩,
 ⟨rg 73 (.build [(.b false), (.sl [] .nl), (.sl [] .nl), (.b false), (.sl [] .nl), (.sl [] .nl), (.sl [] .nl), (.sl [] .nl), (.sl [] .nl), (.sl [] .nl)] [(0, 3, (.t 55)), (3, 3, (.t 56)), (6, 1, (.t 60)), (7, 1, (.t 64)), (8, 1, (.t 68)), (9, 1, (.t 72))]), 0, 1⟩,
 ⟨rg 11 (.alloc [(.b false), (.sl [] .nl), (.sl [] .nl), (.b false), (.sl [] .nl), (.sl [] .nl), (.sl [] .nl), (.sl [] .nl), (.sl [] .nl), (.sl [] .nl)]), 0, 1⟩,
 ⟨so (.store 10 (.t 11) (.t 73)), 1, 2⟩])
 (.seq
 (.reg [rg 75 (.load (some 10) (.t 11)), rg 76 (.load (some 3) (.t 9)), rg 77 (.call 324 [(.t 75), (.t 76)]), mv 74 77, rg 78 (.ext (.t 74) 0),
 rg 79 (.ext (.t 74) 1), mv 12 78, mv 13 79])
 (.seq
 (.reg [rg 81 (.load (some 10) (.t 11)), rg 82 (.load (some 3) (.t 9)), rg 83 (.call 326 [(.t 81), (.t 82)]), mv 80 83, rg 84 (.ext (.t 80) 0),
 rg 85 (.ext (.t 80) 1), mv 14 84, mv 15 85])
 (.seq
 (.reg [mv 86 13, mv 87 86, gd 88 87 true (.mov (.t 15)), rg 89 (.pick (.t 87) (.t 88) (.c (.b false))), mv 90 89, gd 91 90 true (.mov (.t 12)),
 gd 92 90 true (.mov (.t 5)), gd 93 90 true (.load (some 3) (.t 9)), gd 94 90 true (.call 332 [(.t 92), (.t 93)]),
 gd 95 90 true (.bsl 3 [(.b false), (.sl [] .nl), (.sl [] .nl)] 1 [(0, (.t 94))]), gd 96 90 true (.call 265 [(.t 91), (.t 95)]),
 rg 97 (.pick (.t 90) (.t 96) (.c (.b false))), mv 98 97, gd 99 98 true (.mov (.t 14)), gd 100 98 true (.mov (.t 6)),
 gd 101 98 true (.load (some 3) (.t 9)), gd 102 98 true (.call 332 [(.t 100), (.t 101)]),
 gd 103 98 true (.bsl 3 [(.b false), (.sl [] .nl), (.sl [] .nl)] 1 [(0, (.t 102))]), gd 104 98 true (.call 265 [(.t 99), (.t 103)]),
 rg 105 (.pick (.t 98) (.t 104) (.c (.b false))), mv 106 105, gd 107 106 true (.call 323 []), rg 108 (.pick (.t 106) (.t 107) (.c (.b false))), mv 4 108])
 (.pre (.norm false [4]) .ret))))))))))))))
def b322 : AX :=
 (.seq
 (.reg [rg 1 (.xop (.box 10) [(.t 0)]), rg 2 (.mov (.c (.b false)))])
 (.seq
 (.reg [rg 3 (.fad 0 (.t 1)), rg 4 (.load (some 3) (.t 3)), rg 5 (.call 247 [(.t 4), (.c (.i .i64 2))]), mv 6 5, gd 7 6 false (.fad 3 (.t 1)),
 gd 8 6 false (.load (some 3) (.t 7)), gd 9 6 false (.call 247 [(.t 8), (.c (.i .i64 2))]), rg 10 (.pick (.t 6) (.c (.b true)) (.t 9)), mv 11 10,
 gd 12 11 false (.fad 6 (.t 1)), gd 13 11 false (.load none (.t 12)), gd 14 11 false (.call 286 [(.t 13), (.c (.i .i64 4)), (.c (.i .i64 2))]),
 rg 15 (.pick (.t 11) (.c (.b true)) (.t 14)), mv 16 15, gd 17 16 false (.fad 7 (.t 1)), gd 18 16 false (.load none (.t 17)),
 gd 19 16 false (.call 286 [(.t 18), (.c (.i .i64 4)), (.c (.i .i64 2))]), rg 20 (.pick (.t 16) (.c (.b true)) (.t 19)), mv 21 20,
 gd 22 21 false (.fad 8 (.t 1)), gd 23 21 false (.load none (.t 22)), gd 24 21 false (.call 286 [(.t 23), (.c (.i .i64 4)), (.c (.i .i64 2))]),
 rg 25 (.pick (.t 21) (.c (.b true)) (.t 24)), mv 26 25, gd 27 26 false (.fad 9 (.t 1)), gd 28 26 false (.load none (.t 27)),
 gd 29 26 false (.call 286 [(.t 28), (.c (.i .i64 4)), (.c (.i .i64 2))]), rg 30 (.pick (.t 26) (.c (.b true)) (.t 29)), mv 2 30])
 (.pre (.norm false [2]) .ret)))
def b323 : AX :=
 (.seq
 (.reg [rg 0 (.mov (.c (.b false)))])
 (.seq
 (.reg [rg 7 (.call 205 [(.c (.i .i64 0))]), rg 8 (.bsl 3 [(.b false), (.sl [] .nl), (.sl [] .nl)] 1 [(0, (.t 7))]), mv 1 8])
 (.seq
 (.reg [rg 9 (.call 205 [(.c (.i .i64 0))]), rg 10 (.call 205 [(.c (.i .i64 2))]), mv 11 1, rg 12 (.call 205 [(.c (.i .i64 8))]),
 rg 13 (.bsl 3 [(.b false), (.sl [] .nl), (.sl [] .nl)] 1 [(0, (.t 12))]), mv 14 1, rg 15 (.call 205 [(.c (.i .i64 12))]),
 rg 16 (.bsl 3 [(.b false), (.sl [] .nl), (.sl [] .nl)] 1 [(0, (.t 15))]),
 rg 17 (.build [(.b false), (.sl [] .nl), (.sl [] .nl), (.b false), (.sl [] .nl), (.sl [] .nl), (.sl [] .nl), (.sl [] .nl), (.sl [] .nl), (.sl [] .nl)] [(0, 3, (.t 9)), (3, 3, (.t 10)), (6, 1, (.t 11)), (7, 1, (.t 13)), (8, 1, (.t 14)), (9, 1, (.t 16))]),
 rg 2 (.alloc [(.b false), (.sl [] .nl), (.sl [] .nl), (.b false), (.sl [] .nl), (.sl [] .nl), (.sl [] .nl), (.sl [] .nl), (.sl [] .nl), (.sl [] .nl)]),
 so (.store 10 (.t 2) (.t 17))])
 (.seq
 (.drawT [rg 19 (.load (some 10) (.t 2)), rg 20 (.call 205 [(.c (.i .i64 1))]), rg 21 (.call 324 [(.t 19), (.t 20)]), mv 18 21, rg 22 (.ext (.t 18) 0),
 rg 23 (.ext (.t 18) 1), mv 3 22]
 [mv 4 23])
 (.seq
 (.drawT [rg 25 (.load (some 10) (.t 2)), rg 26 (.call 205 [(.c (.i .i64 1))]), rg 27 (.call 326 [(.t 25), (.t 26)]), mv 24 27, rg 28 (.ext (.t 24) 0),
 rg 29 (.ext (.t 24) 1), mv 5 28]
 [mv 6 29])
 (.seq
 (.reg [mv 30 4, mv 31 30, gd 32 31 true (.mov (.t 6)), rg 33 (.pick (.t 31) (.t 32) (.c (.b false))), mv 34 33, gd 35 34 true (.mov (.t 3)),
 gd 36 34 true (.call 274 [(.t 35)]), gd 37 34 true (.bin .eql (.t 36) (.c (.s [49]))), rg 38 (.pick (.t 34) (.t 37) (.c (.b false))), mv 39 38,
 gd 40 39 true (.mov (.t 5)), gd 41 39 true (.call 274 [(.t 40)]), gd 42 39 true (.bin .eql (.t 41) (.c (.s [51]))),
 rg 43 (.pick (.t 39) (.t 42) (.c (.b false))), mv 0 43])
 (.pre (.norm false [0]) .ret)))))))
def b325 : AX :=
 (.seq
 (.reg [rg 1 (.xop (.box 10) [(.t 0)]),
 rg 2 (.alloc [(.b false), (.sl [] .nl), (.sl [] .nl), (.b false), (.sl [] .nl), (.sl [] .nl), (.sl [] .nl), (.sl [] .nl), (.sl [] .nl), (.sl [] .nl)])])
 (.seq
 (.drawT [rg 3 (.fad 0 (.t 1)), rg 4 (.load (some 3) (.t 3)), rg 5 (.call 248 [(.t 4)]), rg 6 (.fad 3 (.t 1)), rg 7 (.load (some 3) (.t 6)),
 rg 8 (.call 248 [(.t 7)]), rg 9 (.fad 6 (.t 1)), rg 10 (.load none (.t 9)), rg 11 (.call 287 [(.t 10)]), rg 12 (.fad 7 (.t 1)),
 rg 13 (.load none (.t 12)), rg 14 (.call 287 [(.t 13)]), rg 15 (.fad 8 (.t 1)), rg 16 (.load none (.t 15)), rg 17 (.call 287 [(.t 16)]),
 rg 18 (.fad 9 (.t 1)), rg 19 (.load none (.t 18))]
 [rg 20 (.call 287 [(.t 19)]),
 rg 21 (.build [(.b false), (.sl [] .nl), (.sl [] .nl), (.b false), (.sl [] .nl), (.sl [] .nl), (.sl [] .nl), (.sl [] .nl), (.sl [] .nl), (.sl [] .nl)] [(0, 3, (.t 5)), (3, 3, (.t 8)), (6, 1, (.t 11)), (7, 1, (.t 14)), (8, 1, (.t 17)), (9, 1, (.t 20))]),
 so (.store 10 (.t 2) (.t 21))])
 (.pre (.norm false [2]) .ret)))
class CLaw41 (T : Tbl) : Prop where
 h311 : T 311 = some ⟨2, 84, [.t 4], b311, none, false⟩
 h315 : T 315 = some ⟨2, 109, [.t 4], b315, none, false⟩
 h322 : T 322 = some ⟨1, 31, [.t 2], b322, none, false⟩
 h323 : T 323 = some ⟨0, 44, [.t 0], b323, none, false⟩
 h325 : T 325 = some ⟨1, 22, [.cell 2 (some 10)], b325, none, false⟩
section
variable {T : Tbl} [CLaw41 T] {d : Option Nat} {st : St} {xs : List AV} {ps : List Opd} {e : Env} {h : Heap} {ol : List Heap}
theorem f311 (xs : List AV) (hn : xs.length = 2) : callF T 311 xs = retF [.t 4] false (evX (orc T) T 0 b311 ⟨argEnv xs, [], 1⟩) := callF_eq CLaw41.h311 hn
theorem f315 (xs : List AV) (hn : xs.length = 2) : callF T 315 xs = retF [.t 4] false (evX (orc T) T 0 b315 ⟨argEnv xs, [], 1⟩) := callF_eq CLaw41.h315 hn
@[simp] theorem x322 : callX (orc T) T 322 xs d st = cP T 322 false xs d st := callX_pure CLaw41.h322
theorem f322 (xs : List AV) (hn : xs.length = 1) : callF T 322 xs = retF [.t 2] false (evX (orc T) T 0 b322 ⟨argEnv xs, [], 1⟩) := callF_eq CLaw41.h322 hn
@[simp] theorem x323 : callX (orc T) T 323 xs d st = cP T 323 false xs d st := callX_pure CLaw41.h323
theorem f323 (xs : List AV) (hn : xs.length = 0) : callF T 323 xs = retF [.t 0] false (evX (orc T) T 0 b323 ⟨argEnv xs, [], 1⟩) := callF_eq CLaw41.h323 hn
@[simp] theorem x325 : callX (orc T) T 325 xs d st = cP T 325 false xs d st := callX_pure CLaw41.h325
@[simp] theorem y325 : opD (orc T) T (.call 325 ps) e h ol = dP T 325 false ps e := opD_call CLaw41.h325
theorem f325 (xs : List AV) (hn : xs.length = 1) : callF T 325 xs = retF [.cell 2 (some 10)] false (evX (orc T) T 0 b325 ⟨argEnv xs, [], 1⟩) := callF_eq CLaw41.h325 hn
end
end Go.Ab
end

section
namespace Go.Ab
open Go.RowKit
def opU : AOp → Option Nat
  | .call u _ => some u
  | _ => none
def cXs : AX → List Nat
  | .reg l => l.filterMap fun o => opU o.op
  | .draw l => l.filterMap fun o => opU o.ao.op
  | .drawT hd tl => (hd.filterMap fun o => opU o.op) ++ tl.filterMap fun o => opU o.op
  | .seq a b => cXs a ++ cXs b
  | .cond _ x y => cXs x ++ cXs y
  | .block _ c | .loop c | .note c _ | .pre _ c | .scope c | .lp _ _ c _ => cXs c
  | _ => []
structure Agr (R : Nat → Bool) (T T' : Tbl) (O O' : Orc) : Prop where
  tbl : ∀ u, R u = true → T u = T' u
  call : ∀ u xs hb, R u = true → O.call u xs hb = O'.call u xs hb
  loop : ∀ k c st, (∀ u ∈ cXs c, R u = true) → O.loop k c st = O'.loop k c st
section
variable {R : Nat → Bool} {T T' : Tbl} {O O' : Orc}
theorem callX_agr (h : Agr R T T' O O') {u : Nat} (hu : R u = true) {xs : List AV} {d : Option Nat} {st : St} : callX O T u xs d st = callX O' T' u xs d st := by
  unfold callX
  rw [h.tbl u hu]
  simp only [h.call u _ _ hu]
theorem opX_agr (h : Agr R T T' O O') {op : AOp} (hu : ∀ u, opU op = some u → R u = true) {d : Option Nat} {st : St} : opX O T op d st = opX O' T' op d st := by
  cases op <;> simp only [opX]
  exact callX_agr h (hu _ rfl)
theorem stepX_agr (h : Agr R T T' O O') {o : AO} (hu : ∀ u, opU o.op = some u → R u = true) {st : St} : stepX O T o st = stepX O' T' o st := by
  unfold stepX gX
  simp only [opX_agr h hu]
theorem runX_agr (h : Agr R T T' O O') : ∀ (l : List AO), (∀ o ∈ l, ∀ u, opU o.op = some u → R u = true) → ∀ st, runX O T l st = runX O' T' l st
  | [], _, st => rfl
  | o :: l, hu, st => by
    simp only [runX]
    rw [stepX_agr h (hu o List.mem_cons_self)]
    congr 1
    funext s
    exact runX_agr h l (fun o ho => hu o (List.mem_cons_of_mem _ ho)) s
theorem opD_agr (h : Agr R T T' O O') {op : AOp} (hu : ∀ u, opU op = some u → R u = true) {e : Env} {hp : Heap} {older : List Heap} : opD O T op e hp older = opD O' T' op e hp older := by
  cases op <;> simp only [opD]
  rw [h.tbl _ (hu _ rfl)]
  simp only [h.call _ _ _ (hu _ rfl)]
theorem qX_agr (h : Agr R T T' O O') {o : AO} (hu : ∀ u, opU o.op = some u → R u = true) {e : Env} {hp : Heap} {older : List Heap} : qX O T o e hp older = qX O' T' o e hp older := by
  unfold qX
  simp only [opD_agr h hu]
theorem drawX_agr (h : Agr R T T' O O') : ∀ (l : List DO), (∀ o ∈ l, ∀ u, opU o.ao.op = some u → R u = true) → ∀ e hp clk older pend, drawX O T l e hp clk older pend = drawX O' T' l e hp clk older pend
  | [], _, e, hp, clk, older, pend => rfl
  | o :: l, hu, e, hp, clk, older, pend => by
    have ih := drawX_agr h l (fun o ho => hu o (List.mem_cons_of_mem _ ho))
    simp only [drawX]
    rw [qX_agr h (hu o List.mem_cons_self)]
    simp only [ih]
theorem headX_agr (h : Agr R T T' O O') (tl : List AO) (ht : ∀ o ∈ tl, ∀ u, opU o.op = some u → R u = true) : ∀ (l : List AO), (∀ o ∈ l, ∀ u, opU o.op = some u → R u = true) → ∀ e hp clk, headX O T tl l e hp clk = headX O' T' tl l e hp clk
  | [], _, e, hp, clk => runX_agr h tl ht _
  | o :: l, hu, e, hp, clk => by
    have ih := headX_agr h tl ht l (fun o ho => hu o (List.mem_cons_of_mem _ ho))
    simp only [headX]
    rw [qX_agr h (hu o List.mem_cons_self)]
    simp only [ih]
theorem evX_agr (h : Agr R T T' O O') (k : Nat) : ∀ (c : AX), (∀ u ∈ cXs c, R u = true) → ∀ st, evX O T k c st = evX O' T' k c st
  | .skip, _, st => rfl
  | .reg l, hu, st => by
    simp only [evX]
    rw [runX_agr h l fun o ho u hou => hu u (List.mem_filterMap.2 ⟨o, ho, hou⟩)]
  | .draw l, hu, st => by
    simp only [evX]
    rw [drawX_agr h l fun o ho u hou => hu u (List.mem_filterMap.2 ⟨o, ho, hou⟩)]
  | .drawT hd tl, hu, st => by
    simp only [evX]
    rw [headX_agr h tl (fun o ho u hou => hu u (List.mem_append_right _ (List.mem_filterMap.2 ⟨o, ho, hou⟩))) hd (fun o ho u hou => hu u (List.mem_append_left _ (List.mem_filterMap.2 ⟨o, ho, hou⟩)))]
  | .bad, _, st => rfl
  | .prim f, _, st => rfl
  | .seq a b, hu, st => by
    simp only [evX]
    rw [evX_agr h k a fun u hm => hu u (List.mem_append_left _ hm)]
    congr 1
    funext r
    rw [evX_agr h k b fun u hm => hu u (List.mem_append_right _ hm)]
  | .cond c x y, hu, st => by
    simp only [evX]
    rw [evX_agr h k x fun u hm => hu u (List.mem_append_left _ hm), evX_agr h k y fun u hm => hu u (List.mem_append_right _ hm)]
  | .block id c, hu, st => by
    simp only [evX]
    rw [evX_agr h k c hu]
  | .loop c, hu, st => h.loop k c st hu
  | .exit id, _, st => rfl
  | .ret, _, st => rfl
  | .note c g, hu, st => by
    simp only [evX]
    rw [evX_agr h k c hu]
  | .pre g c, hu, st => by
    simp only [evX]
    congr 1
    funext s
    exact evX_agr h k c hu s
  | .scope c, hu, st => by
    simp only [evX]
    exact evX_agr h k c hu st
  | .lp id g c g2, hu, st => by
    simp only [evX, h.loop k c _ hu]
theorem nextO_agr (hc : ∀ u af, R u = true → T u = some af → ∀ v ∈ cXs af.body, R v = true) (h : Agr R T T' O O') : Agr R T T' (nextO T O) (nextO T' O') where
  tbl := h.tbl
  call u xs hb hu := by
    simp only [nextO]
    rw [← h.tbl u hu]
    cases ht : T u with
    | none => rfl
    | some af =>
      simp only
      rw [evX_agr h hb.length af.body (hc u af hu ht)]
  loop k c st hu := by
    simp only [nextO]
    rw [evX_agr h k c hu]
    congr 1
    funext r
    rw [h.loop k c _ hu]
theorem orcN_agr (ht : ∀ u, R u = true → T u = T' u) (hc : ∀ u af, R u = true → T u = some af → ∀ v ∈ cXs af.body, R v = true) : ∀ n, Agr R T T' (orcN T n) (orcN T' n)
  | 0 => ⟨ht, fun _ _ _ _ => rfl, fun _ _ _ _ => rfl⟩
  | n + 1 => nextO_agr hc (orcN_agr ht hc n)
theorem orc_agr (ht : ∀ u, R u = true → T u = T' u) (hc : ∀ u af, R u = true → T u = some af → ∀ v ∈ cXs af.body, R v = true) : Agr R T T' (orc T) (orc T') := by
  refine ⟨ht, fun u xs hb hu => ?_, fun k c st hu => ?_⟩
  · simp only [orc]
    congr 1
    funext n
    exact (orcN_agr ht hc n).call u xs hb hu
  · simp only [orc]
    congr 1
    funext n
    exact (orcN_agr ht hc n).loop k c st hu
end
theorem mem_of_lookup {l : List (Nat × AFx)} {u : Nat} {af : AFx} (h : l.lookup u = some af) : (u, af) ∈ l := by
  induction l with
  | nil => cases h
  | cons q l ih =>
    obtain ⟨q1, q2⟩ := q
    simp only [List.lookup_cons] at h
    split at h
    · rename_i he
      have := eq_of_beq he
      subst this
      cases h
      exact List.mem_cons_self
    · exact List.mem_cons_of_mem _ (ih h)
structure Part (l l' : List (Nat × AFx)) : Prop where
  sub : ∀ p ∈ l', l.lookup p.1 = some p.2
  clo : (l'.all fun p => (cXs p.2.body).all fun v => (l'.lookup v).isSome || (l.lookup v).isNone) = true
theorem Part.agr {l l' : List (Nat × AFx)} (h : Part l l') : Agr (fun u => (l'.lookup u).isSome || (l.lookup u).isNone) (fun u => l.lookup u) (fun u => l'.lookup u) (orc fun u => l.lookup u) (orc fun u => l'.lookup u) := by
  refine orc_agr (fun v hv => ?_) (fun v a hv hva w hw => ?_)
  · cases hv2 : l'.lookup v with
    | none =>
      simp only [hv2] at hv
      cases hv3 : l.lookup v with
      | none => rfl
      | some a => rw [hv3] at hv; cases hv
    | some a => exact h.sub _ (mem_of_lookup hv2)
  · cases hv2 : l'.lookup v with
    | none => simp only [hv2, hva] at hv; cases hv
    | some b =>
      have hb := mem_of_lookup hv2
      have h1 := h.sub _ hb
      simp only at hva h1
      rw [hva] at h1
      cases h1
      exact List.all_eq_true.1 (List.all_eq_true.1 h.clo _ hb) w hw
theorem Part.ev {l l' : List (Nat × AFx)} (h : Part l l') {c : AX} (hc : ((cXs c).all fun v => (l'.lookup v).isSome) = true) {st : St} {r : Option (Ex × St)}
    (he : evX (orc fun u => l.lookup u) (fun u => l.lookup u) 0 c st = r) : evX (orc fun u => l'.lookup u) (fun u => l'.lookup u) 0 c st = r := by
  rw [← evX_agr h.agr 0 c (fun v hv => by rw [List.all_eq_true.1 hc v hv]; rfl) st]
  exact he
theorem Part.call {l l' : List (Nat × AFx)} (h : Part l l') {u : Nat} (hu : (l'.lookup u).isSome = true) {xs : List AV} {r : Option AV} (he : callF (fun u => l.lookup u) u xs = r) : callF (fun u => l'.lookup u) u xs = r := by
  rw [← he]
  unfold callF
  rw [h.agr.call u xs [] (by rw [hu]; rfl)]
end Go.Ab
end
