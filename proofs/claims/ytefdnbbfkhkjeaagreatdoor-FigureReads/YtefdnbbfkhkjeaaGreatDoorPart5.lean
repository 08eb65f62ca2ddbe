/-
  A calculus of values, boxes and code, and what functions of the program compute, proved in it.
  Conditions: none beyond those that the theorems state. (Part 5: GcRef05, GpRef05, GpRef05d, GcRef07, GcRef06, GpRef07, GcRef08, GcRef09, GcRef10, GcRef11, GcLaw09, GcLaw11, GcLaw10, GcLenD, Ax10.)
-/
import Derived.Test.YtefdnbbfkhkjeaaGreatDoorPart4

set_option linter.unusedSectionVars false
set_option linter.unusedVariables false
set_option linter.unusedSimpArgs false
set_option linter.unnecessarySimpa false

section
namespace Go.Ab
def l122_0 : AX :=
 (.note
 (.seq
 (.seq
 (.reg [⟨(some 21), none, .mov (.t 6)⟩,
 ⟨(some 22), none, .mov (.t 1)⟩,
 ⟨(some 23), none, .bin .rem (.t 22) (.c (.i .i64 32))⟩,
 ⟨(some 24), none, .bin .lss (.t 21) (.t 23)⟩])
 (.cond (.t 24)
 .skip
 (.exit 0)))
 (.seq
 (.block 1
 (.reg [⟨(some 27), none, .mov (.t 5)⟩,
 ⟨(some 28), none, .bin .quo (.t 27) (.c (u32 2))⟩,
 ⟨(some 5), none, .mov (.t 28)⟩]))
 (.reg [⟨(some 25), none, .mov (.t 6)⟩,
 ⟨(some 26), none, .bin .add (.t 25) (.c (.i .i64 1))⟩,
 ⟨(some 6), none, .mov (.t 26)⟩])))
 (.norm false [1, 5, 6]))
def b122 : AX :=
 (.seq
 (.reg [⟨(some 4), none, .mov (.c (.b false))⟩])
 (.seq
 (.seq
 (.reg [⟨(some 7), none, .mov (.t 1)⟩,
 ⟨(some 8), none, .bin .lss (.t 7) (.c (.i .i64 0))⟩,
 ⟨(some 9), none, .mov (.t 8)⟩,
 ⟨(some 10), (some (9, false)), .mov (.t 1)⟩,
 ⟨(some 11), (some (9, false)), .bin .quo (.t 10) (.c (.i .i64 32))⟩,
 ⟨(some 12), (some (9, false)), .mov (.t 0)⟩,
 ⟨(some 13), (some (9, false)), .len (.t 12)⟩,
 ⟨(some 14), (some (9, false)), .bin .geq (.t 11) (.t 13)⟩,
 ⟨(some 15), none, .pick (.t 9) (.c (.b true)) (.t 14)⟩])
 (.cond (.t 15)
 (.seq
 (.reg [⟨(some 4), none, .mov (.c (.b false))⟩])
 (.pre (.norm false [4]) .ret))
 .skip))
 (.seq
 (.reg [⟨(some 16), none, .mov (.t 0)⟩,
 ⟨(some 17), none, .mov (.t 1)⟩,
 ⟨(some 18), none, .bin .quo (.t 17) (.c (.i .i64 32))⟩,
 ⟨(some 19), none, .iad 1 (.t 16) (.t 18)⟩,
 ⟨(some 20), none, .load none (.t 19)⟩,
 ⟨(some 5), none, .mov (.t 20)⟩])
 (.seq
 (.seq
 (.reg [⟨(some 6), none, .mov (.c (.i .i64 0))⟩])
 (.lp 0 (.norm false [1, 5, 6]) l122_0 (.norm false [5])))
 (.seq
 (.reg [⟨(some 29), none, .mov (.t 5)⟩,
 ⟨(some 30), none, .bin .rem (.t 29) (.c (u32 2))⟩,
 ⟨(some 31), none, .bin .eql (.t 30) (.c (u32 1))⟩,
 ⟨(some 4), none, .mov (.t 31)⟩])
 (.pre (.norm false [4]) .ret))))))
def l95_0 : AX :=
 (.note
 (.seq
 (.seq
 (.reg [⟨(some 7), none, .mov (.t 3)⟩,
 ⟨(some 8), none, .bin .gtr (.t 7) (.c (.i .i64 0))⟩,
 ⟨(some 9), none, .mov (.t 8)⟩,
 ⟨(some 10), (some (9, true)), .mov (.t 0)⟩,
 ⟨(some 11), (some (9, true)), .mov (.t 3)⟩,
 ⟨(some 12), (some (9, true)), .bin .sub (.t 11) (.c (.i .i64 1))⟩,
 ⟨(some 13), (some (9, true)), .call 122 [(.t 10), (.t 12)]⟩,
 ⟨(some 14), (some (9, true)), .un .not (.t 13)⟩,
 ⟨(some 15), none, .pick (.t 9) (.t 14) (.c (.b false))⟩])
 (.cond (.t 15)
 .skip
 (.exit 0)))
 (.block 1
 (.reg [⟨(some 16), none, .mov (.t 3)⟩,
 ⟨(some 17), none, .bin .sub (.t 16) (.c (.i .i64 1))⟩,
 ⟨(some 3), none, .mov (.t 17)⟩])))
 (.norm false [0, 3]))
def b95 : AX :=
 (.seq
 (.reg [⟨(some 2), none, .mov (.c (.i .i64 0))⟩])
 (.seq
 (.reg [⟨(some 4), none, .mov (.t 0)⟩,
 ⟨(some 5), none, .len (.t 4)⟩,
 ⟨(some 6), none, .bin .mul (.c (.i .i64 32)) (.t 5)⟩,
 ⟨(some 3), none, .mov (.t 6)⟩])
 (.seq
 (.lp 0 (.norm false [0, 3]) l95_0 (.norm false [3]))
 (.seq
 (.reg [⟨(some 18), none, .mov (.t 3)⟩,
 ⟨(some 2), none, .mov (.t 18)⟩])
 (.pre (.norm false [2]) .ret)))))
def l96_0 : AX :=
 (.note
 (.seq
 (.seq
 (.reg [⟨(some 8), none, .mov (.t 5)⟩,
 ⟨(some 9), none, .mov (.t 0)⟩,
 ⟨(some 10), none, .len (.t 9)⟩,
 ⟨(some 11), none, .bin .lss (.t 8) (.t 10)⟩])
 (.cond (.t 11)
 .skip
 (.exit 0)))
 (.seq
 (.block 1
 (.seq
 (.reg [⟨(some 14), none, .mov (.t 0)⟩,
 ⟨(some 15), none, .mov (.t 5)⟩,
 ⟨(some 16), none, .iad 1 (.t 14) (.t 15)⟩,
 ⟨(some 17), none, .load none (.t 16)⟩,
 ⟨(some 18), none, .bin .quo (.t 17) (.c (u32 2147483648))⟩,
 ⟨(some 6), none, .mov (.t 18)⟩])
 (.seq
 (.reg [⟨(some 19), none, .mov (.t 0)⟩,
 ⟨(some 20), none, .mov (.t 5)⟩,
 ⟨(some 21), none, .mov (.t 0)⟩,
 ⟨(some 22), none, .mov (.t 5)⟩,
 ⟨(some 23), none, .iad 1 (.t 21) (.t 22)⟩,
 ⟨(some 24), none, .load none (.t 23)⟩,
 ⟨(some 25), none, .bin .mul (.t 24) (.c (u32 2))⟩,
 ⟨(some 26), none, .mov (.t 4)⟩,
 ⟨(some 27), none, .bin .add (.t 25) (.t 26)⟩,
 ⟨(some 28), none, .iad 1 (.t 19) (.t 20)⟩,
 ⟨none, none, .store 1 (.t 28) (.t 27)⟩])
 (.reg [⟨(some 29), none, .mov (.t 6)⟩,
 ⟨(some 4), none, .mov (.t 29)⟩]))))
 (.reg [⟨(some 12), none, .mov (.t 5)⟩,
 ⟨(some 13), none, .bin .add (.t 12) (.c (.i .i64 1))⟩,
 ⟨(some 5), none, .mov (.t 13)⟩])))
 (.norm false [0, 4, 5]))
def b96 : AX :=
 (.seq
 (.reg [⟨(some 4), none, .mov (.c (u32 0))⟩])
 (.seq
 (.seq
 (.reg [⟨(some 7), none, .mov (.t 1)⟩])
 (.cond (.t 7)
 (.reg [⟨(some 4), none, .mov (.c (u32 1))⟩])
 .skip))
 (.seq
 (.reg [⟨(some 5), none, .mov (.c (.i .i64 0))⟩])
 (.lp 0 (.norm false [0, 4, 5]) l96_0 (.norm false [])))))
def l97_0 : AX :=
 (.note
 (.seq
 (.seq
 (.reg [⟨(some 8), none, .mov (.t 5)⟩,
 ⟨(some 9), none, .mov (.t 0)⟩,
 ⟨(some 10), none, .len (.t 9)⟩,
 ⟨(some 11), none, .bin .lss (.t 8) (.t 10)⟩])
 (.cond (.t 11)
 .skip
 (.exit 0)))
 (.seq
 (.block 1
 (.seq
 (.reg [⟨(some 14), none, .mov (.t 0)⟩,
 ⟨(some 15), none, .mov (.t 5)⟩,
 ⟨(some 16), none, .iad 1 (.t 14) (.t 15)⟩,
 ⟨(some 17), none, .load none (.t 16)⟩,
 ⟨(some 18), none, .conv .u64 (.t 17)⟩,
 ⟨(some 6), none, .mov (.t 18)⟩])
 (.seq
 (.reg [⟨(some 19), none, .mov (.t 1)⟩,
 ⟨(some 20), none, .mov (.t 5)⟩,
 ⟨(some 21), none, .call 84 [(.t 19), (.t 20)]⟩,
 ⟨(some 22), none, .conv .u64 (.t 21)⟩,
 ⟨(some 23), none, .mov (.t 4)⟩,
 ⟨(some 24), none, .bin .add (.t 22) (.t 23)⟩,
 ⟨(some 7), none, .mov (.t 24)⟩])
 (.seq
 (.reg [⟨(some 4), none, .mov (.c (u64 0))⟩])
 (.seq
 (.seq
 (.reg [⟨(some 25), none, .mov (.t 6)⟩,
 ⟨(some 26), none, .mov (.t 7)⟩,
 ⟨(some 27), none, .bin .lss (.t 25) (.t 26)⟩])
 (.cond (.t 27)
 (.seq
 (.reg [⟨(some 28), none, .mov (.t 6)⟩,
 ⟨(some 29), none, .bin .add (.t 28) (.c (u64 4294967296))⟩,
 ⟨(some 6), none, .mov (.t 29)⟩])
 (.reg [⟨(some 4), none, .mov (.c (u64 1))⟩]))
 .skip))
 (.reg [⟨(some 30), none, .mov (.t 0)⟩,
 ⟨(some 31), none, .mov (.t 5)⟩,
 ⟨(some 32), none, .mov (.t 6)⟩,
 ⟨(some 33), none, .mov (.t 7)⟩,
 ⟨(some 34), none, .bin .sub (.t 32) (.t 33)⟩,
 ⟨(some 35), none, .conv .u32 (.t 34)⟩,
 ⟨(some 36), none, .iad 1 (.t 30) (.t 31)⟩,
 ⟨none, none, .store 1 (.t 36) (.t 35)⟩]))))))
 (.reg [⟨(some 12), none, .mov (.t 5)⟩,
 ⟨(some 13), none, .bin .add (.t 12) (.c (.i .i64 1))⟩,
 ⟨(some 5), none, .mov (.t 13)⟩])))
 (.norm false [0, 1, 4, 5]))
def b97 : AX :=
 (.seq
 (.reg [⟨(some 4), none, .mov (.c (u64 0))⟩])
 (.seq
 (.reg [⟨(some 5), none, .mov (.c (.i .i64 0))⟩])
 (.lp 0 (.norm false [0, 1, 4, 5]) l97_0 (.norm false []))))
def l63_0 : AX :=
 (.note
 (.seq
 (.seq
 (.reg [⟨(some 19), none, .mov (.t 8)⟩,
 ⟨(some 20), none, .bin .geq (.t 19) (.c (.i .i64 0))⟩])
 (.cond (.t 20)
 .skip
 (.exit 0)))
 (.seq
 (.block 1
 (.seq
 (.drawT [⟨(some 23), none, .mov (.t 7)⟩,
 ⟨(some 24), none, .mov (.t 0)⟩,
 ⟨(some 25), none, .mov (.t 8)⟩,
 ⟨(some 26), none, .bin .quo (.t 25) (.c (.i .i64 32))⟩,
 ⟨(some 27), none, .iad 1 (.t 24) (.t 26)⟩,
 ⟨(some 28), none, .load none (.t 27)⟩,
 ⟨(some 29), none, .mov (.t 8)⟩,
 ⟨(some 30), none, .bin .rem (.t 29) (.c (.i .i64 32))⟩,
 ⟨(some 31), none, .bin .shl (.c (u32 1)) (.t 30)⟩,
 ⟨(some 32), none, .bin .quo (.t 28) (.t 31)⟩,
 ⟨(some 33), none, .bin .rem (.t 32) (.c (u32 2))⟩,
 ⟨(some 34), none, .bin .eql (.t 33) (.c (u32 1))⟩]
 [⟨(some 35), none, .call 96 [(.t 23), (.t 34)]⟩])
 (.seq
 (.reg [⟨(some 36), none, .mov (.t 6)⟩,
 ⟨(some 37), none, .call 96 [(.t 36), (.c (.b false))]⟩])
 (.seq
 (.reg [⟨(some 38), none, .mov (.t 7)⟩,
 ⟨(some 39), none, .mov (.t 1)⟩,
 ⟨(some 40), none, .call 52 [(.t 38), (.t 39)]⟩,
 ⟨(some 41), none, .bin .geq (.t 40) (.c (.i .i64 0))⟩])
 (.cond (.t 41)
 (.seq
 (.reg [⟨(some 42), none, .mov (.t 7)⟩,
 ⟨(some 43), none, .mov (.t 1)⟩,
 ⟨(some 44), none, .call 97 [(.t 42), (.t 43)]⟩])
 (.reg [⟨(some 45), none, .mov (.t 6)⟩,
 ⟨(some 46), none, .iad 1 (.t 45) (.c (.i .i64 0))⟩,
 ⟨(some 47), none, .load none (.t 46)⟩,
 ⟨(some 48), none, .bin .add (.t 47) (.c (u32 1))⟩,
 ⟨(some 49), none, .iad 1 (.t 45) (.c (.i .i64 0))⟩,
 ⟨none, none, .store 1 (.t 49) (.t 48)⟩]))
 .skip)))))
 (.reg [⟨(some 21), none, .mov (.t 8)⟩,
 ⟨(some 22), none, .bin .sub (.t 21) (.c (.i .i64 1))⟩,
 ⟨(some 8), none, .mov (.t 22)⟩])))
 (.norm false [0, 1, 6, 7, 8]))
def b63 : AX :=
 (.seq
 (.reg [⟨(some 4), none, .mov (.c (.sl [] .nl))⟩,
 ⟨(some 5), none, .mov (.c (.sl [] .nl))⟩])
 (.seq
 (.reg [⟨(some 9), none, .mov (.t 0)⟩,
 ⟨(some 10), none, .len (.t 9)⟩,
 ⟨(some 11), none, .mks 1 [(u32 0)] (.t 10) (.t 10)⟩,
 ⟨(some 6), none, .mov (.t 11)⟩])
 (.seq
 (.reg [⟨(some 12), none, .mov (.t 1)⟩,
 ⟨(some 13), none, .len (.t 12)⟩,
 ⟨(some 14), none, .bin .add (.t 13) (.c (.i .i64 1))⟩,
 ⟨(some 15), none, .mks 1 [(u32 0)] (.t 14) (.t 14)⟩,
 ⟨(some 7), none, .mov (.t 15)⟩])
 (.seq
 (.seq
 (.reg [⟨(some 16), none, .mov (.t 0)⟩,
 ⟨(some 17), none, .call 95 [(.t 16)]⟩,
 ⟨(some 18), none, .bin .sub (.t 17) (.c (.i .i64 1))⟩,
 ⟨(some 8), none, .mov (.t 18)⟩])
 (.lp 0 (.norm false [0, 1, 6, 7, 8]) l63_0 (.norm false [6, 7])))
 (.seq
 (.reg [⟨(some 50), none, .mov (.t 6)⟩,
 ⟨(some 51), none, .call 43 [(.t 50)]⟩,
 ⟨(some 52), none, .mov (.t 7)⟩,
 ⟨(some 53), none, .call 43 [(.t 52)]⟩,
 ⟨(some 4), none, .mov (.t 51)⟩,
 ⟨(some 5), none, .mov (.t 53)⟩])
 (.pre (.norm false [4, 5]) .ret))))))
class CRef05 (T : Tbl) : Prop extends CRef04 T where
 h122 : T 122 = some ⟨2, 32, [.t 4], b122, none, false⟩
 h95 : T 95 = some ⟨1, 19, [.t 2], b95, none, false⟩
 h96 : T 96 = some ⟨2, 30, [], b96, (some [true, false]), false⟩
 h97 : T 97 = some ⟨2, 37, [], b97, (some [true, false]), false⟩
 h63 : T 63 = some ⟨2, 54, [.t 4, .t 5], b63, none, false⟩
section
variable {T : Tbl} [CRef05 T] {d : Option Nat} {st : St}
@[simp] theorem x122 (xs : List AV) : callX (orc T) T 122 xs d st = bL (frzL st.heap xs) fun ys => cR (callF T 122 (ys.map (wkIf false))) xs d st := callX_pure CRef05.h122
theorem f122 (xs : List AV) (hn : xs.length = 2) : callF T 122 xs = retF [.t 4] false (evX (orc T) T 0 b122 ⟨argEnv xs, [], 1⟩) := callF_eq CRef05.h122 hn
@[simp] theorem x95 (xs : List AV) : callX (orc T) T 95 xs d st = bL (frzL st.heap xs) fun ys => cR (callF T 95 (ys.map (wkIf false))) xs d st := callX_pure CRef05.h95
theorem f95 (xs : List AV) (hn : xs.length = 1) : callF T 95 xs = retF [.t 2] false (evX (orc T) T 0 b95 ⟨argEnv xs, [], 1⟩) := callF_eq CRef05.h95 hn
@[simp] theorem x96 (xs : List AV) : callX (orc T) T 96 xs d st = bL (frzM st.heap [true, false] xs) fun ys => lentX ys (shareIds (refsM [true, false] xs) st.heap) (reach (shareIds (refsM [true, false] xs) st.heap) 40 (rootsM [true, false] xs) []) T 96 false d st := callX_lent CRef05.h96
theorem f96 (xs : List AV) (hb : Heap) (hn : xs.length = 2) : callH T 96 xs hb = retH [] false hb.length (evX (orc T) T hb.length b96 ⟨argEnv xs, hb, hb.length + 1⟩) := callH_eq CRef05.h96 hn
@[simp] theorem x97 (xs : List AV) : callX (orc T) T 97 xs d st = bL (frzM st.heap [true, false] xs) fun ys => lentX ys (shareIds (refsM [true, false] xs) st.heap) (reach (shareIds (refsM [true, false] xs) st.heap) 40 (rootsM [true, false] xs) []) T 97 false d st := callX_lent CRef05.h97
theorem f97 (xs : List AV) (hb : Heap) (hn : xs.length = 2) : callH T 97 xs hb = retH [] false hb.length (evX (orc T) T hb.length b97 ⟨argEnv xs, hb, hb.length + 1⟩) := callH_eq CRef05.h97 hn
@[simp] theorem x63 (xs : List AV) : callX (orc T) T 63 xs d st = bL (frzL st.heap xs) fun ys => cR (callF T 63 (ys.map (wkIf false))) xs d st := callX_pure CRef05.h63
theorem f63 (xs : List AV) (hn : xs.length = 2) : callF T 63 xs = retF [.t 4, .t 5] false (evX (orc T) T 0 b63 ⟨argEnv xs, [], 1⟩) := callF_eq CRef05.h63 hn
end
end Go.Ab
end

section
namespace Go.Ab
section
variable {T : Tbl} [CRef05 T]
def stDb (a : List UInt32) (y : Nat × Nat × List UInt32) : St :=
 ⟨[(0, .bs (.bor 0) 0 1 0 a.length), (4, u32 y.2.1), (5, .i .i64 y.1)], [(.bor 0, ⟨0, .own, 1, u32s (y.2.2 ++ a.drop y.1)⟩)], 4⟩
theorem db_step {p m c c' w s x k : Nat} (h : m + p * c = 2 * s + k) (e : w + 4294967296 * c' = 2 * x + c) : (m + p * w) + p * 4294967296 * c' = 2 * (s + p * x) + k := by
 have e2 : p * w + p * 4294967296 * c' = p * (2 * x) + p * c := by rw [Nat.mul_assoc, ← Nat.mul_add, e, Nat.mul_add]
 have e3 : p * (2 * x) = 2 * (p * x) := by rw [← Nat.mul_assoc, Nat.mul_comm p 2, Nat.mul_assoc]
 omega
end
section
variable {T : Tbl}
theorem db_loop (a : List UInt32) (c0 : Nat) (hl : a.length ≤ 1000000) : ∀ y : Nat × Nat × List UInt32,
  (y.1 ≤ a.length ∧ y.2.1 ≤ 1 ∧ y.2.2.length = y.1 ∧ val y.2.2 + 4294967296 ^ y.1 * y.2.1 = 2 * val (a.take y.1) + c0) →
  ∃ r, (∃ (c : Nat) (m : List UInt32), r = (Ex.n, (⟨[], [(.bor 0, ⟨0, .own, 1, u32s m⟩)], 4⟩ : St)) ∧
   m.length = a.length ∧ c ≤ 1 ∧ val m + 4294967296 ^ a.length * c = 2 * val a + c0) ∧ loopN T 1 0 (.norm false []) l96_0 (stDb a y) = some r := by
 refine loopN_ex _ _ (fun y => a.length - y.1) _ ?_
 rintro ⟨i, c, m⟩ ⟨hi, hc, hm, hv⟩
 simp only at hi hc hm hv
 by_cases h0 : i < a.length
 ·left
  have ha : a[i]? = some (a[i]'h0) := List.getElem?_eq_getElem h0
  have hg := get_mid (P := []) hm h0
  have hw : IntKind.wrap .i64 ((i : Int) + 1) = ((i + 1 : Nat) : Int) := wrap_i64 _ (by omega)
  have hlx := u32_lt (a[i]'h0)
  have hset := set_mid (P := []) (w32 ((a[i]'h0).toNat * 2 % 4294967296 + c)) hm h0
  simp at hg hset
  have m1 : ((a[i]'h0).toNat * 2 % 4294967296 + c) % 4294967296 = (a[i]'h0).toNat * 2 % 4294967296 + c := Nat.mod_eq_of_lt (by omega)
  have m2 : (a[i]'h0).toNat / 2147483648 < 4294967296 := by omega
  have m3 : (a[i]'h0).toNat * 2 % 4294967296 + c < 4294967296 := by omega
  refine ⟨(i + 1, (a[i]'h0).toNat / 2147483648, m ++ [w32 ((a[i]'h0).toNat * 2 % 4294967296 + c)]), ⟨h0, by simp only; omega, by simp [hm], ?_⟩, by simp only; omega, ?_⟩
  ·simp only
   rw [val_append, val_take_succ ha, Nat.pow_succ, hm]
   simp only [val_cons, val_nil, Nat.mul_zero, Nat.add_zero, w32_mod]
   exact db_step hv (by omega)
  ·simp -implicitDefEqProofs [l96_0, stDb, h0, hw, hg, hset, m1, m2, u32s_set _ _ _ m3]
 ·right
  have : i = a.length := by omega
  subst this
  rw [List.take_of_length_le (Nat.le_refl a.length)] at hv
  refine ⟨_, ⟨c, m, rfl, hm, hc, hv⟩, ?_, ?_⟩ <;> simp -implicitDefEqProofs [l96_0, stDb]
end
section
variable {T : Tbl} [CRef05 T]
theorem ref05_double (a : List UInt32) (v : Bool) (hl : a.length ≤ 1000000) :
  ∃ (c : Nat) (m : List UInt32), m.length = a.length ∧ c ≤ 1 ∧ val m + 4294967296 ^ a.length * c = 2 * val a + (if v then 1 else 0) ∧
   callH T 96 [.bs (.bor 0) 0 1 0 a.length, .b v] [(.bor 0, ⟨0, .own, 1, u32s a⟩)] = some (.tup [], [(.bor 0, ⟨0, .own, 1, u32s m⟩)]) := by
 obtain ⟨_, ⟨c, m, rfl, hm, hc, hv⟩, hr⟩ := db_loop (T := T) a (if v then 1 else 0) hl (0, (if v then 1 else 0), []) ⟨Nat.zero_le _, by cases v <;> simp, rfl, by cases v <;> simp⟩
 refine ⟨c, m, hm, hc, hv, ?_⟩
 unfold stDb at hr
 simp at hr
 rw [f96 _ _ rfl, b96]
 cases v
 ·simp at hr
  simp -implicitDefEqProofs [hr]
 ·simp at hr
  simp -implicitDefEqProofs [hr]
def stLs (a b : List UInt32) (y : Nat × Nat × List UInt32) : St :=
 ⟨[(0, .bs (.bor 0) 0 1 0 a.length), (1, .sl (u32s b) .an), (4, u64 y.2.1), (5, .i .i64 y.1)], [(.bor 0, ⟨0, .own, 1, u32s (y.2.2 ++ a.drop y.1)⟩)], 4⟩
theorem ls_loop (a b : List UInt32) (hl : a.length ≤ 1000000) (hb : b.length ≤ 1000000) : ∀ y : Nat × Nat × List UInt32,
  (y.1 ≤ a.length ∧ y.2.1 ≤ 1 ∧ y.2.2.length = y.1 ∧ val y.2.2 + val (b.take y.1) = val (a.take y.1) + 4294967296 ^ y.1 * y.2.1) →
  ∃ r, (∃ (c : Nat) (m : List UInt32), r = (Ex.n, (⟨[], [(.bor 0, ⟨0, .own, 1, u32s m⟩)], 4⟩ : St)) ∧
   m.length = a.length ∧ c ≤ 1 ∧ val m + val (b.take a.length) = val a + 4294967296 ^ a.length * c) ∧ loopN T 1 0 (.norm false []) l97_0 (stLs a b y) = some r := by
 refine loopN_ex _ _ (fun y => a.length - y.1) _ ?_
 rintro ⟨i, c, m⟩ ⟨hi, hc, hm, hv⟩
 simp only at hi hc hm hv
 by_cases h0 : i < a.length
 ·left
  have ha : a[i]? = some (a[i]'h0) := List.getElem?_eq_getElem h0
  have hg := get_mid (P := []) hm h0
  have hw : IntKind.wrap .i64 ((i : Int) + 1) = ((i + 1 : Nat) : Int) := wrap_i64 _ (by omega)
  have cb := ref02_at (T := T) b i hb
  have la := u32_lt (a[i]'h0)
  have lb := atW_lt b i
  have e1 := val_take_succ ha
  have e2 := val_take_atW b i
  simp at hg
  have m1 : (a[i]'h0).toNat % 18446744073709551616 = (a[i]'h0).toNat := Nat.mod_eq_of_lt (by omega)
  have m2 : atW b i % 18446744073709551616 = atW b i := Nat.mod_eq_of_lt (by omega)
  have m3 : (atW b i + c) % 18446744073709551616 = atW b i + c := Nat.mod_eq_of_lt (by omega)
  have m4 : ((a[i]'h0).toNat + 4294967296) % 18446744073709551616 = (a[i]'h0).toNat + 4294967296 := Nat.mod_eq_of_lt (by omega)
  have fin : ∀ s d : Nat, d ≤ 1 → s < 4294967296 → s + (atW b i + c) = (a[i]'h0).toNat + 4294967296 * d →
    val (m ++ [w32 s]) + val (b.take (i + 1)) = val (a.take (i + 1)) + 4294967296 ^ (i + 1) * d := by
   intro s d hd hs h
   rw [val_append, hm, e1, e2, Nat.pow_succ]
   simp only [val_cons, val_nil, Nat.mul_zero, Nat.add_zero, w32_of_lt hs]
   generalize 4294967296 ^ i = p at *
   have e3 : p * s + p * (atW b i + c) = p * (a[i]'h0).toNat + p * 4294967296 * d := by rw [← Nat.mul_add, h, Nat.mul_add, Nat.mul_assoc]
   rw [Nat.mul_add] at e3
   omega
  by_cases h1 : (a[i]'h0).toNat < atW b i + c
  ·have hs : sub64 ((a[i]'h0).toNat + 4294967296) (atW b i + c) = (a[i]'h0).toNat + 4294967296 - (atW b i + c) := sub64_le (by omega) (by omega)
   have m5 : (a[i]'h0).toNat + 4294967296 - (atW b i + c) < 4294967296 := by omega
   have hset := set_mid (P := []) (w32 ((a[i]'h0).toNat + 4294967296 - (atW b i + c))) hm h0
   simp at hset
   refine ⟨(i + 1, 1, m ++ [w32 ((a[i]'h0).toNat + 4294967296 - (atW b i + c))]), ⟨h0, Nat.le_refl _, by simp [hm], fin _ 1 (by omega) (by omega) (by omega)⟩, by simp only; omega, ?_⟩
   simp -implicitDefEqProofs [l97_0, stLs, h0, cb, m1, m2, m3, m4, h1, hs, hg, hw, hset]
  ·have hs : sub64 (a[i]'h0).toNat (atW b i + c) = (a[i]'h0).toNat - (atW b i + c) := sub64_le (by omega) (by omega)
   have m5 : (a[i]'h0).toNat - (atW b i + c) < 4294967296 := by omega
   have hset := set_mid (P := []) (w32 ((a[i]'h0).toNat - (atW b i + c))) hm h0
   simp at hset
   refine ⟨(i + 1, 0, m ++ [w32 ((a[i]'h0).toNat - (atW b i + c))]), ⟨h0, Nat.zero_le _, by simp [hm], fin _ 0 (by omega) (by omega) (by omega)⟩, by simp only; omega, ?_⟩
   simp -implicitDefEqProofs [l97_0, stLs, h0, cb, m1, m2, m3, h1, hs, hg, hw, hset]
 ·right
  have : i = a.length := by omega
  subst this
  rw [List.take_of_length_le (Nat.le_refl a.length)] at hv
  refine ⟨_, ⟨c, m, rfl, hm, hc, hv⟩, ?_, ?_⟩ <;> simp -implicitDefEqProofs [l97_0, stLs]
theorem ref05_less (a b : List UInt32) (hl : a.length ≤ 1000000) (hb : b.length ≤ a.length) (hab : val b ≤ val a) :
  ∃ m : List UInt32, m.length = a.length ∧ val m = val a - val b ∧
   callH T 97 [.bs (.bor 0) 0 1 0 a.length, .sl (u32s b) .an] [(.bor 0, ⟨0, .own, 1, u32s a⟩)] = some (.tup [], [(.bor 0, ⟨0, .own, 1, u32s m⟩)]) := by
 obtain ⟨_, ⟨c, m, rfl, hm, hc, hv⟩, hr⟩ := ls_loop (T := T) a b hl (by omega) (0, 0, []) ⟨Nat.zero_le _, Nat.zero_le _, rfl, by simp⟩
 rw [List.take_of_length_le hb] at hv
 have hlo := val_lt m
 rw [hm] at hlo
 have hval : val m = val a - val b := by
  rcases Nat.eq_zero_or_pos c with h1 | h1
  ·subst h1; omega
  ·have : c = 1 := by omega
   subst this
   omega
 refine ⟨m, hm, hval, ?_⟩
 unfold stLs at hr
 simp at hr
 rw [f97 _ _ rfl, b97]
 simp -implicitDefEqProofs [hr]
def stHs (x i : Nat) (y : Nat) : St := ⟨[(1, .i .i64 i), (5, u32 (x / 2 ^ y)), (6, .i .i64 y)], [], 2⟩
end
section
variable {T : Tbl}
theorem hs_loop (x i : Nat) (_hi : i ≤ 100000000) (hx : x < 4294967296) : ∀ y : Nat, y ≤ i % 32 →
  ∃ r, (r = (Ex.n, (⟨[(5, u32 (x / 2 ^ (i % 32)))], [], 2⟩ : St))) ∧ loopN T 0 0 (.norm false [5]) l122_0 (stHs x i y) = some r := by
 refine loopN_ex _ _ (fun y => i % 32 - y) _ ?_
 intro j hj
 have hm : ((i : Int).tmod 32) = ((i % 32 : Nat) : Int) := rfl
 have hlt : x / 2 ^ j < 4294967296 := Nat.lt_of_le_of_lt (Nat.div_le_self _ _) hx
 by_cases h0 : j < i % 32
 ·left
  have hw : IntKind.wrap .i64 ((j : Int) + 1) = ((j + 1 : Nat) : Int) := wrap_i64 _ (by omega)
  have hd : x / 2 ^ j / 2 = x / 2 ^ (j + 1) := by rw [Nat.div_div_eq_div_mul, Nat.pow_succ]
  have hd2 : x / 2 ^ (j + 1) % 4294967296 = x / 2 ^ (j + 1) := Nat.mod_eq_of_lt (Nat.lt_of_le_of_lt (Nat.div_le_self _ _) hx)
  refine ⟨j + 1, h0, by omega, ?_⟩
  have hj2 : (j : Int) < (i : Int) % 32 := by omega
  simp -implicitDefEqProofs [l122_0, stHs, hm, hw, hd, hd2, hj2]
 ·right
  have : j = i % 32 := by omega
  subst this
  refine ⟨_, rfl, ?_, ?_⟩ <;> simp -implicitDefEqProofs [l122_0, stHs, hm]
end
section
variable {T : Tbl} [CRef05 T]
theorem ref03_has (a : List UInt32) (i : Nat) (hl : a.length ≤ 1000000) (hi : i < 32 * a.length) :
  callF T 122 [.sl (u32s a) .an, .i .i64 i] = some (.b (decide (val a / 2 ^ i % 2 = 1))) := by
 have h1 : i / 32 < a.length := by omega
 have ha : a[i / 32]? = some (a[i / 32]'h1) := List.getElem?_eq_getElem h1
 obtain ⟨_, rfl, hr⟩ := hs_loop (T := T) (a[i / 32]'h1).toNat i (by omega) (u32_lt _) 0 (Nat.zero_le _)
 unfold stHs at hr
 simp at hr
 have hq : IntKind.wrap .i64 ((i : Int) / 32) = (i : Int) / 32 := wrap_i64 (i / 32) (by omega)
 have hq1 : ((i : Int) / 32).toNat = i / 32 := by omega
 have hq2 : (0 : Int) ≤ (i : Int) / 32 := by omega
 have hq3 : (i : Int) / 32 < (a.length : Int) := by omega
 have hq4 : ¬ (a.length : Int) ≤ (i : Int) / 32 := by omega
 have hb := val_bit ha
 have hlt : (a[i / 32]'h1).toNat / 2 ^ (i % 32) < 4294967296 := Nat.lt_of_le_of_lt (Nat.div_le_self _ _) (u32_lt _)
 rw [f122 _ rfl, b122]
 simp -implicitDefEqProofs [hr, hq, hq1, hq2, hq3, hq4, h1, hb]
def stLn (a : List UInt32) (y : Nat) : St := ⟨[(0, .sl (u32s a) .an), (3, .i .i64 y)], [], 2⟩
theorem ln_loop (a : List UInt32) (hl : a.length ≤ 1000000) : ∀ y : Nat, (y ≤ 32 * a.length ∧ val a < 2 ^ y) →
  ∃ r, (∃ n : Nat, r = (Ex.n, (⟨[(3, .i .i64 n)], [], 2⟩ : St)) ∧ n ≤ 32 * a.length ∧ val a < 2 ^ n) ∧ loopN T 0 0 (.norm false [3]) l95_0 (stLn a y) = some r := by
 refine loopN_ex _ _ (fun y => y) _ ?_
 rintro k ⟨hk, hv⟩
 by_cases h0 : k = 0
 ·right
  subst h0
  refine ⟨_, ⟨0, rfl, Nat.zero_le _, hv⟩, ?_, ?_⟩ <;> simp -implicitDefEqProofs [l95_0, stLn]
 ·obtain ⟨j, rfl⟩ : ∃ j, k = j + 1 := ⟨k - 1, by omega⟩
  have hw : IntKind.wrap .i64 (j : Int) = (j : Int) := wrap_i64 _ (by omega)
  have hh := ref03_has (T := T) a j hl (by omega)
  have hp : (0 : Int) < (j : Int) + 1 := by omega
  by_cases h1 : val a / 2 ^ j % 2 = 1
  ·right
   refine ⟨_, ⟨j + 1, rfl, hk, hv⟩, ?_, ?_⟩ <;> simp -implicitDefEqProofs [l95_0, stLn, hw, hh, hp, h1]
  ·left
   refine ⟨j, ⟨by omega, lt_of_bit hv (by generalize val a / 2 ^ j = q at *; omega)⟩, by omega, ?_⟩
   simp -implicitDefEqProofs [l95_0, stLn, hw, hh, hp, h1]
theorem ref03_len (a : List UInt32) (hl : a.length ≤ 1000000) : ∃ n : Nat, n ≤ 32 * a.length ∧ val a < 2 ^ n ∧ callF T 95 [.sl (u32s a) .an] = some (.i .i64 n) := by
 obtain ⟨_, ⟨n, rfl, hn, hv⟩, hr⟩ := ln_loop (T := T) a hl (32 * a.length) ⟨Nat.le_refl _, by rw [← pow32]; exact val_lt a⟩
 refine ⟨n, hn, hv, ?_⟩
 unfold stLn at hr
 simp at hr
 have hw : IntKind.wrap .i64 (32 * (a.length : Int)) = 32 * (a.length : Int) := by
  have := wrap_i64 (32 * a.length) (by omega)
  simpa using this
 rw [f95 _ rfl, b95]
 simp -implicitDefEqProofs [hr, hw]
end
end Go.Ab
end

section
namespace Go.Ab
section
variable {T : Tbl} [CRef05 T]
theorem shl1_u32 (n : Nat) (h : n < 32) : binV .shl (u32 1) (.i .i64 (n : Int)) = some (u32 (2 ^ n)) := by
  have h1 : ¬ (n : Int) < 0 := by omega
  have h2 : 2 ^ n < 4294967296 := by
    have : 2 ^ n < 2 ^ 32 := Nat.pow_lt_pow_right (by decide) h
    simpa using this
  have h3 : min n IntKind.u32.bits = n := by
    have : IntKind.u32.bits = 32 := rfl
    rw [this]; omega
  have h4 : ((1 : Nat) : Int) * 2 ^ n = ((2 ^ n : Nat) : Int) := by simp
  unfold u32
  simp only [binV, if_neg h1, Int.toNat_natCast, h3, h4, wrap_u32, Nat.mod_eq_of_lt h2]
theorem dv_law {v b Q L : Nat} (hb : 0 < b) (hq : Q = v / 2 / b) (hr : L = v / 2 % b) :
    (b ≤ 2 * L + v % 2 → v / b = 2 * Q + 1 ∧ v % b = 2 * L + v % 2 - b) ∧ (2 * L + v % 2 < b → v / b = 2 * Q ∧ v % b = 2 * L + v % 2) := by
  have h1 := Nat.div_add_mod (v / 2) b
  have h2 : L < b := by rw [hr]; exact Nat.mod_lt _ hb
  rw [← hq, ← hr] at h1
  have h3 : v = b * (2 * Q) + (2 * L + v % 2) := by
    rw [← Nat.mul_assoc, Nat.mul_comm b 2, Nat.mul_assoc]
    omega
  have ht : v % 2 < 2 := Nat.mod_lt _ (by decide)
  clear h1 hq hr
  generalize v % 2 = t at *
  rw [h3]
  constructor
  · intro h
    have e : b * (2 * Q) + (2 * L + t) = (2 * L + t - b) + b * (2 * Q + 1) := by rw [Nat.mul_add, Nat.mul_one]; omega
    rw [e, Nat.add_mul_div_left _ _ hb, Nat.add_mul_mod_self_left, Nat.div_eq_of_lt (by omega), Nat.mod_eq_of_lt (by omega)]
    omega
  · intro h
    rw [Nat.add_comm, Nat.add_mul_div_left _ _ hb, Nat.add_mul_mod_self_left, Nat.div_eq_of_lt h, Nat.mod_eq_of_lt h]
    omega
theorem val_inc {a : List UInt32} {x : UInt32} (h : a[0]? = some x) (hx : x.toNat + 1 < 4294967296) : val (a.set 0 (w32 (x.toNat + 1))) = val a + 1 := by
  cases a with
  | nil => cases h
  | cons y l =>
    cases h
    simp only [List.set_cons_zero, val_cons, w32_of_lt hx]
    omega
def stDv (a b : List UInt32) (y : Nat × List UInt32 × List UInt32) : St :=
  ⟨[(0, .sl (u32s a) .an), (1, .sl (u32s b) .an), (6, .bs (.loc 11) 1 1 0 a.length), (7, .bs (.loc 15) 2 1 0 (b.length + 1)), (8, .i .i64 ((y.1 : Int) - 1))], [(.loc 11, ⟨1, .own, 1, u32s y.2.1⟩), (.loc 15, ⟨2, .own, 1, u32s y.2.2⟩)], 4⟩
theorem dv_loop (a b : List UInt32) (ha : a.length ≤ 100000) (hb : b.length ≤ 100000) (h0b : 0 < val b) : ∀ y : Nat × List UInt32 × List UInt32,
    (y.1 ≤ 32 * a.length ∧ y.2.1.length = a.length ∧ y.2.2.length = b.length + 1 ∧ val y.2.1 = val a / 2 ^ y.1 / val b ∧ val y.2.2 = val a / 2 ^ y.1 % val b) →
    ∃ r, (∃ Q L : List UInt32, r = (Ex.n, (⟨[(6, .bs (.loc 11) 1 1 0 a.length), (7, .bs (.loc 15) 2 1 0 (b.length + 1))], [(.loc 11, ⟨1, .own, 1, u32s Q⟩), (.loc 15, ⟨2, .own, 1, u32s L⟩)], 4⟩ : St)) ∧
      Q.length = a.length ∧ L.length = b.length + 1 ∧ val Q = val a / val b ∧ val L = val a % val b) ∧ loopN T 0 0 (.norm false [6, 7]) l63_0 (stDv a b y) = some r := by
  refine loopN_ex _ _ (fun y => y.1) _ ?_
  rintro ⟨k, Q, L⟩ ⟨hk, hQ, hL, hq, hr⟩
  simp only at hk hQ hL hq hr
  cases k with
  | zero =>
    right
    rw [Nat.pow_zero, Nat.div_one] at hq hr
    refine ⟨_, ⟨Q, L, rfl, hQ, hL, hq, hr⟩, ?_, ?_⟩ <;> simp -implicitDefEqProofs [l63_0, stDv]
  | succ j =>
    left
    have h1 : j / 32 < a.length := by omega
    have hag : a[j / 32]? = some (a[j / 32]'h1) := List.getElem?_eq_getElem h1
    have hbit := val_bit hag
    have hw : IntKind.wrap .i64 ((j : Int) - 1) = (j : Int) - 1 := wrap_i64 _ (by omega)
    have hsh : binV .shl (u32 1) (.i .i64 ((j : Int) % 32)) = some (u32 (2 ^ (j % 32))) := shl1_u32 (j % 32) (Nat.mod_lt _ (by decide))
    have hm : ((j : Int).tmod 32) = ((j % 32 : Nat) : Int) := rfl
    have hj0 : IntKind.wrap .i64 ((j : Int) / 32) = (j : Int) / 32 := wrap_i64 (j / 32) (by omega)
    have hj1 : ((j : Int) / 32).toNat = j / 32 := by omega
    have hj2 : (0 : Int) ≤ (j : Int) / 32 := by omega
    have hj3 : (j : Int) / 32 < (a.length : Int) := by omega
    have hxl := u32_lt (a[j / 32]'h1)
    obtain ⟨cL, L2, hL2, hcL, hvL, hrL⟩ := ref05_double (T := T) L (decide ((a[j / 32]'h1).toNat / 2 ^ (j % 32) % 2 = 1)) (by omega)
    obtain ⟨cQ, Q2, hQ2, hcQ, hvQ, hrQ⟩ := ref05_double (T := T) Q false (by omega)
    have hcmp := ref02_cmp (T := T) L2 b (by omega) (by omega)
    have hpq : (2 ^ (j % 32)) ≠ 0 := Nat.ne_of_gt (Nat.pow_pos (by decide))
    rw [hL] at hrL
    rw [hQ] at hrQ
    rw [hL] at hL2
    rw [hQ] at hQ2
    have htL : List.take (b.length + 1) L2 = L2 := List.take_of_length_le (by omega)
    have hres : ∃ Q3 L3 : List UInt32, Q3.length = a.length ∧ L3.length = b.length + 1 ∧ val Q3 = val a / 2 ^ j / val b ∧ val L3 = val a / 2 ^ j % val b ∧
        (evX (orc T) T 0 l63_0 (stDv a b (j + 1, Q, L)) = some (Ex.n, stDv a b (j, Q3, L3))) := by
      have hvb := val_lt b
      have hva := val_lt a
      have hLb : val L < val b := by rw [hr]; exact Nat.mod_lt _ h0b
      have hv2 : val a / 2 ^ (j + 1) = val a / 2 ^ j / 2 := by rw [Nat.pow_succ, Nat.div_div_eq_div_mul]
      rw [hv2] at hq hr
      have hlaw := dv_law h0b hq hr
      have hva2 : val a / 2 ^ j ≤ val a := Nat.div_le_self _ _
      have hq2 : 2 * val Q ≤ val a / 2 ^ j := by
        have h2 : val a / 2 ^ j / 2 / val b ≤ val a / 2 ^ j / 2 := Nat.div_le_self _ _
        omega
      have hL0 : val L2 = 2 * val L + val a / 2 ^ j % 2 := by
        have hb2 : (if decide ((a[j / 32]'h1).toNat / 2 ^ (j % 32) % 2 = 1) = true then 1 else 0) = val a / 2 ^ j % 2 := by
          rw [hbit]
          simp only [decide_eq_true_eq]
          split <;> omega
        rw [hb2, hL, Nat.pow_succ] at hvL
        have ht : val a / 2 ^ j % 2 < 2 := Nat.mod_lt _ (by decide)
        generalize val a / 2 ^ j % 2 = t at *
        generalize 4294967296 ^ b.length = p at *
        rcases Nat.eq_zero_or_pos cL with h | h
        · rw [h, Nat.mul_zero, Nat.add_zero] at hvL
          exact hvL
        · have := Nat.mul_le_mul_left (p * 4294967296) h
          generalize p * 4294967296 * cL = u at *
          omega
      have hQ0 : val Q2 = 2 * val Q := by
        rw [hQ] at hvQ
        simp at hvQ
        generalize 4294967296 ^ a.length = p at *
        rcases Nat.eq_zero_or_pos cQ with h | h
        · rw [h, Nat.mul_zero, Nat.add_zero] at hvQ
          exact hvQ
        · have := Nat.mul_le_mul_left p h
          generalize p * cQ = u at *
          omega
      rw [← hL0] at hlaw
      by_cases hle : val b ≤ val L2
      · have hc : (0 : Int) ≤ cmpN (val L2) (val b) := by unfold cmpN; split; · omega
                                                          · split <;> omega
        obtain ⟨L3, hL3, hvL3, hrL3⟩ := ref05_less (T := T) L2 b (by omega) (by omega) hle
        rw [hL2] at hrL3 hL3
        have h0Q : 0 < Q2.length := by omega
        have hQg : Q2[0]? = some (Q2[0]'h0Q) := List.getElem?_eq_getElem h0Q
        have hev : (Q2[0]'h0Q).toNat + 1 < 4294967296 := by
          have := u32_lt (Q2[0]'h0Q)
          have hc : val Q2 = (Q2[0]'h0Q).toNat + 4294967296 * val (Q2.drop 1) := by
            conv => lhs; rw [← List.drop_zero (l := Q2), List.drop_eq_getElem_cons h0Q, val_cons]
          omega
        have h0a : 0 < a.length := by omega
        have hQg' := hQg
        have hev' := hev
        generalize hqq : (Q2[0]'h0Q).toNat = qq at hev'
        refine ⟨Q2.set 0 (w32 ((Q2[0]'h0Q).toNat + 1)), L3, by simp [hQ2], hL3, by rw [val_inc hQg hev, hQ0, (hlaw.1 hle).1], by rw [hvL3, (hlaw.1 hle).2], ?_⟩
        simp -implicitDefEqProofs [l63_0, stDv, hw, hsh, hm, hj0, hj1, hj2, hj3, h1, hrL, hrQ, hL2, htL, hcmp, hc, hrL3, hQ2, h0a]
      · have hc : ¬ (0 : Int) ≤ cmpN (val L2) (val b) := by unfold cmpN; rw [if_pos (by omega)]; decide
        have hlt : val L2 < val b := by omega
        refine ⟨Q2, L2, hQ2, hL2, by rw [hQ0, (hlaw.2 hlt).1], by rw [(hlaw.2 hlt).2], ?_⟩
        simp -implicitDefEqProofs [l63_0, stDv, hw, hsh, hm, hj0, hj1, hj2, hj3, h1, hrL, hrQ, hL2, htL, hcmp, hc]
    obtain ⟨Q3, L3, e1, e2, e3, e4, e5⟩ := hres
    exact ⟨(j, Q3, L3), ⟨by simp only; omega, e1, e2, e3, e4⟩, Nat.lt_succ_self j, e5⟩
theorem ref05_div (a b : List UInt32) (ha : a.length ≤ 100000) (hb : b.length ≤ 100000) (h0b : 0 < val b) :
    callF T 63 [.sl (u32s a) .an, .sl (u32s b) .an] = some (.tup [.sl (u32s (ofN (val a / val b))) .an, .sl (u32s (ofN (val a % val b))) .an]) := by
  obtain ⟨n, hn, hvn, hln⟩ := ref03_len (T := T) a (by omega)
  have hd0 : val a / 2 ^ n = 0 := Nat.div_eq_of_lt hvn
  obtain ⟨_, ⟨Q, L, rfl, hQ, hL, hq, hr⟩, hlp⟩ := dv_loop (T := T) a b ha hb h0b (n, List.replicate a.length 0, List.replicate (b.length + 1) 0)
    ⟨hn, by simp, by simp, by simp [val_replicate, hd0], by simp only [hd0, Nat.zero_mod]; exact val_replicate _⟩
  have hw : IntKind.wrap .i64 ((n : Int) - 1) = (n : Int) - 1 := wrap_i64 _ (by omega)
  have hw2 : IntKind.wrap .i64 ((b.length : Int) + 1) = ((b.length + 1 : Nat) : Int) := wrap_i64 _ (by omega)
  have h1 : (a.length : Int) ≤ 4294967296 := by omega
  have h2 : (b.length : Int) + 1 ≤ 4294967296 := by omega
  have hn1 := ref02_norm (T := T) Q (by omega)
  have hn2 := ref02_norm (T := T) L (by omega)
  have t1 : List.take a.length Q = Q := List.take_of_length_le (by omega)
  have t2 : List.take (b.length + 1) L = L := List.take_of_length_le (by omega)
  unfold stDv at hlp
  simp at hlp
  rw [f63 _ rfl, b63]
  simp -implicitDefEqProofs [hln, hw, hw2, h1, h2, hlp, hQ, hL, t1, t2, hn1, hn2, hq, hr]
end
end Go.Ab
end

section
namespace Go.Ab
def l2043_0 : AX :=
 (.note
 (.seq
 (.seq
 (.reg [⟨(some 6), none, .mov (.t 3)⟩,
 ⟨(some 7), none, .bin .gtr (.t 6) (.c (.i .i64 0))⟩,
 ⟨(some 8), none, .mov (.t 7)⟩,
 ⟨(some 9), (some (8, true)), .mov (.t 0)⟩,
 ⟨(some 10), (some (8, true)), .mov (.t 3)⟩,
 ⟨(some 11), (some (8, true)), .bin .sub (.t 10) (.c (.i .i64 1))⟩,
 ⟨(some 12), (some (8, true)), .iad 1 (.t 9) (.t 11)⟩,
 ⟨(some 13), (some (8, true)), .load none (.t 12)⟩,
 ⟨(some 14), (some (8, true)), .bin .eql (.t 13) (.c (u32 0))⟩,
 ⟨(some 15), none, .pick (.t 8) (.t 14) (.c (.b false))⟩])
 (.cond (.t 15)
 .skip
 (.exit 0)))
 (.block 1
 (.reg [⟨(some 16), none, .mov (.t 3)⟩,
 ⟨(some 17), none, .bin .sub (.t 16) (.c (.i .i64 1))⟩,
 ⟨(some 3), none, .mov (.t 17)⟩])))
 (.norm false [0, 3]))
def b2043 : AX :=
 (.seq
 (.reg [⟨(some 2), none, .mov (.c (.sl [] .nl))⟩])
 (.seq
 (.reg [⟨(some 4), none, .mov (.t 0)⟩,
 ⟨(some 5), none, .len (.t 4)⟩,
 ⟨(some 3), none, .mov (.t 5)⟩])
 (.seq
 (.lp 0 (.norm false [0, 3]) l2043_0 (.norm false [0, 3]))
 (.seq
 (.reg [⟨(some 18), none, .bsl 1 [(u32 0)] 0 []⟩,
 ⟨(some 19), none, .mov (.t 0)⟩,
 ⟨(some 20), none, .mov (.t 3)⟩,
 ⟨(some 21), none, .slc 1 (.t 19) none (some (.t 20)) none⟩,
 ⟨(some 22), none, .app 1 (.t 18) (.t 21)⟩,
 ⟨(some 2), none, .mov (.t 22)⟩])
 (.pre (.norm false [2]) .ret)))))
def l105_0 : AX :=
 (.note
 (.seq
 (.seq
 (.reg [⟨(some 8), none, .mov (.t 4)⟩,
 ⟨(some 9), none, .bin .geq (.t 8) (.c (.i .i64 0))⟩])
 (.cond (.t 9)
 .skip
 (.exit 0)))
 (.seq
 (.block 1
 (.seq
 (.reg [⟨(some 12), none, .mov (.t 3)⟩,
 ⟨(some 13), none, .bin .mul (.t 12) (.c (u64 4294967296))⟩,
 ⟨(some 14), none, .mov (.t 0)⟩,
 ⟨(some 15), none, .mov (.t 4)⟩,
 ⟨(some 16), none, .iad 1 (.t 14) (.t 15)⟩,
 ⟨(some 17), none, .load none (.t 16)⟩,
 ⟨(some 18), none, .conv .u64 (.t 17)⟩,
 ⟨(some 19), none, .bin .add (.t 13) (.t 18)⟩,
 ⟨(some 3), none, .mov (.t 19)⟩])
 (.seq
 (.reg [⟨(some 20), none, .mov (.t 0)⟩,
 ⟨(some 21), none, .mov (.t 4)⟩,
 ⟨(some 22), none, .mov (.t 3)⟩,
 ⟨(some 23), none, .bin .quo (.t 22) (.c (u64 10))⟩,
 ⟨(some 24), none, .conv .u32 (.t 23)⟩,
 ⟨(some 25), none, .iad 1 (.t 20) (.t 21)⟩,
 ⟨none, none, .store 1 (.t 25) (.t 24)⟩])
 (.reg [⟨(some 26), none, .mov (.t 3)⟩,
 ⟨(some 27), none, .bin .rem (.t 26) (.c (u64 10))⟩,
 ⟨(some 3), none, .mov (.t 27)⟩]))))
 (.reg [⟨(some 10), none, .mov (.t 4)⟩,
 ⟨(some 11), none, .bin .sub (.t 10) (.c (.i .i64 1))⟩,
 ⟨(some 4), none, .mov (.t 11)⟩])))
 (.norm false [0, 3, 4]))
def b105 : AX :=
 (.seq
 (.reg [⟨(some 2), none, .mov (.c (u64 0))⟩])
 (.seq
 (.reg [⟨(some 3), none, .mov (.c (u64 0))⟩])
 (.seq
 (.seq
 (.reg [⟨(some 5), none, .mov (.t 0)⟩,
 ⟨(some 6), none, .len (.t 5)⟩,
 ⟨(some 7), none, .bin .sub (.t 6) (.c (.i .i64 1))⟩,
 ⟨(some 4), none, .mov (.t 7)⟩])
 (.lp 0 (.norm false [0, 3, 4]) l105_0 (.norm false [3])))
 (.seq
 (.reg [⟨(some 28), none, .mov (.t 3)⟩,
 ⟨(some 2), none, .mov (.t 28)⟩])
 (.pre (.norm false [2]) .ret)))))
def l66_0 : AX :=
 (.note
 (.seq
 (.seq
 (.reg [⟨(some 6), none, .mov (.t 3)⟩,
 ⟨(some 7), none, .mov (.t 0)⟩,
 ⟨(some 8), none, .lens (.t 7)⟩,
 ⟨(some 9), none, .bin .lss (.t 6) (.t 8)⟩])
 (.cond (.t 9)
 .skip
 (.exit 0)))
 (.seq
 (.block 1
 (.seq
 (.reg [⟨(some 12), none, .mov (.t 0)⟩,
 ⟨(some 13), none, .mov (.t 3)⟩,
 ⟨(some 14), none, .ixs (.t 12) (.t 13)⟩,
 ⟨(some 15), none, .bin .lss (.t 14) (.c (u8 48))⟩,
 ⟨(some 16), none, .mov (.t 15)⟩,
 ⟨(some 17), (some (16, false)), .mov (.t 0)⟩,
 ⟨(some 18), (some (16, false)), .mov (.t 3)⟩,
 ⟨(some 19), (some (16, false)), .ixs (.t 17) (.t 18)⟩,
 ⟨(some 20), (some (16, false)), .bin .gtr (.t 19) (.c (u8 57))⟩,
 ⟨(some 21), none, .pick (.t 16) (.c (.b true)) (.t 20)⟩,
 ⟨(some 22), none, .mov (.t 21)⟩,
 ⟨(some 23), (some (22, false)), .mov (.t 3)⟩,
 ⟨(some 24), (some (22, false)), .bin .geq (.t 23) (.c (.i .i64 60))⟩,
 ⟨(some 25), none, .pick (.t 22) (.c (.b true)) (.t 24)⟩])
 (.cond (.t 25)
 (.seq
 (.reg [⟨(some 26), none, .mov (.t 3)⟩,
 ⟨(some 2), none, .mov (.t 26)⟩])
 (.pre (.norm false [2]) .ret))
 .skip)))
 (.reg [⟨(some 10), none, .mov (.t 3)⟩,
 ⟨(some 11), none, .bin .add (.t 10) (.c (.i .i64 1))⟩,
 ⟨(some 3), none, .mov (.t 11)⟩])))
 (.norm false [0, 3]))
def b66 : AX :=
 (.seq
 (.reg [⟨(some 2), none, .mov (.c (.i .i64 0))⟩])
 (.seq
 (.seq
 (.reg [⟨(some 4), none, .mov (.t 0)⟩,
 ⟨(some 5), none, .bin .eql (.t 4) (.c (.s []))⟩])
 (.cond (.t 5)
 (.seq
 (.reg [⟨(some 2), none, .mov (.c (.i .i64 0))⟩])
 (.pre (.norm false [2]) .ret))
 .skip))
 (.seq
 (.seq
 (.reg [⟨(some 3), none, .mov (.c (.i .i64 0))⟩])
 (.lp 0 (.norm false [0, 3]) l66_0 (.norm false [])))
 (.seq
 (.reg [⟨(some 2), none, .mov (.c (.i .i64 (-1)))⟩])
 (.pre (.norm false [2]) .ret)))))
def l67_0 : AX :=
 (.note
 (.seq
 (.seq
 (.reg [⟨(some 6), none, .mov (.t 4)⟩,
 ⟨(some 7), none, .mov (.t 0)⟩,
 ⟨(some 8), none, .lens (.t 7)⟩,
 ⟨(some 9), none, .bin .lss (.t 6) (.t 8)⟩])
 (.cond (.t 9)
 .skip
 (.exit 0)))
 (.seq
 (.block 1
 (.drawT [⟨(some 12), none, .mov (.t 3)⟩,
 ⟨(some 13), none, .bsl 1 [(u32 0)] 1 [(0, (.c (u32 10)))]⟩,
 ⟨(some 14), none, .call 61 [(.t 12), (.t 13)]⟩,
 ⟨(some 15), none, .mov (.t 0)⟩,
 ⟨(some 16), none, .mov (.t 4)⟩,
 ⟨(some 17), none, .ixs (.t 15) (.t 16)⟩,
 ⟨(some 18), none, .conv .u32 (.t 17)⟩,
 ⟨(some 19), none, .bin .sub (.t 18) (.c (u32 48))⟩,
 ⟨(some 20), none, .bsl 1 [(u32 0)] 1 [(0, (.t 19))]⟩]
 [⟨(some 21), none, .call 58 [(.t 14), (.t 20)]⟩,
 ⟨(some 3), none, .mov (.t 21)⟩]))
 (.reg [⟨(some 10), none, .mov (.t 4)⟩,
 ⟨(some 11), none, .bin .add (.t 10) (.c (.i .i64 1))⟩,
 ⟨(some 4), none, .mov (.t 11)⟩])))
 (.norm false [0, 3, 4]))
def b67 : AX :=
 (.seq
 (.reg [⟨(some 2), none, .mov (.c (.sl [] .nl))⟩])
 (.seq
 (.reg [⟨(some 5), none, .bsl 1 [(u32 0)] 0 []⟩,
 ⟨(some 3), none, .mov (.t 5)⟩])
 (.seq
 (.seq
 (.reg [⟨(some 4), none, .mov (.c (.i .i64 0))⟩])
 (.lp 0 (.norm false [0, 3, 4]) l67_0 (.norm false [3])))
 (.seq
 (.reg [⟨(some 22), none, .mov (.t 3)⟩,
 ⟨(some 2), none, .mov (.t 22)⟩])
 (.pre (.norm false [2]) .ret)))))
class CRef07 (T : Tbl) : Prop extends CRef05 T where
 h2043 : T 2043 = some ⟨1, 23, [.t 2], b2043, (some [false]), false⟩
 h105 : T 105 = some ⟨1, 29, [.t 2], b105, (some [true]), false⟩
 h66 : T 66 = some ⟨1, 27, [.t 2], b66, none, false⟩
 h67 : T 67 = some ⟨1, 23, [.t 2], b67, none, false⟩
section
variable {T : Tbl} [CRef07 T] {d : Option Nat} {st : St}
@[simp] theorem x2043 (xs : List AV) : callX (orc T) T 2043 xs d st = bL (frzM st.heap [false] xs) fun ys => lentX ys (shareIds (refsM [false] xs) st.heap) (reach (shareIds (refsM [false] xs) st.heap) 40 (rootsM [false] xs) []) T 2043 false d st := callX_lent CRef07.h2043
theorem f2043 (xs : List AV) (hb : Heap) (hn : xs.length = 1) : callH T 2043 xs hb = retH [.t 2] false hb.length (evX (orc T) T hb.length b2043 ⟨argEnv xs, hb, hb.length + 1⟩) := callH_eq CRef07.h2043 hn
theorem f105 (xs : List AV) (hb : Heap) (hn : xs.length = 1) : callH T 105 xs hb = retH [.t 2] false hb.length (evX (orc T) T hb.length b105 ⟨argEnv xs, hb, hb.length + 1⟩) := callH_eq CRef07.h105 hn
@[simp] theorem x66 (xs : List AV) : callX (orc T) T 66 xs d st = bL (frzL st.heap xs) fun ys => cR (callF T 66 (ys.map (wkIf false))) xs d st := callX_pure CRef07.h66
theorem f66 (xs : List AV) (hn : xs.length = 1) : callF T 66 xs = retF [.t 2] false (evX (orc T) T 0 b66 ⟨argEnv xs, [], 1⟩) := callF_eq CRef07.h66 hn
@[simp] theorem x67 (xs : List AV) : callX (orc T) T 67 xs d st = bL (frzL st.heap xs) fun ys => cR (callF T 67 (ys.map (wkIf false))) xs d st := callX_pure CRef07.h67
theorem f67 (xs : List AV) (hn : xs.length = 1) : callF T 67 xs = retF [.t 2] false (evX (orc T) T 0 b67 ⟨argEnv xs, [], 1⟩) := callF_eq CRef07.h67 hn
end
end Go.Ab
end

section
namespace Go.Ab
def l224_0 : AX :=
 (.note
 (.seq
 (.seq
 (.reg [mv 6 0, rg 7 (.bin .rem (.t 6) (.c (u32 2))), rg 8 (.bin .eql (.t 7) (.c (u32 0)))])
 (.cond (.t 8)
 .skip
 (.exit 0)))
 (.block 1
 (.seq
 (.reg [mv 9 0, rg 10 (.bin .quo (.t 9) (.c (u32 2))), mv 0 10])
 (.reg [mv 11 3, rg 12 (.bin .add (.t 11) (.c (.i .i64 1))), mv 3 12]))))
 (.norm false [0, 3]))
def b224 : AX :=
 (.seq
 (.reg [rg 2 (.mov (.c (.i .i64 0)))])
 (.seq
 (.seq
 (.reg [mv 4 0, rg 5 (.bin .eql (.t 4) (.c (u32 0)))])
 (.cond (.t 5)
 (.seq
 (.reg [rg 2 (.mov (.c (.i .i64 32)))])
 (.pre (.norm false [2]) .ret))
 .skip))
 (.seq
 (.reg [rg 3 (.mov (.c (.i .i64 0)))])
 (.seq
 (.lp 0 (.norm false [0, 3]) l224_0 (.norm false [3]))
 (.seq
 (.reg [mv 13 3, mv 2 13])
 (.pre (.norm false [2]) .ret))))))
def l225_0 : AX :=
 (.note
 (.seq
 (.seq
 (.reg [mv 7 5, mv 8 0, rg 9 (.len (.t 8)), rg 10 (.bin .lss (.t 7) (.t 9))])
 (.cond (.t 10)
 .skip
 (.exit 0)))
 (.seq
 (.block 1
 (.seq
 (.reg [rg 6 (.mov (.c (u64 0)))])
 (.seq
 (.seq
 (.reg [mv 13 5, rg 14 (.bin .add (.t 13) (.c (.i .i64 1))), mv 15 0, rg 16 (.len (.t 15)), rg 17 (.bin .lss (.t 14) (.t 16))])
 (.cond (.t 17)
 (.reg [mv 18 0, mv 19 5, rg 20 (.bin .add (.t 19) (.c (.i .i64 1))), rg 21 (.iad 1 (.t 18) (.t 20)), rg 22 (.load none (.t 21)), rg 23 (.conv .u64 (.t 22)),
 mv 6 23])
 .skip))
 (.reg [mv 24 0, mv 25 5, mv 26 6, rg 27 (.bin .mul (.t 26) (.c (u64 4294967296))), mv 28 0, mv 29 5, rg 30 (.iad 1 (.t 28) (.t 29)), rg 31 (.load none (.t 30)),
 rg 32 (.conv .u64 (.t 31)), rg 33 (.bin .add (.t 27) (.t 32)), mv 34 1, rg 35 (.bin .shr (.t 33) (.t 34)), rg 36 (.conv .u32 (.t 35)),
 rg 37 (.iad 1 (.t 24) (.t 25)), so (.store 1 (.t 37) (.t 36))]))))
 (.reg [mv 11 5, rg 12 (.bin .add (.t 11) (.c (.i .i64 1))), mv 5 12])))
 (.norm false [0, 1, 5]))
def l225_1 : AX :=
 (.note
 (.seq
 (.seq
 (.reg [mv 38 0, rg 39 (.len (.t 38)), rg 40 (.bin .gtr (.t 39) (.c (.i .i64 0))), mv 41 40, gd 42 41 true (.mov (.t 0)), gd 43 41 true (.mov (.t 0)),
 gd 44 41 true (.len (.t 43)), gd 45 41 true (.bin .sub (.t 44) (.c (.i .i64 1))), gd 46 41 true (.iad 1 (.t 42) (.t 45)),
 gd 47 41 true (.load none (.t 46)), gd 48 41 true (.bin .eql (.t 47) (.c (u32 0))), rg 49 (.pick (.t 41) (.t 48) (.c (.b false)))])
 (.cond (.t 49)
 .skip
 (.exit 2)))
 (.block 3
 (.reg [mv 50 0, mv 51 0, rg 52 (.len (.t 51)), rg 53 (.bin .sub (.t 52) (.c (.i .i64 1))), rg 54 (.slc 1 (.t 50) none (some (.t 53)) none), mv 0 54])))
 (.norm false [0]))
def b225 : AX :=
 (.seq
 (.reg [rg 4 (.mov (.c (.sl [] .nl)))])
 (.seq
 (.seq
 (.reg [rg 5 (.mov (.c (.i .i64 0)))])
 (.lp 0 (.norm false [0, 1, 5]) l225_0 (.norm false [0])))
 (.seq
 (.lp 2 (.norm false [0]) l225_1 (.norm false [0]))
 (.seq
 (.reg [mv 55 0, mv 4 55])
 (.pre (.norm false [4]) .ret)))))
def l226_0 : AX :=
 (.note
 (.seq
 (.seq
 (.reg [mv 6 0, rg 7 (.iad 1 (.t 6) (.c (.i .i64 0))), rg 8 (.load none (.t 7)), rg 9 (.bin .eql (.t 8) (.c (u32 0)))])
 (.cond (.t 9)
 .skip
 (.exit 0)))
 (.block 1
 (.seq
 (.reg [mv 10 0, rg 11 (.slc 1 (.t 10) (some (.c (.i .i64 1))) none none), mv 0 11])
 (.reg [mv 12 4, rg 13 (.bin .add (.t 12) (.c (.i .i64 32))), mv 4 13]))))
 (.norm false [0, 4]))
def b226 : AX :=
 (.seq
 (.reg [rg 2 (.mov (.c (.sl [] .nl))), rg 3 (.mov (.c (.i .i64 0)))])
 (.seq
 (.reg [rg 4 (.mov (.c (.i .i64 0)))])
 (.seq
 (.lp 0 (.norm false [0, 4]) l226_0 (.norm false [0, 4]))
 (.seq
 (.reg [mv 14 0, rg 15 (.iad 1 (.t 14) (.c (.i .i64 0))), rg 16 (.load none (.t 15)), rg 17 (.call 224 [(.t 16)]), mv 5 17])
 (.seq
 (.reg [mv 18 0, mv 19 5, rg 20 (.call 225 [(.t 18), (.t 19)]), mv 21 4, mv 22 5, rg 23 (.bin .add (.t 21) (.t 22)), mv 2 20, mv 3 23])
 (.pre (.norm false [2, 3]) .ret))))))
def b227 : AX :=
 (.seq
 (.reg [rg 4 (.mov (.c (.sl [] .nl)))])
 (.seq
 (.reg [mv 6 1, rg 7 (.bin .quo (.t 6) (.c (.i .i64 32))), rg 8 (.mks 1 [(u32 0)] (.t 7) (.t 7)), mv 9 0, rg 10 (.app 1 (.t 8) (.t 9)), mv 5 10])
 (.seq
 (.reg [mv 11 5, mv 12 1, rg 13 (.bin .rem (.t 12) (.c (.i .i64 32))), rg 14 (.bin .shl (.c (u32 1)) (.t 13)), rg 15 (.bsl 1 [(u32 0)] 1 [(0, (.t 14))]),
 rg 16 (.call 61 [(.t 11), (.t 15)]), mv 4 16])
 (.pre (.norm false [4]) .ret))))
def l228_0 : AX :=
 (.note
 (.block 1
 (.seq
 (.reg [mv 33 5, mv 34 6, rg 35 (.call 52 [(.t 33), (.t 34)]), mv 9 35])
 (.seq
 (.seq
 (.reg [mv 36 9, rg 37 (.bin .eql (.t 36) (.c (.i .i64 0)))])
 (.cond (.t 37)
 (.exit 0)
 .skip))
 (.seq
 (.seq
 (.reg [mv 38 9, rg 39 (.bin .lss (.t 38) (.c (.i .i64 0)))])
 (.cond (.t 39)
 (.seq
 (.reg [mv 40 5, mv 10 40])
 (.seq
 (.reg [mv 41 6, mv 5 41])
 (.reg [mv 42 10, mv 6 42])))
 .skip))
 (.seq
 (.reg [mv 43 5, mv 44 6, rg 45 (.call 2097 [(.t 43), (.t 44)])])
 (.reg [mv 47 5, rg 48 (.call 226 [(.t 47)]), mv 46 48, rg 49 (.ext (.t 46) 0), rg 50 (.ext (.t 46) 1), mv 5 49]))))))
 (.norm false [5, 6, 7, 8]))
def b228 : AX :=
 (.seq
 (.reg [rg 4 (.mov (.c (.sl [] .nl)))])
 (.seq
 (.reg [mv 11 0, rg 12 (.call 2043 [(.t 11)]), mv 5 12])
 (.seq
 (.reg [mv 13 1, rg 14 (.call 2043 [(.t 13)]), mv 6 14])
 (.seq
 (.seq
 (.reg [mv 15 5, rg 16 (.len (.t 15)), rg 17 (.bin .eql (.t 16) (.c (.i .i64 0)))])
 (.cond (.t 17)
 (.seq
 (.reg [mv 18 6, mv 4 18])
 (.pre (.norm false [4]) .ret))
 .skip))
 (.seq
 (.seq
 (.reg [mv 19 6, rg 20 (.len (.t 19)), rg 21 (.bin .eql (.t 20) (.c (.i .i64 0)))])
 (.cond (.t 21)
 (.seq
 (.reg [mv 22 5, mv 4 22])
 (.pre (.norm false [4]) .ret))
 .skip))
 (.seq
 (.reg [mv 24 5, rg 25 (.call 226 [(.t 24)]), mv 23 25, rg 26 (.ext (.t 23) 0), rg 27 (.ext (.t 23) 1), mv 5 26, mv 7 27])
 (.seq
 (.reg [mv 29 6, rg 30 (.call 226 [(.t 29)]), mv 28 30, rg 31 (.ext (.t 28) 0), rg 32 (.ext (.t 28) 1), mv 6 31, mv 8 32])
 (.seq
 (.lp 0 (.norm false [5, 6, 7, 8]) l228_0 (.norm false [5, 7, 8]))
 (.seq
 (.reg [mv 51 5, mv 52 7, mv 53 8, rg 54 (.mm false [(.t 52), (.t 53)]), rg 55 (.call 227 [(.t 51), (.t 54)]), mv 4 55])
 (.pre (.norm false [4]) .ret))))))))))
def b229 : AX :=
 (.seq
 (.reg [rg 2 (.mov (.c (.b false)))])
 (.seq
 (.reg [mv 3 0, rg 4 (.len (.t 3)), rg 5 (.bin .eql (.t 4) (.c (.i .i64 1))), mv 6 5, gd 7 6 true (.mov (.t 0)), gd 8 6 true (.iad 1 (.t 7) (.c (.i .i64 0))),
 gd 9 6 true (.load none (.t 8)), gd 10 6 true (.bin .eql (.t 9) (.c (u32 1))), rg 11 (.pick (.t 6) (.t 10) (.c (.b false))), mv 2 11])
 (.pre (.norm false [2]) .ret)))
def b230 : AX :=
 (.seq
 (.reg [rg 4 (.mov (.c (.sl [] .nl)))])
 (.seq
 (.seq
 (.reg [mv 7 1, rg 8 (.call 229 [(.t 7)])])
 (.cond (.t 8)
 (.seq
 (.reg [mv 9 0, rg 10 (.call 43 [(.t 9)]), mv 4 10])
 (.pre (.norm false [4]) .ret))
 .skip))
 (.seq
 (.reg [mv 12 0, mv 13 1, rg 14 (.call 63 [(.t 12), (.t 13)]), mv 11 14, rg 15 (.ext (.t 11) 0), rg 16 (.ext (.t 11) 1), mv 5 15, mv 6 16])
 (.seq
 (.reg [mv 17 5, mv 4 17])
 (.pre (.norm false [4]) .ret)))))
def l2097_0 : AX :=
 (.note
 (.seq
 (.seq
 (.reg [mv 8 5, mv 9 0, rg 10 (.len (.t 9)), rg 11 (.bin .lss (.t 8) (.t 10))])
 (.cond (.t 11)
 .skip
 (.exit 0)))
 (.seq
 (.block 1
 (.seq
 (.reg [mv 14 0, mv 15 5, rg 16 (.iad 1 (.t 14) (.t 15)), rg 17 (.load none (.t 16)), rg 18 (.conv .u64 (.t 17)), mv 6 18])
 (.seq
 (.reg [mv 19 1, mv 20 5, rg 21 (.call 84 [(.t 19), (.t 20)]), rg 22 (.conv .u64 (.t 21)), mv 23 4, rg 24 (.bin .add (.t 22) (.t 23)), mv 7 24])
 (.seq
 (.reg [rg 4 (.mov (.c (u64 0)))])
 (.seq
 (.seq
 (.reg [mv 25 6, mv 26 7, rg 27 (.bin .lss (.t 25) (.t 26))])
 (.cond (.t 27)
 (.seq
 (.reg [mv 28 6, rg 29 (.bin .add (.t 28) (.c (u64 4294967296))), mv 6 29])
 (.reg [rg 4 (.mov (.c (u64 1)))]))
 .skip))
 (.reg [mv 30 0, mv 31 5, mv 32 6, mv 33 7, rg 34 (.bin .sub (.t 32) (.t 33)), rg 35 (.conv .u32 (.t 34)), rg 36 (.iad 1 (.t 30) (.t 31)),
 so (.store 1 (.t 36) (.t 35))]))))))
 (.reg [mv 12 5, rg 13 (.bin .add (.t 12) (.c (.i .i64 1))), mv 5 13])))
 (.norm false [0, 1, 4, 5]))
def b2097 : AX :=
 (.seq
 (.reg [rg 4 (.mov (.c (u64 0)))])
 (.seq
 (.reg [rg 5 (.mov (.c (.i .i64 0)))])
 (.lp 0 (.norm false [0, 1, 4, 5]) l2097_0 (.norm false []))))
class CRef06 (T : Tbl) : Prop where
 h224 : T 224 = some ⟨1, 14, [.t 2], b224, none, false⟩
 h225 : T 225 = some ⟨2, 56, [.t 4], b225, (some [true, false]), false⟩
 h226 : T 226 = some ⟨1, 24, [.t 2, .t 3], b226, (some [true]), false⟩
 h227 : T 227 = some ⟨2, 17, [.t 4], b227, none, false⟩
 h228 : T 228 = some ⟨2, 56, [.t 4], b228, none, false⟩
 h229 : T 229 = some ⟨1, 12, [.t 2], b229, none, false⟩
 h230 : T 230 = some ⟨2, 18, [.t 4], b230, none, false⟩
 h2097 : T 2097 = some ⟨2, 37, [], b2097, (some [true, true]), false⟩
section
variable {T : Tbl} [CRef06 T] {d : Option Nat} {st : St} {xs : List AV} {ps : List Opd} {e : Env} {h : Heap} {ol : List Heap}
@[simp] theorem x224 : callX (orc T) T 224 xs d st = cP T 224 false xs d st := callX_pure CRef06.h224
theorem f224 (xs : List AV) (hn : xs.length = 1) : callF T 224 xs = retF [.t 2] false (evX (orc T) T 0 b224 ⟨argEnv xs, [], 1⟩) := callF_eq CRef06.h224 hn
@[simp] theorem x225 : callX (orc T) T 225 xs d st = cL T 225 false [true, false] xs d st := callX_lent CRef06.h225
theorem f225 (xs : List AV) (hb : Heap) (hn : xs.length = 2) : callH T 225 xs hb = retH [.t 4] false hb.length (evX (orc T) T hb.length b225 ⟨argEnv xs, hb, hb.length + 1⟩) := callH_eq CRef06.h225 hn
@[simp] theorem x226 : callX (orc T) T 226 xs d st = cL T 226 false [true] xs d st := callX_lent CRef06.h226
theorem f226 (xs : List AV) (hb : Heap) (hn : xs.length = 1) : callH T 226 xs hb = retH [.t 2, .t 3] false hb.length (evX (orc T) T hb.length b226 ⟨argEnv xs, hb, hb.length + 1⟩) := callH_eq CRef06.h226 hn
@[simp] theorem x227 : callX (orc T) T 227 xs d st = cP T 227 false xs d st := callX_pure CRef06.h227
theorem f227 (xs : List AV) (hn : xs.length = 2) : callF T 227 xs = retF [.t 4] false (evX (orc T) T 0 b227 ⟨argEnv xs, [], 1⟩) := callF_eq CRef06.h227 hn
@[simp] theorem x228 : callX (orc T) T 228 xs d st = cP T 228 false xs d st := callX_pure CRef06.h228
theorem f228 (xs : List AV) (hn : xs.length = 2) : callF T 228 xs = retF [.t 4] false (evX (orc T) T 0 b228 ⟨argEnv xs, [], 1⟩) := callF_eq CRef06.h228 hn
@[simp] theorem x229 : callX (orc T) T 229 xs d st = cP T 229 false xs d st := callX_pure CRef06.h229
theorem f229 (xs : List AV) (hn : xs.length = 1) : callF T 229 xs = retF [.t 2] false (evX (orc T) T 0 b229 ⟨argEnv xs, [], 1⟩) := callF_eq CRef06.h229 hn
@[simp] theorem x230 : callX (orc T) T 230 xs d st = cP T 230 false xs d st := callX_pure CRef06.h230
theorem f230 (xs : List AV) (hn : xs.length = 2) : callF T 230 xs = retF [.t 4] false (evX (orc T) T 0 b230 ⟨argEnv xs, [], 1⟩) := callF_eq CRef06.h230 hn
@[simp] theorem x2097 : callX (orc T) T 2097 xs d st = cL T 2097 false [true, true] xs d st := callX_lent CRef06.h2097
theorem f2097 (xs : List AV) (hb : Heap) (hn : xs.length = 2) : callH T 2097 xs hb = retH [] false hb.length (evX (orc T) T hb.length b2097 ⟨argEnv xs, hb, hb.length + 1⟩) := callH_eq CRef06.h2097 hn
end
end Go.Ab
end

section
namespace Go.Ab
section
variable {T : Tbl} [CRef07 T]
theorem ref02_norm_own (a : List UInt32) (hl : a.length ≤ 1000000) : callH T 2043 [.sl (u32s a) .an] [] =
  some (.bs (.loc 22) 1 1 0 (ofN (val a)).length, [(.loc 22, ⟨1, .own, 1, u32s (ofN (val a))⟩)]) := by
 obtain ⟨n, h1, h2, h3, h4⟩ := ofN_take a
 have hr := ref02_norm_loop (T := T) a (by omega) h1 h3 h4 a.length ⟨h1, Nat.le_refl _⟩
 rw [show l43_0 = l2043_0 from rfl] at hr
 have hlen : (ofN (val a)).length = n := by rw [← h2]; simp; omega
 have hb : n ≤ 4294967296 := by omega
 rw [f2043 _ _ rfl, b2043]
 simp -implicitDefEqProofs [hr, h1, h2, hb, hlen]
def stTen (N : Nat) (y : Nat × Nat × List UInt32) (P : List UInt32) : St :=
 ⟨[(0, .bs (.bor 0) 0 1 0 N), (3, u64 y.2.1), (4, .i .i64 ((y.1 : Int) - 1))], [(.bor 0, ⟨0, .own, 1, u32s (P.take y.1 ++ y.2.2)⟩)], 4⟩
end
section
variable {T : Tbl} [CRef07 T]
def stTx (b : BId) (x : List UInt32) (s : List UInt8) : St := ⟨[(3, .bs b 1 1 0 x.length), (4, .s s)], [(b, ⟨1, .own, 1, u32s x⟩)], 3⟩
end
section
variable {T : Tbl}
theorem wr7_loop (l : List UInt8) (hl : l.length ≤ 1000000) : ∀ i : Nat, (i ≤ l.length ∧ i ≤ 60) →
  loopN T 0 0 (.norm false []) l66_0 ⟨[(0, .s l), (3, .i .i64 i)], [], 2⟩ =
   if 0 ≤ wrAt i (l.drop i) then some (.r, ⟨[(2, .i .i64 (wrAt i (l.drop i)))], [], 2⟩) else some (.n, ⟨[], [], 2⟩) := by
 refine loopN_eq (fun i : Nat => ⟨[(0, .s l), (3, .i .i64 i)], [], 2⟩) _ (fun i => l.length - i) _ ?_
 rintro i ⟨hi, hi6⟩
 by_cases h0 : i < l.length
 ·have hg : l[i]? = some (l[i]'h0) := List.getElem?_eq_getElem h0
  have hd := List.drop_eq_getElem_cons h0
  have hw : IntKind.wrap .i64 ((i : Int) + 1) = ((i + 1 : Nat) : Int) := wrap_i64 _ (by omega)
  by_cases hc : (l[i]'h0).toNat < 48 ∨ 57 < (l[i]'h0).toNat ∨ i = 60
  ·right
   rw [hd]
   have e : wrAt i (l[i]'h0 :: List.drop (i + 1) l) = i := by simp only [wrAt]; rw [if_pos hc]
   rw [e]
   by_cases c1 : (l[i]'h0).toNat < 48
   ·constructor <;> simp -implicitDefEqProofs [l66_0, h0, c1]
   ·by_cases c2 : 57 < (l[i]'h0).toNat
    ·constructor <;> simp -implicitDefEqProofs [l66_0, h0, c1, c2]
    ·have c3 : i = 60 := by omega
     subst c3
     have h0' : (60 : Int) < (l.length : Int) := by omega
     constructor <;> simp -implicitDefEqProofs [l66_0, h0, h0', c1, c2]
  ·left
   have e : wrAt i (l.drop i) = wrAt (i + 1) (l.drop (i + 1)) := by rw [hd]; simp only [wrAt]; rw [if_neg hc]
   have c1 : ¬ (l[i]'h0).toNat < 48 := fun h => hc (.inl h)
   have c2 : ¬ 57 < (l[i]'h0).toNat := fun h => hc (.inr (.inl h))
   have c4 : ¬ i = 60 := fun h => hc (.inr (.inr h))
   have c3 : ¬ (60 ≤ (i : Int)) := by omega
   refine ⟨i + 1, ⟨h0, by omega⟩, by show l.length - (i + 1) < l.length - i; omega, ?_, ?_⟩
   ·simp -implicitDefEqProofs [l66_0, h0, c1, c2, c3, hw]
   ·simp only [e]
 ·right
  have : i = l.length := by omega
  subst this
  rw [List.drop_length]
  constructor <;> simp -implicitDefEqProofs [l66_0, wrAt]
end
section
variable {T : Tbl} [CRef07 T]
theorem ref07_wrong (l : List UInt8) (hl : l.length ≤ 1000000) : callF T 66 [.s l] = some (.i .i64 (wrongI l)) := by
 have h := wr7_loop (T := T) l hl 0 ⟨Nat.zero_le _, Nat.zero_le _⟩
 have hg := wrAt_ge 0 l
 rw [List.drop_zero] at h
 simp at h
 rw [f66 _ rfl, b66]
 unfold wrongI
 by_cases h0 : l = []
 ·subst h0
  simp -implicitDefEqProofs
 ·by_cases h1 : 0 ≤ wrAt 0 l
  ·rw [if_pos h1] at h
   simp -implicitDefEqProofs [h, h0]
  ·rw [if_neg h1] at h
   have h2 : wrAt 0 l = -1 := by omega
   simp -implicitDefEqProofs [h, h0, h2]
theorem rd7_loop (l : List UInt8) (hl : l.length ≤ 60) (hd : ∀ c ∈ l, 48 ≤ c.toNat ∧ c.toNat ≤ 57) : ∀ i : Nat, i ≤ l.length →
  loopN T 0 0 (.norm false [3]) l67_0 ⟨[(0, .s l), (3, .sl (u32s (ofN (rd (l.take i)))) .an), (4, .i .i64 i)], [], 2⟩ = some (.n, ⟨[(3, .sl (u32s (ofN (rd l))) .an)], [], 2⟩) := by
 refine loopN_eq (fun i : Nat => ⟨[(0, .s l), (3, .sl (u32s (ofN (rd (l.take i)))) .an), (4, .i .i64 i)], [], 2⟩) _ (fun i => l.length - i) _ ?_
 intro i hi
 by_cases h0 : i < l.length
 ·left
  have hg : l[i]? = some (l[i]'h0) := List.getElem?_eq_getElem h0
  have hw : IntKind.wrap .i64 ((i : Int) + 1) = ((i + 1 : Nat) : Int) := wrap_i64 _ (by omega)
  have hc := hd _ (List.getElem_mem h0)
  have hr := rd_take_succ hg
  have hol : (ofN (rd (l.take i))).length ≤ 60 := by
   refine ofN_length_le' ?_
   have h1 := rd_lt (l := l.take i) fun c hc => hd c (List.mem_of_mem_take hc)
   have h2 : 10 ^ (l.take i).length ≤ 10 ^ 60 := Nat.pow_le_pow_right (by decide) (by simp; omega)
   exact Nat.lt_of_lt_of_le h1 (Nat.le_trans h2 (by decide))
  obtain ⟨c, hcd⟩ : ∃ c, c = (l[i]'h0).toNat := ⟨_, rfl⟩
  obtain ⟨d, hdd⟩ : ∃ d, d = c - 48 := ⟨_, rfl⟩
  rw [← hcd] at hc hr
  rw [← hdd] at hr
  have m1 : c % 4294967296 = c := Nat.mod_eq_of_lt (by omega)
  have m2 : sub32 c 48 = d := by rw [sub32_le (by omega) (by omega), hdd]
  have hml := ref04_mul (T := T) (ofN (rd (l.take i))) [w32 10] (by omega) (by simp)
  have hv10 : val [w32 10] = 10 := by decide
  rw [val_ofN, hv10] at hml
  have hol2 : (ofN (rd (l.take i) * 10)).length ≤ 61 := by
   refine ofN_length_le' ?_
   have := val_lt (ofN (rd (l.take i)))
   rw [val_ofN] at this
   have h2 : 4294967296 ^ (ofN (rd (l.take i))).length ≤ 4294967296 ^ 60 := Nat.pow_le_pow_right (by decide) hol
   rw [Nat.pow_succ]
   exact Nat.lt_of_lt_of_le (Nat.mul_lt_mul_of_lt_of_le (Nat.lt_of_lt_of_le this h2) (Nat.le_refl _) (by decide)) (Nat.mul_le_mul_left _ (by decide))
  have hdl : d < 4294967296 := by omega
  have had := ref02_add (T := T) (ofN (rd (l.take i) * 10)) [w32 d] (by omega) (by simp)
  have hvd : val [w32 d] = d := by simp [w32_of_lt hdl]
  rw [val_ofN, hvd, ← hr] at had
  have e10 : u32s [w32 10] = [[u32 10]] := rfl
  have ed : u32s [w32 d] = [[u32 d]] := by simp [u32s, w32_of_lt hdl]
  rw [e10] at hml
  rw [ed] at had
  refine ⟨i + 1, h0, by show l.length - (i + 1) < l.length - i; omega, ?_, rfl⟩
  simp -implicitDefEqProofs [l67_0, h0, ← hcd, m1, m2, hml, had, hw]
 ·right
  have : i = l.length := by omega
  subst this
  rw [List.take_length]
  constructor <;> simp -implicitDefEqProofs [l67_0]
theorem ref07_read (l : List UInt8) (hl : l.length ≤ 60) (hd : ∀ c ∈ l, 48 ≤ c.toNat ∧ c.toNat ≤ 57) : callF T 67 [.s l] = some (.sl (u32s (ofN (rd l))) .an) := by
 have h := rd7_loop (T := T) l hl hd 0 (Nat.zero_le _)
 simp [show rd [] = 0 from rfl] at h
 rw [f67 _ rfl, b67]
 simp -implicitDefEqProofs [h]
end
end Go.Ab
end

section
namespace Go.Ab
def b39 : AX :=
 (.seq
 (.reg [⟨(some 1), none, .xop (.box 2) [(.t 0)]⟩,
 ⟨(some 2), none, .alloc [(.b false), (.sl [] .nl)]⟩])
 (.seq
 (.reg [⟨(some 4), none, .fad 1 (.t 1)⟩,
 ⟨(some 5), none, .load none (.t 4)⟩,
 ⟨(some 6), none, .call 43 [(.t 5)]⟩,
 ⟨(some 3), none, .mov (.t 6)⟩])
 (.seq
 (.reg [⟨(some 7), none, .fad 0 (.t 1)⟩,
 ⟨(some 8), none, .load none (.t 7)⟩,
 ⟨(some 9), none, .mov (.t 8)⟩,
 ⟨(some 10), (some (9, true)), .mov (.t 3)⟩,
 ⟨(some 11), (some (9, true)), .len (.t 10)⟩,
 ⟨(some 12), (some (9, true)), .bin .gtr (.t 11) (.c (.i .i64 0))⟩,
 ⟨(some 13), none, .pick (.t 9) (.t 12) (.c (.b false))⟩,
 ⟨(some 14), none, .mov (.t 3)⟩,
 ⟨(some 15), none, .build [(.b false), (.sl [] .nl)] [(0, 1, (.t 13)), (1, 1, (.t 14))]⟩,
 ⟨none, none, .store 2 (.t 2) (.t 15)⟩])
 (.pre (.norm false [2]) .ret))))
def b21 : AX :=
 (.seq
 (.reg [⟨(some 2), none, .xop (.box 2) [(.t 0)]⟩,
 ⟨(some 3), none, .xop (.box 2) [(.t 1)]⟩,
 ⟨(some 4), none, .mov (.c (.b false))⟩])
 (.seq
 (.reg [⟨(some 5), none, .fad 0 (.t 2)⟩,
 ⟨(some 6), none, .load none (.t 5)⟩,
 ⟨(some 7), none, .fad 0 (.t 3)⟩,
 ⟨(some 8), none, .load none (.t 7)⟩,
 ⟨(some 9), none, .eqb false (.t 6) (.t 8)⟩,
 ⟨(some 10), none, .mov (.t 9)⟩,
 ⟨(some 11), (some (10, true)), .fad 1 (.t 2)⟩,
 ⟨(some 12), (some (10, true)), .load none (.t 11)⟩,
 ⟨(some 13), (some (10, true)), .fad 1 (.t 3)⟩,
 ⟨(some 14), (some (10, true)), .load none (.t 13)⟩,
 ⟨(some 15), (some (10, true)), .call 54 [(.t 12), (.t 14)]⟩,
 ⟨(some 16), none, .pick (.t 10) (.t 15) (.c (.b false))⟩,
 ⟨(some 4), none, .mov (.t 16)⟩])
 (.pre (.norm false [4]) .ret)))
def b30 : AX :=
 (.seq
 (.reg [⟨(some 1), none, .xop (.box 2) [(.t 0)]⟩,
 ⟨(some 2), none, .mov (.c (.i .i64 0))⟩])
 (.seq
 (.reg [⟨(some 4), none, .load (some 2) (.t 1)⟩,
 ⟨(some 5), none, .call 39 [(.t 4)]⟩,
 ⟨(some 3), none, .alloc [(.b false), (.sl [] .nl)]⟩,
 ⟨none, none, .store 2 (.t 3) (.t 5)⟩])
 (.seq
 (.seq
 (.reg [⟨(some 6), none, .fad 1 (.t 3)⟩,
 ⟨(some 7), none, .load none (.t 6)⟩,
 ⟨(some 8), none, .len (.t 7)⟩,
 ⟨(some 9), none, .bin .eql (.t 8) (.c (.i .i64 0))⟩])
 (.cond (.t 9)
 (.seq
 (.reg [⟨(some 2), none, .mov (.c (.i .i64 0))⟩])
 (.pre (.norm false [2]) .ret))
 .skip))
 (.seq
 (.seq
 (.reg [⟨(some 10), none, .fad 0 (.t 3)⟩,
 ⟨(some 11), none, .load none (.t 10)⟩])
 (.cond (.t 11)
 (.seq
 (.reg [⟨(some 2), none, .mov (.c (.i .i64 (-1)))⟩])
 (.pre (.norm false [2]) .ret))
 .skip))
 (.seq
 (.reg [⟨(some 2), none, .mov (.c (.i .i64 1))⟩])
 (.pre (.norm false [2]) .ret))))))
def b26 : AX :=
 (.seq
 (.reg [⟨(some 1), none, .xop (.box 2) [(.t 0)]⟩,
 ⟨(some 2), none, .alloc [(.b false), (.sl [] .nl)]⟩])
 (.seq
 (.reg [⟨(some 3), none, .fad 0 (.t 1)⟩,
 ⟨(some 4), none, .load none (.t 3)⟩,
 ⟨(some 5), none, .un .not (.t 4)⟩,
 ⟨(some 6), none, .fad 1 (.t 1)⟩,
 ⟨(some 7), none, .load none (.t 6)⟩,
 ⟨(some 8), none, .build [(.b false), (.sl [] .nl)] [(0, 1, (.t 5)), (1, 1, (.t 7))]⟩,
 ⟨(some 9), none, .call 39 [(.t 8)]⟩,
 ⟨none, none, .store 2 (.t 2) (.t 9)⟩])
 (.pre (.norm false [2]) .ret)))
def b24 : AX :=
 (.seq
 (.reg [⟨(some 2), none, .xop (.box 2) [(.t 0)]⟩,
 ⟨(some 3), none, .xop (.box 2) [(.t 1)]⟩,
 ⟨(some 4), none, .alloc [(.b false), (.sl [] .nl)]⟩])
 (.seq
 (.seq
 (.reg [⟨(some 5), none, .fad 0 (.t 2)⟩,
 ⟨(some 6), none, .load none (.t 5)⟩,
 ⟨(some 7), none, .fad 0 (.t 3)⟩,
 ⟨(some 8), none, .load none (.t 7)⟩,
 ⟨(some 9), none, .eqb false (.t 6) (.t 8)⟩])
 (.cond (.t 9)
 (.seq
 (.drawT [⟨(some 10), none, .fad 0 (.t 2)⟩,
 ⟨(some 11), none, .load none (.t 10)⟩,
 ⟨(some 12), none, .fad 1 (.t 2)⟩,
 ⟨(some 13), none, .load none (.t 12)⟩,
 ⟨(some 14), none, .fad 1 (.t 3)⟩,
 ⟨(some 15), none, .load none (.t 14)⟩,
 ⟨(some 16), none, .call 58 [(.t 13), (.t 15)]⟩]
 [⟨(some 17), none, .build [(.b false), (.sl [] .nl)] [(0, 1, (.t 11)), (1, 1, (.t 16))]⟩,
 ⟨(some 18), none, .call 39 [(.t 17)]⟩,
 ⟨none, none, .store 2 (.t 4) (.t 18)⟩])
 (.pre (.norm false [4]) .ret))
 .skip))
 (.seq
 (.seq
 (.reg [⟨(some 19), none, .fad 1 (.t 2)⟩,
 ⟨(some 20), none, .load none (.t 19)⟩,
 ⟨(some 21), none, .fad 1 (.t 3)⟩,
 ⟨(some 22), none, .load none (.t 21)⟩,
 ⟨(some 23), none, .call 52 [(.t 20), (.t 22)]⟩,
 ⟨(some 24), none, .bin .lss (.t 23) (.c (.i .i64 0))⟩])
 (.cond (.t 24)
 (.seq
 (.drawT [⟨(some 25), none, .fad 0 (.t 3)⟩,
 ⟨(some 26), none, .load none (.t 25)⟩,
 ⟨(some 27), none, .fad 1 (.t 3)⟩,
 ⟨(some 28), none, .load none (.t 27)⟩,
 ⟨(some 29), none, .fad 1 (.t 2)⟩,
 ⟨(some 30), none, .load none (.t 29)⟩,
 ⟨(some 31), none, .call 59 [(.t 28), (.t 30)]⟩]
 [⟨(some 32), none, .build [(.b false), (.sl [] .nl)] [(0, 1, (.t 26)), (1, 1, (.t 31))]⟩,
 ⟨(some 33), none, .call 39 [(.t 32)]⟩,
 ⟨none, none, .store 2 (.t 4) (.t 33)⟩])
 (.pre (.norm false [4]) .ret))
 .skip))
 (.seq
 (.drawT [⟨(some 34), none, .fad 0 (.t 2)⟩,
 ⟨(some 35), none, .load none (.t 34)⟩,
 ⟨(some 36), none, .fad 1 (.t 2)⟩,
 ⟨(some 37), none, .load none (.t 36)⟩,
 ⟨(some 38), none, .fad 1 (.t 3)⟩,
 ⟨(some 39), none, .load none (.t 38)⟩,
 ⟨(some 40), none, .call 59 [(.t 37), (.t 39)]⟩]
 [⟨(some 41), none, .build [(.b false), (.sl [] .nl)] [(0, 1, (.t 35)), (1, 1, (.t 40))]⟩,
 ⟨(some 42), none, .call 39 [(.t 41)]⟩,
 ⟨none, none, .store 2 (.t 4) (.t 42)⟩])
 (.pre (.norm false [4]) .ret)))))
def b28 : AX :=
 (.seq
 (.reg [⟨(some 2), none, .xop (.box 2) [(.t 0)]⟩,
 ⟨(some 3), none, .xop (.box 2) [(.t 1)]⟩,
 ⟨(some 4), none, .alloc [(.b false), (.sl [] .nl)]⟩])
 (.seq
 (.drawT [⟨(some 5), none, .fad 0 (.t 2)⟩,
 ⟨(some 6), none, .load none (.t 5)⟩,
 ⟨(some 7), none, .fad 0 (.t 3)⟩,
 ⟨(some 8), none, .load none (.t 7)⟩,
 ⟨(some 9), none, .eqb true (.t 6) (.t 8)⟩,
 ⟨(some 10), none, .fad 1 (.t 2)⟩,
 ⟨(some 11), none, .load none (.t 10)⟩,
 ⟨(some 12), none, .fad 1 (.t 3)⟩,
 ⟨(some 13), none, .load none (.t 12)⟩,
 ⟨(some 14), none, .call 61 [(.t 11), (.t 13)]⟩]
 [⟨(some 15), none, .build [(.b false), (.sl [] .nl)] [(0, 1, (.t 9)), (1, 1, (.t 14))]⟩,
 ⟨(some 16), none, .call 39 [(.t 15)]⟩,
 ⟨none, none, .store 2 (.t 4) (.t 16)⟩])
 (.pre (.norm false [4]) .ret)))
def b31 : AX :=
 (.seq
 (.reg [⟨(some 2), none, .xop (.box 2) [(.t 0)]⟩,
 ⟨(some 3), none, .xop (.box 2) [(.t 1)]⟩,
 ⟨(some 4), none, .alloc [(.b false), (.sl [] .nl)]⟩,
 ⟨(some 5), none, .alloc [(.b false), (.sl [] .nl)]⟩])
 (.seq
 (.reg [⟨(some 10), none, .fad 1 (.t 2)⟩,
 ⟨(some 11), none, .load none (.t 10)⟩,
 ⟨(some 12), none, .fad 1 (.t 3)⟩,
 ⟨(some 13), none, .load none (.t 12)⟩,
 ⟨(some 14), none, .call 63 [(.t 11), (.t 13)]⟩,
 ⟨(some 9), none, .mov (.t 14)⟩,
 ⟨(some 15), none, .ext (.t 9) 0⟩,
 ⟨(some 16), none, .ext (.t 9) 1⟩,
 ⟨(some 6), none, .mov (.t 15)⟩,
 ⟨(some 7), none, .mov (.t 16)⟩])
 (.seq
 (.seq
 (.reg [⟨(some 17), none, .fad 0 (.t 2)⟩,
 ⟨(some 18), none, .load none (.t 17)⟩,
 ⟨(some 19), none, .fad 0 (.t 3)⟩,
 ⟨(some 20), none, .load none (.t 19)⟩,
 ⟨(some 21), none, .eqb true (.t 18) (.t 20)⟩,
 ⟨(some 22), none, .mov (.t 21)⟩,
 ⟨(some 23), (some (22, true)), .mov (.t 7)⟩,
 ⟨(some 24), (some (22, true)), .len (.t 23)⟩,
 ⟨(some 25), (some (22, true)), .bin .gtr (.t 24) (.c (.i .i64 0))⟩,
 ⟨(some 26), none, .pick (.t 22) (.t 25) (.c (.b false))⟩])
 (.cond (.t 26)
 (.reg [⟨(some 27), none, .mov (.t 6)⟩,
 ⟨(some 28), none, .bsl 1 [(u32 0)] 1 [(0, (.c (u32 1)))]⟩,
 ⟨(some 29), none, .call 58 [(.t 27), (.t 28)]⟩,
 ⟨(some 6), none, .mov (.t 29)⟩])
 .skip))
 (.seq
 (.reg [⟨(some 30), none, .fad 0 (.t 2)⟩,
 ⟨(some 31), none, .load none (.t 30)⟩,
 ⟨(some 32), none, .fad 0 (.t 3)⟩,
 ⟨(some 33), none, .load none (.t 32)⟩,
 ⟨(some 34), none, .eqb true (.t 31) (.t 33)⟩,
 ⟨(some 35), none, .mov (.t 6)⟩,
 ⟨(some 36), none, .build [(.b false), (.sl [] .nl)] [(0, 1, (.t 34)), (1, 1, (.t 35))]⟩,
 ⟨(some 37), none, .call 39 [(.t 36)]⟩,
 ⟨(some 8), none, .alloc [(.b false), (.sl [] .nl)]⟩,
 ⟨none, none, .store 2 (.t 8) (.t 37)⟩])
 (.seq
 (.drawT [⟨(some 38), none, .load (some 2) (.t 8)⟩,
 ⟨(some 39), none, .load (some 2) (.t 2)⟩,
 ⟨(some 40), none, .load (some 2) (.t 8)⟩,
 ⟨(some 41), none, .load (some 2) (.t 3)⟩,
 ⟨(some 42), none, .call 28 [(.t 40), (.t 41)]⟩,
 ⟨(some 43), none, .call 26 [(.t 42)]⟩,
 ⟨(some 44), none, .call 24 [(.t 39), (.t 43)]⟩]
 [⟨none, none, .store 2 (.t 4) (.t 38)⟩,
 ⟨none, none, .store 2 (.t 5) (.t 44)⟩])
 (.pre (.norm false [4, 5]) .ret))))))
def b35 : AX :=
 (.seq
 (.reg [⟨(some 1), none, .xop (.box 2) [(.t 0)]⟩,
 ⟨(some 2), none, .mov (.c (.s []))⟩])
 (.seq
 (.reg [⟨(some 4), none, .fad 1 (.t 1)⟩,
 ⟨(some 5), none, .load none (.t 4)⟩,
 ⟨(some 6), none, .call 69 [(.t 5)]⟩,
 ⟨(some 3), none, .mov (.t 6)⟩])
 (.seq
 (.seq
 (.reg [⟨(some 7), none, .load (some 2) (.t 1)⟩,
 ⟨(some 8), none, .call 30 [(.t 7)]⟩,
 ⟨(some 9), none, .bin .lss (.t 8) (.c (.i .i64 0))⟩])
 (.cond (.t 9)
 (.reg [⟨(some 10), none, .mov (.t 3)⟩,
 ⟨(some 11), none, .bin .add (.c (.s [45])) (.t 10)⟩,
 ⟨(some 3), none, .mov (.t 11)⟩])
 .skip))
 (.seq
 (.reg [⟨(some 12), none, .mov (.t 3)⟩,
 ⟨(some 2), none, .mov (.t 12)⟩])
 (.pre (.norm false [2]) .ret)))))
def b33 : AX :=
 (.seq
 (.reg [⟨(some 2), none, .alloc [(.b false), (.sl [] .nl)]⟩,
 ⟨(some 3), none, .mov (.c (.i .i64 0))⟩])
 (.seq
 (.reg [⟨(some 7), none, .mov (.t 0)⟩,
 ⟨(some 8), none, .lens (.t 7)⟩,
 ⟨(some 9), none, .bin .gtr (.t 8) (.c (.i .i64 0))⟩,
 ⟨(some 10), none, .mov (.t 9)⟩,
 ⟨(some 11), (some (10, true)), .mov (.t 0)⟩,
 ⟨(some 12), (some (10, true)), .ixs (.t 11) (.c (.i .i64 0))⟩,
 ⟨(some 13), (some (10, true)), .bin .eql (.t 12) (.c (u8 45))⟩,
 ⟨(some 14), none, .pick (.t 10) (.t 13) (.c (.b false))⟩,
 ⟨(some 4), none, .mov (.t 14)⟩])
 (.seq
 (.reg [⟨(some 5), none, .mov (.c (.i .i64 0))⟩])
 (.seq
 (.seq
 (.reg [⟨(some 15), none, .mov (.t 4)⟩])
 (.cond (.t 15)
 (.reg [⟨(some 5), none, .mov (.c (.i .i64 1))⟩])
 .skip))
 (.seq
 (.reg [⟨(some 16), none, .mov (.t 0)⟩,
 ⟨(some 17), none, .mov (.t 5)⟩,
 ⟨(some 18), none, .slstr (.t 16) (some (.t 17)) none⟩,
 ⟨(some 19), none, .call 66 [(.t 18)]⟩,
 ⟨(some 6), none, .mov (.t 19)⟩])
 (.seq
 (.seq
 (.reg [⟨(some 20), none, .mov (.t 6)⟩,
 ⟨(some 21), none, .bin .geq (.t 20) (.c (.i .i64 0))⟩])
 (.cond (.t 21)
 (.seq
 (.reg [⟨(some 22), none, .build [(.b false), (.sl [] .nl)] []⟩,
 ⟨(some 23), none, .mov (.t 5)⟩,
 ⟨(some 24), none, .mov (.t 6)⟩,
 ⟨(some 25), none, .bin .add (.t 23) (.t 24)⟩,
 ⟨none, none, .store 2 (.t 2) (.t 22)⟩,
 ⟨(some 3), none, .mov (.t 25)⟩])
 (.pre (.norm false [2, 3]) .ret))
 .skip))
 (.seq
 (.reg [⟨(some 26), none, .mov (.t 4)⟩,
 ⟨(some 27), none, .mov (.t 0)⟩,
 ⟨(some 28), none, .mov (.t 5)⟩,
 ⟨(some 29), none, .slstr (.t 27) (some (.t 28)) none⟩,
 ⟨(some 30), none, .call 67 [(.t 29)]⟩,
 ⟨(some 31), none, .build [(.b false), (.sl [] .nl)] [(0, 1, (.t 26)), (1, 1, (.t 30))]⟩,
 ⟨(some 32), none, .call 39 [(.t 31)]⟩,
 ⟨none, none, .store 2 (.t 2) (.t 32)⟩,
 ⟨(some 3), none, .mov (.c (.i .i64 (-1)))⟩])
 (.pre (.norm false [2, 3]) .ret))))))))
class CRef08 (T : Tbl) : Prop extends CRef07 T where
 h39 : T 39 = some ⟨1, 16, [.cell 2 (some 2)], b39, none, false⟩
 h21 : T 21 = some ⟨2, 17, [.t 4], b21, none, false⟩
 h30 : T 30 = some ⟨1, 12, [.t 2], b30, none, false⟩
 h26 : T 26 = some ⟨1, 10, [.cell 2 (some 2)], b26, none, false⟩
 h24 : T 24 = some ⟨2, 43, [.cell 4 (some 2)], b24, none, false⟩
 h28 : T 28 = some ⟨2, 17, [.cell 4 (some 2)], b28, none, false⟩
 h31 : T 31 = some ⟨2, 45, [.cell 4 (some 2), .cell 5 (some 2)], b31, none, false⟩
 h35 : T 35 = some ⟨1, 13, [.t 2], b35, none, false⟩
 h33 : T 33 = some ⟨1, 33, [.cell 2 (some 2), .t 3], b33, none, false⟩
section
variable {T : Tbl} [CRef08 T] {d : Option Nat} {st : St}
@[simp] theorem x39 (xs : List AV) : callX (orc T) T 39 xs d st = bL (frzL st.heap xs) fun ys => cR (callF T 39 (ys.map (wkIf false))) xs d st := callX_pure CRef08.h39
theorem f39 (xs : List AV) (hn : xs.length = 1) : callF T 39 xs = retF [.cell 2 (some 2)] false (evX (orc T) T 0 b39 ⟨argEnv xs, [], 1⟩) := callF_eq CRef08.h39 hn
@[simp] theorem x21 (xs : List AV) : callX (orc T) T 21 xs d st = bL (frzL st.heap xs) fun ys => cR (callF T 21 (ys.map (wkIf false))) xs d st := callX_pure CRef08.h21
@[simp] theorem x30 (xs : List AV) : callX (orc T) T 30 xs d st = bL (frzL st.heap xs) fun ys => cR (callF T 30 (ys.map (wkIf false))) xs d st := callX_pure CRef08.h30
@[simp] theorem x26 (xs : List AV) : callX (orc T) T 26 xs d st = bL (frzL st.heap xs) fun ys => cR (callF T 26 (ys.map (wkIf false))) xs d st := callX_pure CRef08.h26
@[simp] theorem x24 (xs : List AV) : callX (orc T) T 24 xs d st = bL (frzL st.heap xs) fun ys => cR (callF T 24 (ys.map (wkIf false))) xs d st := callX_pure CRef08.h24
@[simp] theorem x28 (xs : List AV) : callX (orc T) T 28 xs d st = bL (frzL st.heap xs) fun ys => cR (callF T 28 (ys.map (wkIf false))) xs d st := callX_pure CRef08.h28
@[simp] theorem x31 (xs : List AV) : callX (orc T) T 31 xs d st = bL (frzL st.heap xs) fun ys => cR (callF T 31 (ys.map (wkIf false))) xs d st := callX_pure CRef08.h31
@[simp] theorem x35 (xs : List AV) : callX (orc T) T 35 xs d st = bL (frzL st.heap xs) fun ys => cR (callF T 35 (ys.map (wkIf false))) xs d st := callX_pure CRef08.h35
@[simp] theorem x33 (xs : List AV) : callX (orc T) T 33 xs d st = bL (frzL st.heap xs) fun ys => cR (callF T 33 (ys.map (wkIf false))) xs d st := callX_pure CRef08.h33
theorem f33 (xs : List AV) (hn : xs.length = 1) : callF T 33 xs = retF [.cell 2 (some 2), .t 3] false (evX (orc T) T 0 b33 ⟨argEnv xs, [], 1⟩) := callF_eq CRef08.h33 hn
end
end Go.Ab
end

section
namespace Go.Ab
def b231 : AX :=
 (.seq
 (.reg [rg 1 (.xop (.box 3) [(.t 0)]), rg 2 (.alloc [(.b false), (.sl [] .nl), (.sl [] .nl)])])
 (.seq
 (.reg [rg 6 (.fad 2 (.t 1)), rg 7 (.load none (.t 6)), rg 8 (.call 43 [(.t 7)]), mv 3 8])
 (.seq
 (.reg [rg 9 (.fad 1 (.t 1)), rg 10 (.load none (.t 9)), rg 11 (.call 43 [(.t 10)]), mv 4 11])
 (.seq
 (.seq
 (.reg [mv 12 3, rg 13 (.len (.t 12)), rg 14 (.bin .eql (.t 13) (.c (.i .i64 0))), mv 15 14, gd 16 15 false (.mov (.t 4)), gd 17 15 false (.len (.t 16)),
 gd 18 15 false (.bin .eql (.t 17) (.c (.i .i64 0))), rg 19 (.pick (.t 15) (.c (.b true)) (.t 18))])
 (.cond (.t 19)
 (.seq
 (.reg [rg 20 (.bsl 1 [(u32 0)] 0 []), rg 21 (.bsl 1 [(u32 0)] 1 [(0, (.c (u32 1)))]),
 rg 22 (.build [(.b false), (.sl [] .nl), (.sl [] .nl)] [(1, 1, (.t 20)), (2, 1, (.t 21))]), so (.store 3 (.t 2) (.t 22))])
 (.pre (.norm false [2]) .ret))
 .skip))
 (.seq
 (.seq
 (.reg [mv 23 3, rg 24 (.call 229 [(.t 23)]), rg 25 (.un .not (.t 24))])
 (.cond (.t 25)
 (.seq
 (.reg [mv 26 4, mv 27 3, rg 28 (.call 228 [(.t 26), (.t 27)]), mv 5 28])
 (.seq
 (.reg [mv 29 4, mv 30 5, rg 31 (.call 230 [(.t 29), (.t 30)]), mv 4 31])
 (.reg [mv 32 3, mv 33 5, rg 34 (.call 230 [(.t 32), (.t 33)]), mv 3 34])))
 .skip))
 (.seq
 (.reg [rg 35 (.fad 0 (.t 1)), rg 36 (.load none (.t 35)), mv 37 4, mv 38 3,
 rg 39 (.build [(.b false), (.sl [] .nl), (.sl [] .nl)] [(0, 1, (.t 36)), (1, 1, (.t 37)), (2, 1, (.t 38))]), so (.store 3 (.t 2) (.t 39))])
 (.pre (.norm false [2]) .ret)))))))
def b232 : AX :=
 (.seq
 (.reg [rg 2 (.alloc [(.b false), (.sl [] .nl), (.sl [] .nl)])])
 (.seq
 (.seq
 (.reg [mv 3 0, rg 4 (.bin .lss (.t 3) (.c (.i .i64 0)))])
 (.cond (.t 4)
 (.seq
 (.reg [mv 5 0, rg 6 (.bin .add (.t 5) (.c (.i .i64 1))), rg 7 (.un .neg (.t 6)), rg 8 (.conv .u64 (.t 7)), rg 9 (.call 353 [(.t 8)]),
 rg 10 (.bsl 1 [(u32 0)] 1 [(0, (.c (u32 1)))]), rg 11 (.call 58 [(.t 9), (.t 10)]), rg 12 (.bsl 1 [(u32 0)] 1 [(0, (.c (u32 1)))]),
 rg 13 (.build [(.b false), (.sl [] .nl), (.sl [] .nl)] [(0, 1, (.c (.b true))), (1, 1, (.t 11)), (2, 1, (.t 12))]), rg 14 (.call 231 [(.t 13)]),
 so (.store 3 (.t 2) (.t 14))])
 (.pre (.norm false [2]) .ret))
 .skip))
 (.seq
 (.reg [mv 15 0, rg 16 (.conv .u64 (.t 15)), rg 17 (.call 353 [(.t 16)]), rg 18 (.bsl 1 [(u32 0)] 1 [(0, (.c (u32 1)))]),
 rg 19 (.build [(.b false), (.sl [] .nl), (.sl [] .nl)] [(1, 1, (.t 17)), (2, 1, (.t 18))]), rg 20 (.call 231 [(.t 19)]), so (.store 3 (.t 2) (.t 20))])
 (.pre (.norm false [2]) .ret))))
def b233 : AX :=
 (.seq
 (.reg [rg 2 (.xop (.box 3) [(.t 0)]), rg 3 (.xop (.box 3) [(.t 1)]), rg 4 (.mov (.c (.b false)))])
 (.seq
 (.reg [rg 5 (.fad 0 (.t 2)), rg 6 (.load none (.t 5)), rg 7 (.fad 0 (.t 3)), rg 8 (.load none (.t 7)), rg 9 (.eqb false (.t 6) (.t 8)), mv 10 9,
 gd 11 10 true (.fad 1 (.t 2)), gd 12 10 true (.load none (.t 11)), gd 13 10 true (.fad 1 (.t 3)), gd 14 10 true (.load none (.t 13)),
 gd 15 10 true (.call 54 [(.t 12), (.t 14)]), rg 16 (.pick (.t 10) (.t 15) (.c (.b false))), mv 17 16, gd 18 17 true (.fad 2 (.t 2)),
 gd 19 17 true (.load none (.t 18)), gd 20 17 true (.fad 2 (.t 3)), gd 21 17 true (.load none (.t 20)), gd 22 17 true (.call 54 [(.t 19), (.t 21)]),
 rg 23 (.pick (.t 17) (.t 22) (.c (.b false))), mv 4 23])
 (.pre (.norm false [4]) .ret)))
def b247 : AX :=
 (.seq
 (.reg [rg 2 (.xop (.box 3) [(.t 0)]), rg 4 (.mov (.c (.b false)))])
 (.seq
 (.reg [rg 5 (.fad 1 (.t 2)), rg 6 (.load none (.t 5)), rg 7 (.len (.t 6)), mv 8 1, rg 9 (.bin .gtr (.t 7) (.t 8)), mv 10 9, gd 11 10 false (.fad 2 (.t 2)),
 gd 12 10 false (.load none (.t 11)), gd 13 10 false (.len (.t 12)), gd 14 10 false (.mov (.t 1)), gd 15 10 false (.bin .gtr (.t 13) (.t 14)),
 rg 16 (.pick (.t 10) (.c (.b true)) (.t 15)), mv 4 16])
 (.pre (.norm false [4]) .ret)))
def b353 : AX :=
 (.seq
 (.reg [rg 2 (.mov (.c (.sl [] .nl)))])
 (.seq
 (.reg [mv 3 0, rg 4 (.bin .rem (.t 3) (.c (u64 4294967296))), rg 5 (.conv .u32 (.t 4)), mv 6 0, rg 7 (.bin .quo (.t 6) (.c (u64 4294967296))),
 rg 8 (.conv .u32 (.t 7)), rg 9 (.bsl 1 [(u32 0)] 2 [(0, (.t 5)), (1, (.t 8))]), rg 10 (.call 43 [(.t 9)]), mv 2 10])
 (.pre (.norm false [2]) .ret)))
class CRef09 (T : Tbl) : Prop where
 h231 : T 231 = some ⟨1, 40, [.cell 2 (some 3)], b231, none, false⟩
 h232 : T 232 = some ⟨1, 21, [.cell 2 (some 3)], b232, none, false⟩
 h233 : T 233 = some ⟨2, 24, [.t 4], b233, none, false⟩
 h247 : T 247 = some ⟨2, 17, [.t 4], b247, none, false⟩
 h353 : T 353 = some ⟨1, 11, [.t 2], b353, none, false⟩
section
variable {T : Tbl} [CRef09 T] {d : Option Nat} {st : St} {xs : List AV} {ps : List Opd} {e : Env} {h : Heap} {ol : List Heap}
@[simp] theorem x231 : callX (orc T) T 231 xs d st = cP T 231 false xs d st := callX_pure CRef09.h231
theorem f231 (xs : List AV) (hn : xs.length = 1) : callF T 231 xs = retF [.cell 2 (some 3)] false (evX (orc T) T 0 b231 ⟨argEnv xs, [], 1⟩) := callF_eq CRef09.h231 hn
@[simp] theorem x232 : callX (orc T) T 232 xs d st = cP T 232 false xs d st := callX_pure CRef09.h232
theorem f232 (xs : List AV) (hn : xs.length = 1) : callF T 232 xs = retF [.cell 2 (some 3)] false (evX (orc T) T 0 b232 ⟨argEnv xs, [], 1⟩) := callF_eq CRef09.h232 hn
@[simp] theorem x233 : callX (orc T) T 233 xs d st = cP T 233 false xs d st := callX_pure CRef09.h233
theorem f233 (xs : List AV) (hn : xs.length = 2) : callF T 233 xs = retF [.t 4] false (evX (orc T) T 0 b233 ⟨argEnv xs, [], 1⟩) := callF_eq CRef09.h233 hn
@[simp] theorem x353 : callX (orc T) T 353 xs d st = cP T 353 false xs d st := callX_pure CRef09.h353
theorem f353 (xs : List AV) (hn : xs.length = 1) : callF T 353 xs = retF [.t 2] false (evX (orc T) T 0 b353 ⟨argEnv xs, [], 1⟩) := callF_eq CRef09.h353 hn
end
end Go.Ab
end

section
namespace Go.Ab
def l260_0 : AX :=
 (.note
 (.seq
 (.seq
 (.reg [mv 6 4, mv 7 0, rg 8 (.bin .lss (.t 6) (.t 7))])
 (.cond (.t 8)
 .skip
 (.exit 0)))
 (.seq
 (.block 1
 (.reg [mv 11 3, rg 12 (.bsl 1 [(u32 0)] 1 [(0, (.c (u32 10)))]), rg 13 (.call 61 [(.t 11), (.t 12)]), mv 3 13]))
 (.reg [mv 9 4, rg 10 (.bin .add (.t 9) (.c (.i .i64 1))), mv 4 10])))
 (.norm false [0, 3, 4]))
def b260 : AX :=
 (.seq
 (.reg [rg 2 (.mov (.c (.sl [] .nl)))])
 (.seq
 (.reg [rg 5 (.bsl 1 [(u32 0)] 1 [(0, (.c (u32 1)))]), mv 3 5])
 (.seq
 (.seq
 (.reg [rg 4 (.mov (.c (.i .i64 0)))])
 (.lp 0 (.norm false [0, 3, 4]) l260_0 (.norm false [3])))
 (.seq
 (.reg [mv 14 3, mv 2 14])
 (.pre (.norm false [2]) .ret)))))
def l261_0 : AX :=
 (.note
 (.seq
 (.seq
 (.reg [mv 11 5, mv 12 0, rg 13 (.lens (.t 12)), rg 14 (.bin .lss (.t 11) (.t 13)), mv 15 14, gd 16 15 true (.mov (.t 0)), gd 17 15 true (.mov (.t 5)),
 gd 18 15 true (.ixs (.t 16) (.t 17)), gd 19 15 true (.bin .neq (.t 18) (.c (u8 47))), rg 20 (.pick (.t 15) (.t 19) (.c (.b false))), mv 21 20,
 gd 22 21 true (.mov (.t 0)), gd 23 21 true (.mov (.t 5)), gd 24 21 true (.ixs (.t 22) (.t 23)), gd 25 21 true (.bin .neq (.t 24) (.c (u8 46))),
 rg 26 (.pick (.t 21) (.t 25) (.c (.b false)))])
 (.cond (.t 26)
 .skip
 (.exit 0)))
 (.block 1
 (.reg [mv 27 5, rg 28 (.bin .add (.t 27) (.c (.i .i64 1))), mv 5 28])))
 (.norm false [0, 2, 5]))
def b261 : AX :=
 (.seq
 (.reg [rg 2 (.alloc [(.b false), (.sl [] .nl), (.sl [] .nl)]), rg 3 (.mov (.c (.i .i64 0))), rg 4 (.mov (.c (.i .i64 0)))])
 (.seq
 (.reg [rg 5 (.mov (.c (.i .i64 0)))])
 (.seq
 (.lp 0 (.norm false [0, 2, 5]) l261_0 (.norm false [0, 2, 5]))
 (.seq
 (.reg [mv 30 0, mv 31 5, rg 32 (.slstr (.t 30) none (some (.t 31))), rg 33 (.call 33 [(.t 32)]), mv 29 33, rg 34 (.ext (.t 29) 0), rg 35 (.ext (.t 29) 1),
 rg 6 (.alloc [(.b false), (.sl [] .nl)]), so (.store 2 (.t 6) (.t 34)), mv 7 35])
 (.seq
 (.seq
 (.reg [mv 36 7, rg 37 (.bin .geq (.t 36) (.c (.i .i64 0)))])
 (.cond (.t 37)
 (.seq
 (.reg [rg 38 (.call 232 [(.c (.i .i64 0))]), mv 39 7, so (.store 3 (.t 2) (.t 38)), rg 3 (.mov (.c (.i .i64 1))), mv 4 39])
 (.pre (.norm false [2, 3, 4]) .ret))
 .skip))
 (.seq
 (.seq
 (.reg [mv 40 5, mv 41 0, rg 42 (.lens (.t 41)), rg 43 (.bin .eql (.t 40) (.t 42))])
 (.cond (.t 43)
 (.seq
 (.reg [rg 44 (.fad 0 (.t 6)), rg 45 (.load none (.t 44)), rg 46 (.fad 1 (.t 6)), rg 47 (.load none (.t 46)), rg 48 (.bsl 1 [(u32 0)] 1 [(0, (.c (u32 1)))]),
 rg 49 (.build [(.b false), (.sl [] .nl), (.sl [] .nl)] [(0, 1, (.t 45)), (1, 1, (.t 47)), (2, 1, (.t 48))]), rg 50 (.call 231 [(.t 49)]),
 so (.store 3 (.t 2) (.t 50)), rg 3 (.mov (.c (.i .i64 0))), rg 4 (.mov (.c (.i .i64 0)))])
 (.pre (.norm false [2, 3, 4]) .ret))
 .skip))
 (.seq
 (.reg [mv 51 0, mv 52 5, rg 53 (.bin .add (.t 52) (.c (.i .i64 1))), rg 54 (.slstr (.t 51) (some (.t 53)) none), mv 8 54])
 (.seq
 (.reg [mv 55 8, rg 56 (.call 66 [(.t 55)]), mv 7 56])
 (.seq
 (.seq
 (.reg [mv 57 7, rg 58 (.bin .geq (.t 57) (.c (.i .i64 0)))])
 (.cond (.t 58)
 (.seq
 (.reg [rg 59 (.call 232 [(.c (.i .i64 0))]), mv 60 5, rg 61 (.bin .add (.t 60) (.c (.i .i64 1))), mv 62 7, rg 63 (.bin .add (.t 61) (.t 62)),
 so (.store 3 (.t 2) (.t 59)), rg 3 (.mov (.c (.i .i64 1))), mv 4 63])
 (.pre (.norm false [2, 3, 4]) .ret))
 .skip))
 (.seq
 (.reg [mv 64 8, rg 65 (.call 67 [(.t 64)]), mv 9 65])
 (.seq
 (.seq
 (.reg [mv 66 0, mv 67 5, rg 68 (.ixs (.t 66) (.t 67)), rg 69 (.bin .eql (.t 68) (.c (u8 46)))])
 (.cond (.t 69)
 (.seq
 (.drawT [rg 70 (.fad 1 (.t 6)), rg 71 (.load none (.t 70)), mv 72 8, rg 73 (.lens (.t 72)), rg 74 (.call 260 [(.t 73)]), rg 75 (.call 61 [(.t 71), (.t 74)]),
 mv 76 9]
 [rg 77 (.call 58 [(.t 75), (.t 76)]), mv 10 77])
 (.seq
 (.drawT [mv 78 0, rg 79 (.ixs (.t 78) (.c (.i .i64 0))), rg 80 (.bin .eql (.t 79) (.c (u8 45))), mv 81 10, mv 82 8, rg 83 (.lens (.t 82)),
 rg 84 (.call 260 [(.t 83)])]
 [rg 85 (.build [(.b false), (.sl [] .nl), (.sl [] .nl)] [(0, 1, (.t 80)), (1, 1, (.t 81)), (2, 1, (.t 84))]), rg 86 (.call 231 [(.t 85)]),
 so (.store 3 (.t 2) (.t 86)), rg 3 (.mov (.c (.i .i64 0))), rg 4 (.mov (.c (.i .i64 0)))])
 (.pre (.norm false [2, 3, 4]) .ret)))
 .skip))
 (.seq
 (.seq
 (.reg [mv 87 9, rg 88 (.len (.t 87)), rg 89 (.bin .eql (.t 88) (.c (.i .i64 0)))])
 (.cond (.t 89)
 (.seq
 (.reg [rg 90 (.call 232 [(.c (.i .i64 0))]), mv 91 5, rg 92 (.bin .add (.t 91) (.c (.i .i64 1))), so (.store 3 (.t 2) (.t 90)), rg 3 (.mov (.c (.i .i64 2))),
 mv 4 92])
 (.pre (.norm false [2, 3, 4]) .ret))
 .skip))
 (.seq
 (.reg [rg 93 (.fad 0 (.t 6)), rg 94 (.load none (.t 93)), rg 95 (.fad 1 (.t 6)), rg 96 (.load none (.t 95)), mv 97 9,
 rg 98 (.build [(.b false), (.sl [] .nl), (.sl [] .nl)] [(0, 1, (.t 94)), (1, 1, (.t 96)), (2, 1, (.t 97))]), rg 99 (.call 231 [(.t 98)]),
 so (.store 3 (.t 2) (.t 99)), rg 3 (.mov (.c (.i .i64 0))), rg 4 (.mov (.c (.i .i64 0)))])
 (.pre (.norm false [2, 3, 4]) .ret))))))))))))))
class CRef10 (T : Tbl) : Prop where
 h260 : T 260 = some ⟨1, 15, [.t 2], b260, none, false⟩
 h261 : T 261 = some ⟨1, 100, [.cell 2 (some 3), .t 3, .t 4], b261, none, false⟩
section
variable {T : Tbl} [CRef10 T] {d : Option Nat} {st : St} {xs : List AV} {ps : List Opd} {e : Env} {h : Heap} {ol : List Heap}
@[simp] theorem y260 : opD (orc T) T (.call 260 ps) e h ol = dP T 260 false ps e := opD_call CRef10.h260
theorem f260 (xs : List AV) (hn : xs.length = 1) : callF T 260 xs = retF [.t 2] false (evX (orc T) T 0 b260 ⟨argEnv xs, [], 1⟩) := callF_eq CRef10.h260 hn
@[simp] theorem x261 : callX (orc T) T 261 xs d st = cP T 261 false xs d st := callX_pure CRef10.h261
theorem f261 (xs : List AV) (hn : xs.length = 1) : callF T 261 xs = retF [.cell 2 (some 3), .t 3, .t 4] false (evX (orc T) T 0 b261 ⟨argEnv xs, [], 1⟩) := callF_eq CRef10.h261 hn
end
end Go.Ab
end

section
namespace Go.Ab
class CRef11 (T : Tbl) : Prop where
end Go.Ab
end

section
namespace Go.Ab
def b248 : AX :=
 (.seq
 (.reg [rg 1 (.xop (.box 3) [(.t 0)]), rg 2 (.alloc [(.b false), (.sl [] .nl), (.sl [] .nl)])])
 (.seq
 (.reg [rg 3 (.fad 0 (.t 1)), rg 4 (.load none (.t 3)), rg 5 (.fad 1 (.t 1)), rg 6 (.load none (.t 5)),
 rg 7 (.build [(.b false), (.sl [] .nl)] [(0, 1, (.t 4)), (1, 1, (.t 6))]), rg 8 (.fad 2 (.t 1)), rg 9 (.load none (.t 8)),
 rg 10 (.build [(.b false), (.sl [] .nl), (.sl [] .nl)] [(0, 2, (.t 7)), (2, 1, (.t 9))]), so (.store 3 (.t 2) (.t 10))])
 (.pre (.norm false [2]) .ret)))
def b249 : AX :=
 (.seq
 (.reg [rg 1 (.xop (.box 3) [(.t 0)]), rg 2 (.alloc [(.b false), (.sl [] .nl), (.sl [] .nl)])])
 (.seq
 (.reg [rg 3 (.fad 0 (.t 1)), rg 4 (.fad 0 (.t 3)), rg 5 (.load none (.t 4)), rg 6 (.fad 0 (.t 1)), rg 7 (.fad 1 (.t 6)), rg 8 (.load none (.t 7)),
 rg 9 (.fad 2 (.t 1)), rg 10 (.load none (.t 9)),
 rg 11 (.build [(.b false), (.sl [] .nl), (.sl [] .nl)] [(0, 1, (.t 5)), (1, 1, (.t 8)), (2, 1, (.t 10))]), so (.store 3 (.t 2) (.t 11))])
 (.pre (.norm false [2]) .ret)))
def b250 : AX :=
 (.seq
 (.reg [rg 2 (.xop (.box 3) [(.t 0)]), rg 3 (.xop (.box 3) [(.t 1)]), rg 4 (.mov (.c (.b false)))])
 (.seq
 (.drawT [rg 5 (.load (some 3) (.t 2)), rg 6 (.call 249 [(.t 5)]), rg 7 (.load (some 3) (.t 3))]
 [rg 8 (.call 233 [(.t 6), (.t 7)]), mv 4 8])
 (.pre (.norm false [4]) .ret)))
class CLaw09 (T : Tbl) : Prop where
 h248 : T 248 = some ⟨1, 11, [.cell 2 (some 3)], b248, none, false⟩
 h249 : T 249 = some ⟨1, 12, [.cell 2 (some 3)], b249, none, false⟩
 h250 : T 250 = some ⟨2, 9, [.t 4], b250, none, false⟩
section
variable {T : Tbl} [CLaw09 T] {d : Option Nat} {st : St} {xs : List AV} {ps : List Opd} {e : Env} {h : Heap} {ol : List Heap}
@[simp] theorem y249 : opD (orc T) T (.call 249 ps) e h ol = dP T 249 false ps e := opD_call CLaw09.h249
theorem f249 (xs : List AV) (hn : xs.length = 1) : callF T 249 xs = retF [.cell 2 (some 3)] false (evX (orc T) T 0 b249 ⟨argEnv xs, [], 1⟩) := callF_eq CLaw09.h249 hn
@[simp] theorem x250 : callX (orc T) T 250 xs d st = cP T 250 false xs d st := callX_pure CLaw09.h250
theorem f250 (xs : List AV) (hn : xs.length = 2) : callF T 250 xs = retF [.t 4] false (evX (orc T) T 0 b250 ⟨argEnv xs, [], 1⟩) := callF_eq CLaw09.h250 hn
end
end Go.Ab
end

section
namespace Go.Ab
class CLaw11 (T : Tbl) : Prop where
end Go.Ab
end

section
namespace Go.Ab
def b318 : AX :=
 (.seq
 (.reg [rg 2 (.mov (.c (.b false)))])
 (.seq
 (.seq
 (.reg [mv 8 0, rg 9 (.lens (.t 8)), rg 10 (.bin .gtr (.t 9) (.c (.i .i64 300)))])
 (.cond (.t 10)
 (.seq
 (.reg [rg 11 (.call 333 []), mv 2 11])
 (.pre (.norm false [2]) .ret))
 .skip))
 (.seq
 (.reg [mv 13 0, rg 14 (.call 256 [(.t 13)]), mv 12 14, rg 15 (.ext (.t 12) 0), rg 16 (.ext (.t 12) 1), rg 3 (.alloc [(.b false), (.sl [] .nl), (.sl [] .nl)]),
 rg 4 (.alloc [(.i .i64 0), (.i .i64 0), (.i .i64 0), (.i .i64 0)]), so (.store 3 (.t 3) (.t 15)), so (.store 4 (.t 4) (.t 16))])
 (.seq
 (.reg [mv 18 0, rg 19 (.call 261 [(.t 18)]), mv 17 19, rg 20 (.ext (.t 17) 0), rg 21 (.ext (.t 17) 1), rg 22 (.ext (.t 17) 2),
 rg 5 (.alloc [(.b false), (.sl [] .nl), (.sl [] .nl)]), so (.store 3 (.t 5) (.t 20)), mv 6 21, mv 7 22])
 (.seq
 (.reg [rg 23 (.load (some 3) (.t 3)), rg 24 (.load (some 3) (.t 5)), rg 25 (.call 250 [(.t 23), (.t 24)]), mv 26 25, gd 27 26 true (.load (some 4) (.t 4)),
 gd 28 26 true (.mov (.t 6)), gd 29 26 true (.mov (.t 7)),
 gd 30 26 true (.build [(.i .i64 0), (.i .i64 0), (.i .i64 0), (.i .i64 0)] [(0, 1, (.t 28)), (3, 1, (.t 29))]),
 gd 31 26 true (.eqs false [(0, .int), (1, .int), (2, .int), (3, .int)] (.t 27) (.t 30)), rg 32 (.pick (.t 26) (.t 31) (.c (.b false))), mv 33 32,
 gd 34 33 true (.call 333 []), rg 35 (.pick (.t 33) (.t 34) (.c (.b false))), mv 2 35])
 (.pre (.norm false [2]) .ret))))))
def b319 : AX :=
 (.seq
 (.reg [rg 2 (.xop (.box 3) [(.t 0)]), rg 4 (.mov (.c (.b false)))])
 (.seq
 (.seq
 (.reg [rg 12 (.load (some 3) (.t 2)), rg 13 (.call 247 [(.t 12), (.c (.i .i64 6))]), mv 14 13, gd 15 14 false (.mov (.t 1)), gd 16 14 false (.lens (.t 15)),
 gd 17 14 false (.bin .gtr (.t 16) (.c (.i .i64 200))), rg 18 (.pick (.t 14) (.c (.b true)) (.t 17))])
 (.cond (.t 18)
 (.seq
 (.reg [rg 19 (.call 333 []), mv 4 19])
 (.pre (.norm false [4]) .ret))
 .skip))
 (.seq
 (.reg [rg 20 (.load (some 3) (.t 2)), rg 21 (.call 248 [(.t 20)]), rg 22 (.call 207 [(.t 21)]), rg 5 (.alloc [(.b false), (.sl [] .nl), (.sl [] .nl)]),
 so (.store 3 (.t 5) (.t 22))])
 (.seq
 (.seq
 (.reg [rg 23 (.fad 0 (.t 5)), rg 24 (.fad 1 (.t 23)), rg 25 (.load none (.t 24)), rg 26 (.call 129 [(.t 25)]), rg 27 (.bin .leq (.t 26) (.c (.i .i64 60))),
 mv 28 27, gd 29 28 true (.fad 2 (.t 5)), gd 30 28 true (.load none (.t 29)), gd 31 28 true (.call 129 [(.t 30)]),
 gd 32 28 true (.bin .leq (.t 31) (.c (.i .i64 60))), rg 33 (.pick (.t 28) (.t 32) (.c (.b false)))])
 (.cond (.t 33)
 (.seq
 (.reg [rg 35 (.load (some 3) (.t 5)), rg 36 (.call 251 [(.t 35)]), rg 37 (.call 256 [(.t 36)]), mv 34 37, rg 38 (.ext (.t 34) 0), rg 39 (.ext (.t 34) 1),
 rg 6 (.alloc [(.b false), (.sl [] .nl), (.sl [] .nl)]), rg 7 (.alloc [(.i .i64 0), (.i .i64 0), (.i .i64 0), (.i .i64 0)]), so (.store 3 (.t 6) (.t 38)),
 so (.store 4 (.t 7) (.t 39))])
 (.seq
 (.reg [rg 40 (.load (some 4) (.t 7)), rg 41 (.build [(.i .i64 0), (.i .i64 0), (.i .i64 0), (.i .i64 0)] []),
 rg 42 (.eqs true [(0, .int), (1, .int), (2, .int), (3, .int)] (.t 40) (.t 41)), mv 43 42, gd 44 43 false (.load (some 3) (.t 6)),
 gd 45 43 false (.load (some 3) (.t 5)), gd 46 43 false (.call 212 [(.t 44), (.t 45)]), gd 47 43 false (.un .not (.t 46)),
 rg 48 (.pick (.t 43) (.c (.b true)) (.t 47))])
 (.cond (.t 48)
 (.seq
 (.reg [rg 4 (.mov (.c (.b false)))])
 (.pre (.norm false [4]) .ret))
 .skip)))
 .skip))
 (.seq
 (.reg [mv 50 1, rg 51 (.call 256 [(.t 50)]), mv 49 51, rg 52 (.ext (.t 49) 0), rg 53 (.ext (.t 49) 1), rg 8 (.alloc [(.b false), (.sl [] .nl), (.sl [] .nl)]),
 rg 9 (.alloc [(.i .i64 0), (.i .i64 0), (.i .i64 0), (.i .i64 0)]), so (.store 3 (.t 8) (.t 52)), so (.store 4 (.t 9) (.t 53))])
 (.seq
 (.seq
 (.reg [rg 54 (.load (some 4) (.t 9)), rg 55 (.build [(.i .i64 0), (.i .i64 0), (.i .i64 0), (.i .i64 0)] []),
 rg 56 (.eqs true [(0, .int), (1, .int), (2, .int), (3, .int)] (.t 54) (.t 55))])
 (.cond (.t 56)
 (.seq
 (.reg [rg 57 (.load (some 3) (.t 8)), rg 58 (.call 209 [(.t 57)]), rg 59 (.bin .eql (.t 58) (.c (.i .i64 0))), mv 60 59, gd 61 60 true (.call 333 []),
 rg 62 (.pick (.t 60) (.t 61) (.c (.b false))), mv 4 62])
 (.pre (.norm false [4]) .ret))
 .skip))
 (.seq
 (.seq
 (.reg [rg 63 (.fad 0 (.t 8)), rg 64 (.fad 1 (.t 63)), rg 65 (.load none (.t 64)), rg 66 (.call 129 [(.t 65)]), rg 67 (.bin .gtr (.t 66) (.c (.i .i64 60))),
 mv 68 67, gd 69 68 false (.fad 2 (.t 8)), gd 70 68 false (.load none (.t 69)), gd 71 68 false (.call 129 [(.t 70)]),
 gd 72 68 false (.bin .gtr (.t 71) (.c (.i .i64 60))), rg 73 (.pick (.t 68) (.c (.b true)) (.t 72))])
 (.cond (.t 73)
 (.seq
 (.reg [rg 74 (.call 333 []), mv 4 74])
 (.pre (.norm false [4]) .ret))
 .skip))
 (.seq
 (.reg [rg 76 (.load (some 3) (.t 8)), rg 77 (.call 251 [(.t 76)]), rg 78 (.call 256 [(.t 77)]), mv 75 78, rg 79 (.ext (.t 75) 0), rg 80 (.ext (.t 75) 1),
 rg 10 (.alloc [(.b false), (.sl [] .nl), (.sl [] .nl)]), rg 11 (.alloc [(.i .i64 0), (.i .i64 0), (.i .i64 0), (.i .i64 0)]),
 so (.store 3 (.t 10) (.t 79)), so (.store 4 (.t 11) (.t 80))])
 (.seq
 (.reg [rg 81 (.load (some 4) (.t 11)), rg 82 (.build [(.i .i64 0), (.i .i64 0), (.i .i64 0), (.i .i64 0)] []),
 rg 83 (.eqs false [(0, .int), (1, .int), (2, .int), (3, .int)] (.t 81) (.t 82)), mv 84 83, gd 85 84 true (.load (some 3) (.t 8)),
 gd 86 84 true (.load (some 3) (.t 10)), gd 87 84 true (.call 212 [(.t 85), (.t 86)]), rg 88 (.pick (.t 84) (.t 87) (.c (.b false))), mv 89 88,
 gd 90 89 true (.call 333 []), rg 91 (.pick (.t 89) (.t 90) (.c (.b false))), mv 4 91])
 (.pre (.norm false [4]) .ret))))))))))
def l320_0 : AX :=
 (.note
 (.seq
 (.seq
 (.reg [mv 38 10, mv 39 1, rg 40 (.bin .lss (.t 38) (.t 39))])
 (.cond (.t 40)
 .skip
 (.exit 0)))
 (.seq
 (.block 1
 (.drawT [rg 43 (.load (some 3) (.t 9)), rg 44 (.call 205 [(.c (.i .i64 10))])]
 [rg 45 (.call 217 [(.t 43), (.t 44)]), so (.store 3 (.t 9) (.t 45))]))
 (.reg [mv 41 10, rg 42 (.bin .add (.t 41) (.c (.i .i64 1))), mv 10 42])))
 (.norm false [1, 7, 9, 10]))
def b320 : AX :=
 (.seq
 (.reg [rg 2 (.xop (.box 3) [(.t 0)]), rg 4 (.mov (.c (.b false)))])
 (.seq
 (.seq
 (.reg [rg 11 (.load (some 3) (.t 2)), rg 12 (.call 247 [(.t 11), (.c (.i .i64 3))]), mv 13 12, gd 14 13 false (.mov (.t 1)),
 gd 15 13 false (.bin .lss (.t 14) (.c (.i .i64 0))), rg 16 (.pick (.t 13) (.c (.b true)) (.t 15)), mv 17 16, gd 18 17 false (.mov (.t 1)),
 gd 19 17 false (.bin .gtr (.t 18) (.c (.i .i64 20))), rg 20 (.pick (.t 17) (.c (.b true)) (.t 19))])
 (.cond (.t 20)
 (.seq
 (.reg [rg 21 (.call 333 []), mv 4 21])
 (.pre (.norm false [4]) .ret))
 .skip))
 (.seq
 (.reg [rg 22 (.load (some 3) (.t 2)), rg 23 (.call 248 [(.t 22)]), rg 5 (.alloc [(.b false), (.sl [] .nl), (.sl [] .nl)]), so (.store 3 (.t 5) (.t 23))])
 (.seq
 (.reg [rg 25 (.load (some 3) (.t 5)), mv 26 1, rg 27 (.call 257 [(.t 25), (.t 26)]), rg 28 (.call 256 [(.t 27)]), mv 24 28, rg 29 (.ext (.t 24) 0),
 rg 30 (.ext (.t 24) 1), rg 6 (.alloc [(.b false), (.sl [] .nl), (.sl [] .nl)]), rg 7 (.alloc [(.i .i64 0), (.i .i64 0), (.i .i64 0), (.i .i64 0)]),
 so (.store 3 (.t 6) (.t 29)), so (.store 4 (.t 7) (.t 30))])
 (.seq
 (.reg [rg 31 (.load (some 3) (.t 6)), rg 32 (.load (some 3) (.t 5)), rg 33 (.call 216 [(.t 31), (.t 32)]), rg 34 (.call 214 [(.t 33)]),
 rg 8 (.alloc [(.b false), (.sl [] .nl), (.sl [] .nl)]), so (.store 3 (.t 8) (.t 34))])
 (.seq
 (.reg [rg 35 (.load (some 3) (.t 8)), rg 36 (.load (some 3) (.t 8)), rg 37 (.call 215 [(.t 35), (.t 36)]),
 rg 9 (.alloc [(.b false), (.sl [] .nl), (.sl [] .nl)]), so (.store 3 (.t 9) (.t 37))])
 (.seq
 (.seq
 (.reg [rg 10 (.mov (.c (.i .i64 0)))])
 (.lp 0 (.norm false [1, 7, 9, 10]) l320_0 (.norm false [7, 9])))
 (.seq
 (.drawT [rg 46 (.load (some 4) (.t 7)), rg 47 (.build [(.i .i64 0), (.i .i64 0), (.i .i64 0), (.i .i64 0)] []),
 rg 48 (.eqs false [(0, .int), (1, .int), (2, .int), (3, .int)] (.t 46) (.t 47)), mv 49 48, gd 50 49 true (.load (some 3) (.t 9)),
 gd 51 49 true (.call 205 [(.c (.i .i64 1))])]
 [gd 52 49 true (.call 211 [(.t 50), (.t 51)]), gd 53 49 true (.bin .leq (.t 52) (.c (.i .i64 0))), rg 54 (.pick (.t 49) (.t 53) (.c (.b false))),
 mv 55 54, gd 56 55 true (.call 333 []), rg 57 (.pick (.t 55) (.t 56) (.c (.b false))), mv 4 57])
 (.pre (.norm false [4]) .ret)))))))))
def b333 : AX :=
 (.seq
 (.reg [rg 0 (.mov (.c (.b false)))])
 (.seq
 (.reg [rg 6 (.call 256 [(.c (.s [45, 49, 46, 50, 53]))]), mv 5 6, rg 7 (.ext (.t 5) 0), rg 8 (.ext (.t 5) 1),
 rg 1 (.alloc [(.b false), (.sl [] .nl), (.sl [] .nl)]), rg 2 (.alloc [(.i .i64 0), (.i .i64 0), (.i .i64 0), (.i .i64 0)]), so (.store 3 (.t 1) (.t 7)),
 so (.store 4 (.t 2) (.t 8))])
 (.seq
 (.reg [rg 10 (.call 256 [(.c (.s [49, 47, 48]))]), mv 9 10, rg 11 (.ext (.t 9) 0), rg 12 (.ext (.t 9) 1),
 rg 3 (.alloc [(.b false), (.sl [] .nl), (.sl [] .nl)]), rg 4 (.alloc [(.i .i64 0), (.i .i64 0), (.i .i64 0), (.i .i64 0)]), so (.store 3 (.t 3) (.t 11)),
 so (.store 4 (.t 4) (.t 12))])
 (.seq
 (.reg [rg 13 (.load (some 3) (.t 1)), rg 14 (.call 251 [(.t 13)]), rg 15 (.bin .eql (.t 14) (.c (.s [45, 53, 47, 52]))), mv 16 15,
 gd 17 16 true (.load (some 4) (.t 2)), gd 18 16 true (.build [(.i .i64 0), (.i .i64 0), (.i .i64 0), (.i .i64 0)] []),
 gd 19 16 true (.eqs false [(0, .int), (1, .int), (2, .int), (3, .int)] (.t 17) (.t 18)), rg 20 (.pick (.t 16) (.t 19) (.c (.b false))), mv 21 20,
 gd 22 21 true (.load (some 4) (.t 4)),
 gd 23 21 true (.build [(.i .i64 0), (.i .i64 0), (.i .i64 0), (.i .i64 0)] [(0, 1, (.c (.i .i64 2))), (3, 1, (.c (.i .i64 2)))]),
 gd 24 21 true (.eqs false [(0, .int), (1, .int), (2, .int), (3, .int)] (.t 22) (.t 23)), rg 25 (.pick (.t 21) (.t 24) (.c (.b false))), mv 26 25,
 gd 27 26 true (.load (some 3) (.t 1)), gd 28 26 true (.call 257 [(.t 27), (.c (.i .i64 1))]),
 gd 29 26 true (.bin .eql (.t 28) (.c (.s [45, 49, 46, 51]))), rg 30 (.pick (.t 26) (.t 29) (.c (.b false))), mv 0 30])
 (.pre (.norm false [0]) .ret)))))
class CLaw10 (T : Tbl) : Prop where
 h318 : T 318 = some ⟨1, 36, [.t 2], b318, none, false⟩
 h319 : T 319 = some ⟨2, 92, [.t 4], b319, none, false⟩
 h320 : T 320 = some ⟨2, 58, [.t 4], b320, none, false⟩
 h333 : T 333 = some ⟨0, 31, [.t 0], b333, none, false⟩
section
variable {T : Tbl} [CLaw10 T] {d : Option Nat} {st : St} {xs : List AV} {ps : List Opd} {e : Env} {h : Heap} {ol : List Heap}
theorem f318 (xs : List AV) (hn : xs.length = 1) : callF T 318 xs = retF [.t 2] false (evX (orc T) T 0 b318 ⟨argEnv xs, [], 1⟩) := callF_eq CLaw10.h318 hn
@[simp] theorem x333 : callX (orc T) T 333 xs d st = cP T 333 false xs d st := callX_pure CLaw10.h333
theorem f333 (xs : List AV) (hn : xs.length = 0) : callF T 333 xs = retF [.t 0] false (evX (orc T) T 0 b333 ⟨argEnv xs, [], 1⟩) := callF_eq CLaw10.h333 hn
end
end Go.Ab
end

section
namespace Go.Ab
def b129 : AX :=
 (.seq
 (.reg [rg 2 (.mov (.c (.i .i64 0)))])
 (.seq
 (.reg [mv 3 0, rg 4 (.call 68 [(.t 3)]), rg 5 (.lens (.t 4)), mv 2 5])
 (.pre (.norm false [2]) .ret)))
class CLenD (T : Tbl) : Prop where
 h129 : T 129 = some ⟨1, 6, [.t 2], b129, none, false⟩
end Go.Ab
end

section
namespace Go.Ab
open Go.RowKit
def opU : AOp → Option Nat
 | .call u _ => some u
 | _ => none
def cXs : AX → List Nat
 | .reg l => l.filterMap fun o => opU o.op
 | .draw l => l.filterMap fun o => opU o.ao.op
 | .drawT hd tl => (hd.filterMap fun o => opU o.op) ++ tl.filterMap fun o => opU o.op
 | .seq a b => cXs a ++ cXs b
 | .cond _ x y => cXs x ++ cXs y
 | .block _ c | .loop c | .note c _ | .pre _ c | .scope c | .lp _ _ c _ => cXs c
 | _ => []
structure Agr (R : Nat → Bool) (T T' : Tbl) (O O' : Orc) : Prop where
 tbl : ∀ u, R u = true → T u = T' u
 call : ∀ u xs hb, R u = true → O.call u xs hb = O'.call u xs hb
 loop : ∀ k c st, (∀ u ∈ cXs c, R u = true) → O.loop k c st = O'.loop k c st
section
variable {R : Nat → Bool} {T T' : Tbl} {O O' : Orc}
theorem callX_agr (h : Agr R T T' O O') {u : Nat} (hu : R u = true) {xs : List AV} {d : Option Nat} {st : St} : callX O T u xs d st = callX O' T' u xs d st := by
 unfold callX
 rw [h.tbl u hu]
 simp only [h.call u _ _ hu]
theorem opX_agr (h : Agr R T T' O O') {op : AOp} (hu : ∀ u, opU op = some u → R u = true) {d : Option Nat} {st : St} : opX O T op d st = opX O' T' op d st := by
 cases op <;> simp only [opX]
 exact callX_agr h (hu _ rfl)
theorem stepX_agr (h : Agr R T T' O O') {o : AO} (hu : ∀ u, opU o.op = some u → R u = true) {st : St} : stepX O T o st = stepX O' T' o st := by
 unfold stepX gX
 simp only [opX_agr h hu]
theorem runX_agr (h : Agr R T T' O O') : ∀ (l : List AO), (∀ o ∈ l, ∀ u, opU o.op = some u → R u = true) → ∀ st, runX O T l st = runX O' T' l st
 | [], _, st => rfl
 | o :: l, hu, st => by
  simp only [runX]
  rw [stepX_agr h (hu o List.mem_cons_self)]
  congr 1
  funext s
  exact runX_agr h l (fun o ho => hu o (List.mem_cons_of_mem _ ho)) s
theorem opD_agr (h : Agr R T T' O O') {op : AOp} (hu : ∀ u, opU op = some u → R u = true) {e : Env} {hp : Heap} {older : List Heap} : opD O T op e hp older = opD O' T' op e hp older := by
 cases op <;> simp only [opD]
 rw [h.tbl _ (hu _ rfl)]
 simp only [h.call _ _ _ (hu _ rfl)]
theorem qX_agr (h : Agr R T T' O O') {o : AO} (hu : ∀ u, opU o.op = some u → R u = true) {e : Env} {hp : Heap} {older : List Heap} : qX O T o e hp older = qX O' T' o e hp older := by
 unfold qX
 simp only [opD_agr h hu]
theorem drawX_agr (h : Agr R T T' O O') : ∀ (l : List DO), (∀ o ∈ l, ∀ u, opU o.ao.op = some u → R u = true) → ∀ e hp clk older pend, drawX O T l e hp clk older pend = drawX O' T' l e hp clk older pend
 | [], _, e, hp, clk, older, pend => rfl
 | o :: l, hu, e, hp, clk, older, pend => by
  have ih := drawX_agr h l (fun o ho => hu o (List.mem_cons_of_mem _ ho))
  simp only [drawX]
  rw [qX_agr h (hu o List.mem_cons_self)]
  simp only [ih]
theorem headX_agr (h : Agr R T T' O O') (tl : List AO) (ht : ∀ o ∈ tl, ∀ u, opU o.op = some u → R u = true) : ∀ (l : List AO), (∀ o ∈ l, ∀ u, opU o.op = some u → R u = true) → ∀ e hp clk, headX O T tl l e hp clk = headX O' T' tl l e hp clk
 | [], _, e, hp, clk => runX_agr h tl ht _
 | o :: l, hu, e, hp, clk => by
  have ih := headX_agr h tl ht l (fun o ho => hu o (List.mem_cons_of_mem _ ho))
  simp only [headX]
  rw [qX_agr h (hu o List.mem_cons_self)]
  simp only [ih]
theorem evX_agr (h : Agr R T T' O O') (k : Nat) : ∀ (c : AX), (∀ u ∈ cXs c, R u = true) → ∀ st, evX O T k c st = evX O' T' k c st
 | .skip, _, st => rfl
 | .reg l, hu, st => by
  simp only [evX]
  rw [runX_agr h l fun o ho u hou => hu u (List.mem_filterMap.2 ⟨o, ho, hou⟩)]
 | .draw l, hu, st => by
  simp only [evX]
  rw [drawX_agr h l fun o ho u hou => hu u (List.mem_filterMap.2 ⟨o, ho, hou⟩)]
 | .drawT hd tl, hu, st => by
  simp only [evX]
  rw [headX_agr h tl (fun o ho u hou => hu u (List.mem_append_right _ (List.mem_filterMap.2 ⟨o, ho, hou⟩))) hd (fun o ho u hou => hu u (List.mem_append_left _ (List.mem_filterMap.2 ⟨o, ho, hou⟩)))]
 | .bad, _, st => rfl
 | .prim f, _, st => rfl
 | .seq a b, hu, st => by
  simp only [evX]
  rw [evX_agr h k a fun u hm => hu u (List.mem_append_left _ hm)]
  congr 1
  funext r
  rw [evX_agr h k b fun u hm => hu u (List.mem_append_right _ hm)]
 | .cond c x y, hu, st => by
  simp only [evX]
  rw [evX_agr h k x fun u hm => hu u (List.mem_append_left _ hm), evX_agr h k y fun u hm => hu u (List.mem_append_right _ hm)]
 | .block id c, hu, st => by
  simp only [evX]
  rw [evX_agr h k c hu]
 | .loop c, hu, st => h.loop k c st hu
 | .exit id, _, st => rfl
 | .ret, _, st => rfl
 | .note c g, hu, st => by
  simp only [evX]
  rw [evX_agr h k c hu]
 | .pre g c, hu, st => by
  simp only [evX]
  congr 1
  funext s
  exact evX_agr h k c hu s
 | .scope c, hu, st => by
  simp only [evX]
  exact evX_agr h k c hu st
 | .lp id g c g2, hu, st => by
  simp only [evX, h.loop k c _ hu]
theorem nextO_agr (hc : ∀ u af, R u = true → T u = some af → ∀ v ∈ cXs af.body, R v = true) (h : Agr R T T' O O') : Agr R T T' (nextO T O) (nextO T' O') where
 tbl := h.tbl
 call u xs hb hu := by
  simp only [nextO]
  rw [← h.tbl u hu]
  cases ht : T u with
  | none => rfl
  | some af =>
   simp only
   rw [evX_agr h hb.length af.body (hc u af hu ht)]
 loop k c st hu := by
  simp only [nextO]
  rw [evX_agr h k c hu]
  congr 1
  funext r
  rw [h.loop k c _ hu]
theorem orcN_agr (ht : ∀ u, R u = true → T u = T' u) (hc : ∀ u af, R u = true → T u = some af → ∀ v ∈ cXs af.body, R v = true) : ∀ n, Agr R T T' (orcN T n) (orcN T' n)
 | 0 => ⟨ht, fun _ _ _ _ => rfl, fun _ _ _ _ => rfl⟩
 | n + 1 => nextO_agr hc (orcN_agr ht hc n)
theorem orc_agr (ht : ∀ u, R u = true → T u = T' u) (hc : ∀ u af, R u = true → T u = some af → ∀ v ∈ cXs af.body, R v = true) : Agr R T T' (orc T) (orc T') := by
 refine ⟨ht, fun u xs hb hu => ?_, fun k c st hu => ?_⟩
 ·simp only [orc]
  congr 1
  funext n
  exact (orcN_agr ht hc n).call u xs hb hu
 ·simp only [orc]
  congr 1
  funext n
  exact (orcN_agr ht hc n).loop k c st hu
end
theorem mem_of_lookup {l : List (Nat × AFx)} {u : Nat} {af : AFx} (h : l.lookup u = some af) : (u, af) ∈ l := by
 induction l with
 | nil => cases h
 | cons q l ih =>
  obtain ⟨q1, q2⟩ := q
  simp only [List.lookup_cons] at h
  split at h
  ·rename_i he
   have := eq_of_beq he
   subst this
   cases h
   exact List.mem_cons_self
  ·exact List.mem_cons_of_mem _ (ih h)
structure Part (l l' : List (Nat × AFx)) : Prop where
 sub : ∀ p ∈ l', l.lookup p.1 = some p.2
 clo : (l'.all fun p => (cXs p.2.body).all fun v => (l'.lookup v).isSome || (l.lookup v).isNone) = true
theorem Part.agr {l l' : List (Nat × AFx)} (h : Part l l') : Agr (fun u => (l'.lookup u).isSome || (l.lookup u).isNone) (fun u => l.lookup u) (fun u => l'.lookup u) (orc fun u => l.lookup u) (orc fun u => l'.lookup u) := by
 refine orc_agr (fun v hv => ?_) (fun v a hv hva w hw => ?_)
 ·cases hv2 : l'.lookup v with
  | none =>
   simp only [hv2] at hv
   cases hv3 : l.lookup v with
   | none => rfl
   | some a => rw [hv3] at hv; cases hv
  | some a => exact h.sub _ (mem_of_lookup hv2)
 ·cases hv2 : l'.lookup v with
  | none => simp only [hv2, hva] at hv; cases hv
  | some b =>
   have hb := mem_of_lookup hv2
   have h1 := h.sub _ hb
   simp only at hva h1
   rw [hva] at h1
   cases h1
   exact List.all_eq_true.1 (List.all_eq_true.1 h.clo _ hb) w hw
theorem Part.ev {l l' : List (Nat × AFx)} (h : Part l l') {c : AX} (hc : ((cXs c).all fun v => (l'.lookup v).isSome) = true) {st : St} {r : Option (Ex × St)}
  (he : evX (orc fun u => l.lookup u) (fun u => l.lookup u) 0 c st = r) : evX (orc fun u => l'.lookup u) (fun u => l'.lookup u) 0 c st = r := by
 rw [← evX_agr h.agr 0 c (fun v hv => by rw [List.all_eq_true.1 hc v hv]; rfl) st]
 exact he
theorem Part.call {l l' : List (Nat × AFx)} (h : Part l l') {u : Nat} (hu : (l'.lookup u).isSome = true) {xs : List AV} {r : Option AV} (he : callF (fun u => l.lookup u) u xs = r) : callF (fun u => l'.lookup u) u xs = r := by
 rw [← he]
 unfold callF
 rw [h.agr.call u xs [] (by rw [hu]; rfl)]
end Go.Ab
end
