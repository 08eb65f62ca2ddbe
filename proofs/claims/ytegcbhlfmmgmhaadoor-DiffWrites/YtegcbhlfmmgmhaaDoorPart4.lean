/-
  A calculus of values, boxes and code, and what functions of the program compute, proved in it.
  Conditions: none beyond those that the theorems state. (Part 4: Nm4, GcDigits, GcText, GcTrim, GpDigits, Nm5, GcWhole, GcRef02, GpRef02, GcRef04, GpRef04, GcRef05, GpRef05, GpRef05d, GcRef07, Ax9, GcLenD, GcTree, GcDiff, GcRef17, GcRef23, GcLaw17, GcLaw23, Ax10.)
-/
import Derived.Test.YtegcbhlfmmgmhaaDoorPart3

set_option linter.unusedSectionVars false
set_option linter.unusedVariables false
set_option linter.unusedSimpArgs false
set_option linter.unnecessarySimpa false

section
namespace Go.Ab
def digs (n : Nat) : List UInt8 := if h : n < 10 then [UInt8.ofNat (48 + n)] else UInt8.ofNat (48 + n % 10) :: digs (n / 10)
termination_by n
decreasing_by omega
def textN (n : Nat) : List UInt8 := (digs n).reverse
def wordOf : List AV → Option UInt32
 | [.i .u32 n] => if 0 ≤ n ∧ n < 4294967296 then some (w32 n.toNat) else none
 | _ => none
def prim68 : List AV → Option AV
 | [.sl els .an] => if els.length ≤ 1000 then (els.mapM wordOf).map fun l => .s (textN (val l)) else none
 | _ => none
theorem wordOf_u32 (l : List UInt32) : (u32s l).mapM wordOf = some l := by
 induction l with
 | nil => rfl
 | cons x l ih =>
  have hx := u32_lt x
  have h1 : wordOf [u32 x.toNat] = some x := by
   unfold wordOf u32
   simp only
   rw [if_pos ⟨by omega, by omega⟩]
   simp
  have e : u32s (x :: l) = [u32 x.toNat] :: u32s l := rfl
  rw [e, List.mapM_cons, h1, ih]
  rfl
theorem prim68_eq (a : List UInt32) (h : a.length ≤ 1000) : prim68 [.sl (u32s a) .an] = some (.s (textN (val a))) := by
 unfold prim68
 simp only [u32s_length, h, if_true, wordOf_u32, Option.map_some]
def wrAt : Nat → List UInt8 → Int
 | _, [] => -1
 | k, c :: r => if c.toNat < 48 ∨ 57 < c.toNat ∨ k = 60 then k else wrAt (k + 1) r
def wrongI (l : List UInt8) : Int := if l = [] then 0 else wrAt 0 l
def rd (l : List UInt8) : Nat := l.foldl (fun n c => n * 10 + (c.toNat - 48)) 0
theorem digs_small {n : Nat} (h : n < 10) : digs n = [UInt8.ofNat (48 + n)] := by rw [digs, dif_pos h]
theorem digs_big {n : Nat} (h : ¬ n < 10) : digs n = UInt8.ofNat (48 + n % 10) :: digs (n / 10) := by rw [digs, dif_neg h]
theorem textN_small {n : Nat} (h : n < 10) : textN n = [UInt8.ofNat (48 + n)] := by rw [textN, digs_small h]; rfl
theorem textN_big {n : Nat} (h : ¬ n < 10) : textN n = textN (n / 10) ++ [UInt8.ofNat (48 + n % 10)] := by rw [textN, digs_big h]; simp [textN]
def txN (n : Nat) (s : List UInt8) : List UInt8 := if n = 0 ∧ s ≠ [] then s else textN n ++ s
theorem txN_step (n : Nat) (s : List UInt8) (h : n ≠ 0 ∨ s = []) : txN (n / 10) (UInt8.ofNat (48 + n % 10) :: s) = txN n s := by
 have h1 : ¬ (n = 0 ∧ s ≠ []) := by rintro ⟨rfl, h2⟩; rcases h with h | h; exact h rfl; exact h2 h
 unfold txN
 rw [if_neg h1]
 by_cases hn : n < 10
 ·have e1 : n / 10 = 0 := by omega
  have e2 : n % 10 = n := by omega
  rw [if_pos ⟨e1, by simp⟩, textN_small hn, e2]
  rfl
 ·have e1 : ¬ (n / 10 = 0 ∧ UInt8.ofNat (48 + n % 10) :: s ≠ []) := by omega
  rw [if_neg e1, textN_big hn]
  simp
theorem digit_at (d : Nat) (h : d < 10) : (([48, 49, 50, 51, 52, 53, 54, 55, 56, 57] : List UInt8).take (d + 1)).drop d = [UInt8.ofNat (48 + d)] := by
 have : ∀ d, d < 10 → (([48, 49, 50, 51, 52, 53, 54, 55, 56, 57] : List UInt8).take (d + 1)).drop d = [UInt8.ofNat (48 + d)] := by decide
 exact this d h
def digK : Nat → Nat → List UInt8
 | 0, _ => []
 | k + 1, x => digK k (x / 10) ++ [UInt8.ofNat (48 + x % 10)]
def u8c (l : List UInt8) : List AV := l.map fun b => u8 b.toNat
@[simp] theorem u8c_length (l : List UInt8) : (u8c l).length = l.length := by simp [u8c]
@[simp] theorem u8c_rf (l : List UInt8) : (u8c l).flatMap rfC = [] := by induction l with | nil => rfl | cons x l ih => simp [u8c]
@[simp] theorem u8c_rl {σn : BId → BId} {σg : Nat → Nat} (l : List UInt8) : (u8c l).map (rlC σn σg) = u8c l := by induction l with | nil => rfl | cons x l ih => simp [u8c]
@[simp] theorem u8c_rl' {σn : BId → BId} {σg : Nat → Nat} (l : List UInt8) : (u8c l).map (fun c => rlC σn σg c) = u8c l := u8c_rl l
@[simp] theorem u8c_rlw {σn : BId → BId} {σg : Nat → Nat} (l : List UInt8) : (u8c l).map (fun c => rlC σn σg (wkA c)) = u8c l := by induction l with | nil => rfl | cons x l ih => simp [u8c]
@[simp] theorem u8c_pure (l : List UInt8) : (u8c l).all pureC = true := by induction l with | nil => rfl | cons x l ih => simp [u8c]
@[simp] theorem u8c_get (l : List UInt8) (i : Nat) : (u8c l)[i]? = (l[i]?).map fun b => u8 b.toNat := by simp [u8c]
@[simp] theorem u8c_pure' (l : List UInt8) : (∀ x, x ∈ u8c l → pureC x = true) = True := by
 have := u8c_pure l
 rw [List.all_eq_true] at this
 simpa using this
theorem u8c_put {l : List UInt8} {j d : Nat} (h : d < 256) (hj : j < l.length) : (u8c l).take j ++ u8 d :: (u8c l).drop (j + 1) = u8c (l.set j (UInt8.ofNat d)) := by
 rw [List.set_eq_take_append_cons_drop, if_pos hj]
 simp [u8c, List.map_take, List.map_drop, Nat.mod_eq_of_lt h]
theorem digK_length : ∀ k x, (digK k x).length = k
 | 0, _ => rfl
 | k + 1, x => by simp [digK, digK_length k]
theorem digK_zero (x : Nat) : digK 0 x = [] := rfl
theorem digK_succ (k x : Nat) : digK (k + 1) x = digK k (x / 10) ++ [UInt8.ofNat (48 + x % 10)] := rfl
theorem set_mid8 {m : List UInt8} {j : Nat} (w : UInt8) : (List.replicate (j + 1) 0 ++ m).set j w = List.replicate j 0 ++ w :: m := by
 rw [List.set_append_left j w (by simp), List.replicate_succ', List.set_append_right j w (by simp)]
 simp
theorem u8c_rows (m : List UInt8) : ((u8c m).map fun c => [c]).mapM byteOfRow = some m := by
 induction m with
 | nil => rfl
 | cons b m ih =>
  have e : ((u8c (b :: m)).map fun c => [c]) = [u8 b.toNat] :: ((u8c m).map fun c => [c]) := rfl
  rw [e, List.mapM_cons, ih]
  simp [byteOfRow, u8]
end Go.Ab
end

section
namespace Go.Ab
def l101_0 : AX :=
 (.note
 (.seq
 (.seq
 (.reg [⟨(some 5), none, .mov (.t 4)⟩,
 ⟨(some 6), none, .bin .geq (.t 5) (.c (.i .i64 0))⟩])
 (.cond (.t 6)
 .skip
 (.exit 0)))
 (.seq
 (.block 1
 (.seq
 (.reg [⟨(some 9), none, .mov (.t 4)⟩,
 ⟨(some 10), none, .mov (.t 0)⟩,
 ⟨(some 11), none, .bin .rem (.t 10) (.c (u32 10))⟩,
 ⟨(some 12), none, .bin .add (.c (u32 48)) (.t 11)⟩,
 ⟨(some 13), none, .conv .u8 (.t 12)⟩,
 ⟨(some 14), none, .iaa 1 9 (.t 3) (.t 9)⟩,
 ⟨none, none, .store 1 (.t 14) (.t 13)⟩])
 (.reg [⟨(some 15), none, .mov (.t 0)⟩,
 ⟨(some 16), none, .bin .quo (.t 15) (.c (u32 10))⟩,
 ⟨(some 0), none, .mov (.t 16)⟩])))
 (.reg [⟨(some 7), none, .mov (.t 4)⟩,
 ⟨(some 8), none, .bin .sub (.t 7) (.c (.i .i64 1))⟩,
 ⟨(some 4), none, .mov (.t 8)⟩])))
 (.norm false [0, 3, 4]))
def b101 : AX :=
 (.seq
 (.reg [⟨(some 2), none, .mov (.c (.s []))⟩])
 (.seq
 (.reg [⟨(some 3), none, .alloc [(u8 0), (u8 0), (u8 0), (u8 0), (u8 0), (u8 0), (u8 0), (u8 0), (u8 0)]⟩])
 (.seq
 (.seq
 (.reg [⟨(some 4), none, .mov (.c (.i .i64 8))⟩])
 (.lp 0 (.norm false [0, 3, 4]) l101_0 (.norm false [3])))
 (.seq
 (.reg [⟨(some 17), none, .xop (.arsl 9) [(.t 3)]⟩,
 ⟨(some 18), none, .xop .bstr [(.t 17)]⟩,
 ⟨(some 2), none, .mov (.t 18)⟩])
 (.pre (.norm false [2]) .ret)))))
class CDigits (T : Tbl) : Prop where
 h101 : T 101 = some ⟨1, 19, [.t 2], b101, none, false⟩
section
variable {T : Tbl} [CDigits T] {d : Option Nat} {st : St}
@[simp] theorem x101 (xs : List AV) : callX (orc T) T 101 xs d st = bL (frzL st.heap xs) fun ys => cR (callF T 101 (ys.map (wkIf false))) xs d st := callX_pure CDigits.h101
theorem f101 (xs : List AV) (hn : xs.length = 1) : callF T 101 xs = retF [.t 2] false (evX (orc T) T 0 b101 ⟨argEnv xs, [], 1⟩) := callF_eq CDigits.h101 hn
end
end Go.Ab
end

section
namespace Go.Ab
class CText (T : Tbl) : Prop where
 h68 : T 68 = some ⟨0, 0, [], .prim prim68, none, false⟩
section
variable {T : Tbl} [CText T] {d : Option Nat} {st : St}
@[simp] theorem x68 (xs : List AV) : callX (orc T) T 68 xs d st = bL (frzL st.heap xs) fun ys => cR (callF T 68 (ys.map (wkIf false))) xs d st := callX_pure CText.h68
theorem p68 (xs : List AV) : callF T 68 xs = prim68 xs := callF_prim CText.h68
end
end Go.Ab
end

section
namespace Go.Ab
def b103 : AX :=
 (.seq
 (.reg [⟨(some 4), none, .mov (.c (.s []))⟩])
 (.seq
 (.seq
 (.reg [⟨(some 7), none, .mov (.t 0)⟩,
 ⟨(some 8), none, .bin .eql (.t 7) (.c (.s []))⟩,
 ⟨(some 9), none, .mov (.t 8)⟩,
 ⟨(some 10), (some (9, false)), .mov (.t 1)⟩,
 ⟨(some 11), (some (9, false)), .bin .eql (.t 10) (.c (.s []))⟩,
 ⟨(some 12), none, .pick (.t 9) (.c (.b true)) (.t 11)⟩])
 (.cond (.t 12)
 (.seq
 (.reg [⟨(some 13), none, .mov (.t 0)⟩,
 ⟨(some 4), none, .mov (.t 13)⟩])
 (.pre (.norm false [4]) .ret))
 .skip))
 (.seq
 (.seq
 (.reg [⟨(some 14), none, .mov (.t 1)⟩,
 ⟨(some 15), none, .lens (.t 14)⟩,
 ⟨(some 16), none, .bin .eql (.t 15) (.c (.i .i64 1))⟩,
 ⟨(some 17), none, .mov (.t 16)⟩,
 ⟨(some 18), (some (17, true)), .mov (.t 1)⟩,
 ⟨(some 19), (some (17, true)), .ixs (.t 18) (.c (.i .i64 0))⟩,
 ⟨(some 20), (some (17, true)), .bin .lss (.t 19) (.c (u8 128))⟩,
 ⟨(some 21), none, .pick (.t 17) (.t 20) (.c (.b false))⟩])
 (.cond (.t 21)
 (.seq
 (.reg [⟨(some 22), none, .mov (.t 0)⟩,
 ⟨(some 23), none, .mov (.t 1)⟩,
 ⟨(some 24), none, .ixs (.t 23) (.c (.i .i64 0))⟩,
 ⟨(some 25), none, .call 125 [(.t 22), (.t 24)]⟩,
 ⟨(some 4), none, .mov (.t 25)⟩])
 (.pre (.norm false [4]) .ret))
 .skip))
 (.seq
 (.seq
 (.reg [⟨(some 27), none, .mov (.t 1)⟩,
 ⟨(some 28), none, .call 126 [(.t 27)]⟩,
 ⟨(some 26), none, .mov (.t 28)⟩,
 ⟨(some 29), none, .ext (.t 26) 0⟩,
 ⟨(some 30), none, .ext (.t 26) 1⟩,
 ⟨(some 5), none, .alloc [(.b false), (.b false), (.b false), (.b false), (.b false), (.b false), (.b false), (.b false), (.b false), (.b false), (.b false), (.b false), (.b false), (.b false), (.b false), (.b false), (.b false), (.b false), (.b false), (.b false), (.b false), (.b false), (.b false), (.b false), (.b false), (.b false), (.b false), (.b false), (.b false), (.b false), (.b false), (.b false), (.b false), (.b false), (.b false), (.b false), (.b false), (.b false), (.b false), (.b false), (.b false), (.b false), (.b false), (.b false), (.b false), (.b false), (.b false), (.b false), (.b false), (.b false), (.b false), (.b false), (.b false), (.b false), (.b false), (.b false), (.b false), (.b false), (.b false), (.b false), (.b false), (.b false), (.b false), (.b false), (.b false), (.b false), (.b false), (.b false), (.b false), (.b false), (.b false), (.b false), (.b false), (.b false), (.b false), (.b false), (.b false), (.b false), (.b false), (.b false), (.b false), (.b false), (.b false), (.b false), (.b false), (.b false), (.b false), (.b false), (.b false), (.b false), (.b false), (.b false), (.b false), (.b false), (.b false), (.b false), (.b false), (.b false), (.b false), (.b false), (.b false), (.b false), (.b false), (.b false), (.b false), (.b false), (.b false), (.b false), (.b false), (.b false), (.b false), (.b false), (.b false), (.b false), (.b false), (.b false), (.b false), (.b false), (.b false), (.b false), (.b false), (.b false), (.b false), (.b false), (.b false), (.b false), (.b false), (.b false), (.b false), (.b false), (.b false), (.b false), (.b false), (.b false), (.b false), (.b false), (.b false), (.b false), (.b false), (.b false), (.b false), (.b false), (.b false), (.b false), (.b false), (.b false), (.b false), (.b false), (.b false), (.b false), (.b false), (.b false), (.b false), (.b false), (.b false), (.b false), (.b false), (.b false), (.b false), (.b false), (.b false), (.b false), (.b false), (.b false), (.b false), (.b false), (.b false), (.b false), (.b false), (.b false), (.b false), (.b false), (.b false), (.b false), (.b false), (.b false), (.b false), (.b false), (.b false), (.b false), (.b false), (.b false), (.b false), (.b false), (.b false), (.b false), (.b false), (.b false), (.b false), (.b false), (.b false), (.b false), (.b false), (.b false), (.b false), (.b false), (.b false), (.b false), (.b false), (.b false), (.b false), (.b false), (.b false), (.b false), (.b false), (.b false), (.b false), (.b false), (.b false), (.b false), (.b false), (.b false), (.b false), (.b false), (.b false), (.b false), (.b false), (.b false), (.b false), (.b false), (.b false), (.b false), (.b false), (.b false), (.b false), (.b false), (.b false), (.b false), (.b false), (.b false), (.b false), (.b false), (.b false), (.b false), (.b false), (.b false), (.b false), (.b false), (.b false), (.b false), (.b false), (.b false), (.b false), (.b false), (.b false), (.b false), (.b false), (.b false), (.b false), (.b false), (.b false), (.b false), (.b false), (.b false), (.b false), (.b false)]⟩,
 ⟨none, none, .store 256 (.t 5) (.t 29)⟩,
 ⟨(some 6), none, .mov (.t 30)⟩])
 (.seq
 (.reg [⟨(some 31), none, .mov (.t 6)⟩])
 (.cond (.t 31)
 (.seq
 (.reg [⟨(some 32), none, .mov (.t 0)⟩,
 ⟨(some 33), none, .call 127 [(.t 32), (.t 5)]⟩,
 ⟨(some 4), none, .mov (.t 33)⟩])
 (.pre (.norm false [4]) .ret))
 .skip)))
 (.seq
 (.reg [⟨(some 34), none, .mov (.t 0)⟩,
 ⟨(some 35), none, .mov (.t 1)⟩,
 ⟨(some 36), none, .call 128 [(.t 34), (.t 35)]⟩,
 ⟨(some 4), none, .mov (.t 36)⟩])
 (.pre (.norm false [4]) .ret))))))
def l125_0 : AX :=
 (.note
 (.seq
 (.seq
 (.reg [⟨(some 5), none, .mov (.t 0)⟩,
 ⟨(some 6), none, .lens (.t 5)⟩,
 ⟨(some 7), none, .bin .gtr (.t 6) (.c (.i .i64 0))⟩,
 ⟨(some 8), none, .mov (.t 7)⟩,
 ⟨(some 9), (some (8, true)), .mov (.t 0)⟩,
 ⟨(some 10), (some (8, true)), .ixs (.t 9) (.c (.i .i64 0))⟩,
 ⟨(some 11), (some (8, true)), .mov (.t 1)⟩,
 ⟨(some 12), (some (8, true)), .bin .eql (.t 10) (.t 11)⟩,
 ⟨(some 13), none, .pick (.t 8) (.t 12) (.c (.b false))⟩])
 (.cond (.t 13)
 .skip
 (.exit 0)))
 (.block 1
 (.reg [⟨(some 14), none, .mov (.t 0)⟩,
 ⟨(some 15), none, .slstr (.t 14) (some (.c (.i .i64 1))) none⟩,
 ⟨(some 0), none, .mov (.t 15)⟩])))
 (.norm false [0, 1]))
def b125 : AX :=
 (.seq
 (.reg [⟨(some 4), none, .mov (.c (.s []))⟩])
 (.seq
 (.lp 0 (.norm false [0, 1]) l125_0 (.norm false [0]))
 (.seq
 (.reg [⟨(some 16), none, .mov (.t 0)⟩,
 ⟨(some 4), none, .mov (.t 16)⟩])
 (.pre (.norm false [4]) .ret))))
class CTrim (T : Tbl) : Prop where
 h103 : T 103 = some ⟨2, 37, [.t 4], b103, none, false⟩
 h125 : T 125 = some ⟨2, 17, [.t 4], b125, none, false⟩
section
variable {T : Tbl} [CTrim T] {d : Option Nat} {st : St}
theorem f103 (xs : List AV) (hn : xs.length = 2) : callF T 103 xs = retF [.t 4] false (evX (orc T) T 0 b103 ⟨argEnv xs, [], 1⟩) := callF_eq CTrim.h103 hn
@[simp] theorem x125 (xs : List AV) : callX (orc T) T 125 xs d st = bL (frzL st.heap xs) fun ys => cR (callF T 125 (ys.map (wkIf false))) xs d st := callX_pure CTrim.h125
theorem f125 (xs : List AV) (hn : xs.length = 2) : callF T 125 xs = retF [.t 4] false (evX (orc T) T 0 b125 ⟨argEnv xs, [], 1⟩) := callF_eq CTrim.h125 hn
end
end Go.Ab
end

section
namespace Go.Ab
section
variable {T : Tbl}
theorem nine_loop (x0 : Nat) (_hx0 : x0 < 4294967296) : ∀ y : Nat × Nat × List UInt8, (y.1 ≤ 9 ∧ y.2.1 < 4294967296 ∧ y.2.2.length = 9 - y.1 ∧ digK y.1 y.2.1 ++ y.2.2 = digK 9 x0) →
  loopN T 0 0 (.norm false [3]) l101_0 ⟨[(0, u32 y.2.1), (3, .ptr (.loc 3) 1 9 0 0), (4, .i .i64 ((y.1 : Int) - 1))], [(.loc 3, ⟨1, .str, 9, [u8c (List.replicate y.1 0 ++ y.2.2)]⟩)], 3⟩ =
   some (.n, ⟨[(3, .ptr (.loc 3) 1 9 0 0)], [(.loc 3, ⟨1, .str, 9, [u8c (digK 9 x0)]⟩)], 3⟩) := by
 refine loopN_eq (fun y : Nat × Nat × List UInt8 => ⟨[(0, u32 y.2.1), (3, .ptr (.loc 3) 1 9 0 0), (4, .i .i64 ((y.1 : Int) - 1))], [(.loc 3, ⟨1, .str, 9, [u8c (List.replicate y.1 0 ++ y.2.2)]⟩)], 3⟩) _ (fun y => y.1) _ ?_
 rintro ⟨k, x, m⟩ ⟨hk, hx, hm, hd⟩
 simp only at hk hx hm hd
 cases k with
 | zero =>
  right
  have hd : m = digK 9 x0 := by simpa only [digK_zero, List.nil_append] using hd
  subst hd
  generalize digK 9 x0 = m
  constructor <;> simp -implicitDefEqProofs [l101_0]
 | succ j =>
  left
  have hw : IntKind.wrap .i64 ((j : Int) - 1) = (j : Int) - 1 := wrap_i64 _ (by omega)
  have h1 : (j : Int) < 9 := by omega
  have h2 : j ≤ 8 := by omega
  have hd1 : 48 + x % 10 < 256 := by omega
  have hs := (u8c_put (l := List.replicate (j + 1) 0 ++ m) (j := j) hd1 (by simp; omega)).trans (congrArg u8c (set_mid8 (j := j) (m := m) (UInt8.ofNat (48 + x % 10))))
  have m1 : (48 + x % 10) % 4294967296 = 48 + x % 10 := Nat.mod_eq_of_lt (by omega)
  have m2 : (48 + x % 10) % 256 = 48 + x % 10 := Nat.mod_eq_of_lt (by omega)
  have m3 : x / 10 % 4294967296 = x / 10 := Nat.mod_eq_of_lt (by omega)
  have hlen : j + 1 + m.length = 9 := by omega
  refine ⟨(j, x / 10, UInt8.ofNat (48 + x % 10) :: m), ⟨by simp only; omega, by simp only; omega, by simp; omega, ?_⟩, Nat.lt_succ_self j, ?_, rfl⟩
  ·simp only
   rw [← hd, digK_succ, List.append_assoc]
   rfl
  ·simp -implicitDefEqProofs [l101_0, hw, h1, h2, hs, m1, m2, m3, hlen]
end
section
variable {T : Tbl} [CDigits T]
theorem digits_nine (x : Nat) (hx : x < 4294967296) : callF T 101 [u32 x] = some (.s (digK 9 x)) := by
 have h := nine_loop (T := T) x hx (9, x, []) ⟨Nat.le_refl _, hx, rfl, by simp⟩
 have e : u8c (List.replicate 9 0 ++ []) = [u8 0, u8 0, u8 0, u8 0, u8 0, u8 0, u8 0, u8 0, u8 0] := rfl
 simp only [e] at h
 rw [f101 _ rfl, b101]
 have h8 : IntKind.wrap .i64 8 = 8 := by decide
 have hl9 := digK_length 9 x
 generalize hm : digK 9 x = m at *
 have t9 : List.take 9 ((u8c m).map fun c => [c]) = (u8c m).map fun c => [c] := List.take_of_length_le (by simp [hl9])
 have hr := u8c_rows m
 simp at h
 simp -implicitDefEqProofs [h, hr, hl9, t9]
end
section
variable {T : Tbl} [CNat T] [CProd T] [CDigits T]
def stRi (l : List UInt8) (o : List UInt32) (i0 k : Nat) : St :=
 ⟨[(0, .s l), (3, .ptr (.loc 3) 1 4 0 0), (5, .sl (u32s o) .an), (6, .i .i64 (i0 + k : Nat)), (7, u32 (rd ((l.drop i0).take k))), (8, u32 (10 ^ k)), (9, .i .i64 k)], [(.loc 3, ⟨1, .str, 4, [[.i .i64 0, .i .i64 0, .i .i64 0, .i .i64 0]]⟩)], 3⟩
end
end Go.Ab
end

section
namespace Go.Ab
def sg (n : Bool) (k : Nat) : Int := if n then -(k : Int) else k
def wv (n : Bool) (a : List UInt32) : Int := sg n (val a)
abbrev wh (n : Bool) (a : List UInt32) : AV := .agg [.b n, .sl (u32s a) .an]
abbrev ez (z : Int) : AV := wh (decide (z < 0)) (ofN z.natAbs)
def sgI (z : Int) : Int := if z < 0 then -1 else if z = 0 then 0 else 1
@[simp] theorem wv_ez (z : Int) : wv (decide (z < 0)) (ofN z.natAbs) = z := by
 unfold wv
 rw [val_ofN]
 by_cases h : z < 0
 ·simp [sg, h]; omega
 ·simp [sg, h]; omega
def textZ (z : Int) : List UInt8 := if z < 0 then 45 :: textN z.natAbs else textN z.natAbs
def readZ (l : List UInt8) : Int := sg (l.head? = some 45) (rd (if l.head? = some 45 then l.tail else l))
def wrongZ (l : List UInt8) : Int := wrongI (if l.head? = some 45 then l.tail else l)
def minus (l : List UInt8) : Int := if l.head? = some 45 then 1 else 0
end Go.Ab
end

section
namespace Go.Ab
def b38 : AX :=
 (.seq
 (.reg [⟨(some 1), none, .xop (.box 2) [(.t 0)]⟩,
 ⟨(some 2), none, .alloc [(.b false), (.sl [] .nl)]⟩])
 (.seq
 (.drawT [⟨(some 3), none, .fad 0 (.t 1)⟩,
 ⟨(some 4), none, .load none (.t 3)⟩,
 ⟨(some 5), none, .fad 1 (.t 1)⟩,
 ⟨(some 6), none, .load none (.t 5)⟩,
 ⟨(some 7), none, .call 71 [(.t 6)]⟩]
 [⟨(some 8), none, .call 55 [(.t 4), (.t 7)]⟩,
 ⟨none, none, .store 2 (.t 2) (.t 8)⟩])
 (.pre (.norm false [2]) .ret)))
def b23 : AX :=
 (.seq
 (.reg [⟨(some 2), none, .xop (.box 2) [(.t 0)]⟩,
 ⟨(some 3), none, .xop (.box 2) [(.t 1)]⟩,
 ⟨(some 4), none, .alloc [(.b false), (.sl [] .nl)]⟩])
 (.seq
 (.seq
 (.reg [⟨(some 7), none, .fad 0 (.t 2)⟩,
 ⟨(some 8), none, .load none (.t 7)⟩,
 ⟨(some 9), none, .fad 0 (.t 3)⟩,
 ⟨(some 10), none, .load none (.t 9)⟩,
 ⟨(some 11), none, .eqb false (.t 8) (.t 10)⟩])
 (.cond (.t 11)
 (.seq
 (.drawT [⟨(some 12), none, .fad 0 (.t 2)⟩,
 ⟨(some 13), none, .load none (.t 12)⟩,
 ⟨(some 14), none, .fad 1 (.t 2)⟩,
 ⟨(some 15), none, .load none (.t 14)⟩,
 ⟨(some 16), none, .fad 1 (.t 3)⟩,
 ⟨(some 17), none, .load none (.t 16)⟩,
 ⟨(some 18), none, .bsl 1 [(.sl [] .nl)] 2 [(0, (.t 15)), (1, (.t 17))]⟩,
 ⟨(some 19), none, .call 56 [(.t 18)]⟩]
 [⟨(some 20), none, .call 55 [(.t 13), (.t 19)]⟩,
 ⟨none, none, .store 2 (.t 4) (.t 20)⟩])
 (.pre (.norm false [4]) .ret))
 .skip))
 (.seq
 (.reg [⟨(some 22), none, .fad 1 (.t 2)⟩,
 ⟨(some 23), none, .load none (.t 22)⟩,
 ⟨(some 24), none, .fad 1 (.t 3)⟩,
 ⟨(some 25), none, .load none (.t 24)⟩,
 ⟨(some 26), none, .call 57 [(.t 23), (.t 25)]⟩,
 ⟨(some 21), none, .mov (.t 26)⟩,
 ⟨(some 27), none, .ext (.t 21) 0⟩,
 ⟨(some 28), none, .ext (.t 21) 1⟩,
 ⟨(some 5), none, .mov (.t 27)⟩,
 ⟨(some 6), none, .mov (.t 28)⟩])
 (.seq
 (.seq
 (.reg [⟨(some 29), none, .mov (.t 6)⟩,
 ⟨(some 30), none, .bin .lss (.t 29) (.c (.i .i64 0))⟩])
 (.cond (.t 30)
 (.seq
 (.reg [⟨(some 31), none, .fad 0 (.t 3)⟩,
 ⟨(some 32), none, .load none (.t 31)⟩,
 ⟨(some 33), none, .mov (.t 5)⟩,
 ⟨(some 34), none, .call 55 [(.t 32), (.t 33)]⟩,
 ⟨none, none, .store 2 (.t 4) (.t 34)⟩])
 (.pre (.norm false [4]) .ret))
 .skip))
 (.seq
 (.reg [⟨(some 35), none, .fad 0 (.t 2)⟩,
 ⟨(some 36), none, .load none (.t 35)⟩,
 ⟨(some 37), none, .mov (.t 5)⟩,
 ⟨(some 38), none, .call 55 [(.t 36), (.t 37)]⟩,
 ⟨none, none, .store 2 (.t 4) (.t 38)⟩])
 (.pre (.norm false [4]) .ret))))))
def b25 : AX :=
 (.seq
 (.reg [⟨(some 2), none, .xop (.box 2) [(.t 0)]⟩,
 ⟨(some 3), none, .xop (.box 2) [(.t 1)]⟩,
 ⟨(some 4), none, .alloc [(.b false), (.sl [] .nl)]⟩])
 (.seq
 (.drawT [⟨(some 5), none, .load (some 2) (.t 2)⟩,
 ⟨(some 6), none, .load (some 2) (.t 3)⟩,
 ⟨(some 7), none, .call 40 [(.t 6)]⟩]
 [⟨(some 8), none, .call 23 [(.t 5), (.t 7)]⟩,
 ⟨none, none, .store 2 (.t 4) (.t 8)⟩])
 (.pre (.norm false [4]) .ret)))
def b27 : AX :=
 (.seq
 (.reg [⟨(some 2), none, .xop (.box 2) [(.t 0)]⟩,
 ⟨(some 3), none, .xop (.box 2) [(.t 1)]⟩,
 ⟨(some 4), none, .alloc [(.b false), (.sl [] .nl)]⟩])
 (.seq
 (.drawT [⟨(some 5), none, .fad 0 (.t 2)⟩,
 ⟨(some 6), none, .load none (.t 5)⟩,
 ⟨(some 7), none, .fad 0 (.t 3)⟩,
 ⟨(some 8), none, .load none (.t 7)⟩,
 ⟨(some 9), none, .eqb true (.t 6) (.t 8)⟩,
 ⟨(some 10), none, .fad 1 (.t 2)⟩,
 ⟨(some 11), none, .load none (.t 10)⟩,
 ⟨(some 12), none, .fad 1 (.t 3)⟩,
 ⟨(some 13), none, .load none (.t 12)⟩,
 ⟨(some 14), none, .call 60 [(.t 11), (.t 13)]⟩]
 [⟨(some 15), none, .call 55 [(.t 9), (.t 14)]⟩,
 ⟨none, none, .store 2 (.t 4) (.t 15)⟩])
 (.pre (.norm false [4]) .ret)))
def b37 : AX :=
 (.seq
 (.reg [⟨(some 1), none, .xop (.box 2) [(.t 0)]⟩,
 ⟨(some 2), none, .mov (.c (.i .i64 0))⟩])
 (.seq
 (.block 0
 (.seq
 (.reg [⟨(some 4), none, .fad 1 (.t 1)⟩,
 ⟨(some 5), none, .load none (.t 4)⟩,
 ⟨(some 6), none, .call 70 [(.t 5)]⟩,
 ⟨(some 3), none, .mov (.t 6)⟩])
 (.cond (.t 3)
 (.seq
 (.reg [⟨(some 2), none, .mov (.c (.i .i64 0))⟩])
 (.pre (.norm false [2]) .ret))
 (.seq
 (.reg [⟨(some 8), none, .fad 0 (.t 1)⟩,
 ⟨(some 9), none, .load none (.t 8)⟩,
 ⟨(some 7), none, .mov (.t 9)⟩])
 (.cond (.t 7)
 (.seq
 (.reg [⟨(some 2), none, .mov (.c (.i .i64 (-1)))⟩])
 (.pre (.norm false [2]) .ret))
 .skip)))))
 (.seq
 (.reg [⟨(some 2), none, .mov (.c (.i .i64 1))⟩])
 (.pre (.norm false [2]) .ret))))
def b36 : AX :=
 (.seq
 (.reg [⟨(some 2), none, .xop (.box 2) [(.t 0)]⟩,
 ⟨(some 3), none, .xop (.box 2) [(.t 1)]⟩,
 ⟨(some 4), none, .mov (.c (.i .i64 0))⟩])
 (.seq
 (.reg [⟨(some 5), none, .load (some 2) (.t 2)⟩,
 ⟨(some 6), none, .load (some 2) (.t 3)⟩,
 ⟨(some 7), none, .call 25 [(.t 5), (.t 6)]⟩,
 ⟨(some 8), none, .call 37 [(.t 7)]⟩,
 ⟨(some 4), none, .mov (.t 8)⟩])
 (.pre (.norm false [4]) .ret)))
def b29 : AX :=
 (.seq
 (.reg [⟨(some 2), none, .xop (.box 2) [(.t 0)]⟩,
 ⟨(some 3), none, .xop (.box 2) [(.t 1)]⟩,
 ⟨(some 4), none, .alloc [(.b false), (.sl [] .nl)]⟩,
 ⟨(some 5), none, .alloc [(.b false), (.sl [] .nl)]⟩,
 ⟨(some 6), none, .mov (.c (.b false))⟩])
 (.seq
 (.reg [⟨(some 10), none, .fad 1 (.t 2)⟩,
 ⟨(some 11), none, .load none (.t 10)⟩,
 ⟨(some 12), none, .fad 1 (.t 3)⟩,
 ⟨(some 13), none, .load none (.t 12)⟩,
 ⟨(some 14), none, .call 62 [(.t 11), (.t 13)]⟩,
 ⟨(some 9), none, .mov (.t 14)⟩,
 ⟨(some 15), none, .ext (.t 9) 0⟩,
 ⟨(some 16), none, .ext (.t 9) 1⟩,
 ⟨(some 17), none, .ext (.t 9) 2⟩,
 ⟨(some 7), none, .mov (.t 15)⟩,
 ⟨(some 8), none, .mov (.t 16)⟩,
 ⟨(some 6), none, .mov (.t 17)⟩])
 (.seq
 (.seq
 (.reg [⟨(some 18), none, .mov (.t 6)⟩,
 ⟨(some 19), none, .un .not (.t 18)⟩])
 (.cond (.t 19)
 (.seq
 (.reg [⟨(some 20), none, .build [(.b false), (.sl [] .nl)] []⟩,
 ⟨(some 21), none, .build [(.b false), (.sl [] .nl)] []⟩,
 ⟨none, none, .store 2 (.t 4) (.t 20)⟩,
 ⟨none, none, .store 2 (.t 5) (.t 21)⟩,
 ⟨(some 6), none, .mov (.c (.b false))⟩])
 (.pre (.norm false [4, 5, 6]) .ret))
 .skip))
 (.seq
 (.reg [⟨(some 22), none, .fad 0 (.t 2)⟩,
 ⟨(some 23), none, .load none (.t 22)⟩,
 ⟨(some 24), none, .fad 0 (.t 3)⟩,
 ⟨(some 25), none, .load none (.t 24)⟩,
 ⟨(some 26), none, .eqb true (.t 23) (.t 25)⟩,
 ⟨(some 27), none, .mov (.t 7)⟩,
 ⟨(some 28), none, .call 55 [(.t 26), (.t 27)]⟩,
 ⟨none, none, .store 2 (.t 4) (.t 28)⟩])
 (.seq
 (.drawT [⟨(some 29), none, .load (some 2) (.t 2)⟩,
 ⟨(some 30), none, .load (some 2) (.t 4)⟩,
 ⟨(some 31), none, .load (some 2) (.t 3)⟩,
 ⟨(some 32), none, .call 27 [(.t 30), (.t 31)]⟩]
 [⟨(some 33), none, .call 25 [(.t 29), (.t 32)]⟩,
 ⟨none, none, .store 2 (.t 5) (.t 33)⟩])
 (.seq
 (.seq
 (.drawT [⟨(some 34), none, .load (some 2) (.t 5)⟩,
 ⟨(some 35), none, .call 37 [(.t 34)]⟩,
 ⟨(some 36), none, .load (some 2) (.t 3)⟩]
 [⟨(some 37), none, .call 37 [(.t 36)]⟩,
 ⟨(some 38), none, .bin .mul (.t 35) (.t 37)⟩,
 ⟨(some 39), none, .bin .lss (.t 38) (.c (.i .i64 0))⟩])
 (.cond (.t 39)
 (.seq
 (.drawT [⟨(some 40), none, .load (some 2) (.t 4)⟩,
 ⟨(some 41), none, .call 41 [(.c (.i .i64 1))]⟩]
 [⟨(some 42), none, .call 25 [(.t 40), (.t 41)]⟩,
 ⟨none, none, .store 2 (.t 4) (.t 42)⟩])
 (.reg [⟨(some 43), none, .load (some 2) (.t 5)⟩,
 ⟨(some 44), none, .load (some 2) (.t 3)⟩,
 ⟨(some 45), none, .call 23 [(.t 43), (.t 44)]⟩,
 ⟨none, none, .store 2 (.t 5) (.t 45)⟩]))
 .skip))
 (.seq
 (.draw [⟨⟨(some 46), none, .load (some 2) (.t 4)⟩, 0, 0⟩,
 ⟨⟨(some 47), none, .load (some 2) (.t 5)⟩, 0, 1⟩,
 ⟨⟨none, none, .store 2 (.t 4) (.t 46)⟩, 0, 1⟩,
 ⟨⟨none, none, .store 2 (.t 5) (.t 47)⟩, 1, 2⟩,
 ⟨⟨(some 6), none, .mov (.c (.b true))⟩, 2, 2⟩])
 (.pre (.norm false [4, 5, 6]) .ret))))))))
def b34 : AX :=
 (.seq
 (.reg [⟨(some 1), none, .xop (.box 2) [(.t 0)]⟩,
 ⟨(some 2), none, .mov (.c (.s []))⟩])
 (.seq
 (.reg [⟨(some 4), none, .fad 1 (.t 1)⟩,
 ⟨(some 5), none, .load none (.t 4)⟩,
 ⟨(some 6), none, .call 68 [(.t 5)]⟩,
 ⟨(some 3), none, .mov (.t 6)⟩])
 (.seq
 (.seq
 (.reg [⟨(some 7), none, .load (some 2) (.t 1)⟩,
 ⟨(some 8), none, .call 37 [(.t 7)]⟩,
 ⟨(some 9), none, .bin .lss (.t 8) (.c (.i .i64 0))⟩])
 (.cond (.t 9)
 (.seq
 (.reg [⟨(some 10), none, .mov (.t 3)⟩,
 ⟨(some 11), none, .bin .add (.c (.s [45])) (.t 10)⟩,
 ⟨(some 2), none, .mov (.t 11)⟩])
 (.pre (.norm false [2]) .ret))
 .skip))
 (.seq
 (.reg [⟨(some 12), none, .mov (.t 3)⟩,
 ⟨(some 2), none, .mov (.t 12)⟩])
 (.pre (.norm false [2]) .ret)))))
def b32 : AX :=
 (.seq
 (.reg [⟨(some 2), none, .alloc [(.b false), (.sl [] .nl)]⟩,
 ⟨(some 3), none, .alloc [(.i .i64 0), (.i .i64 0), (.i .i64 0), (.i .i64 0)]⟩])
 (.seq
 (.reg [⟨(some 9), none, .mov (.t 0)⟩,
 ⟨(some 10), none, .call 64 [(.t 9), (.c (.s [45]))]⟩,
 ⟨(some 8), none, .mov (.t 10)⟩,
 ⟨(some 11), none, .ext (.t 8) 0⟩,
 ⟨(some 12), none, .ext (.t 8) 1⟩,
 ⟨(some 4), none, .mov (.t 11)⟩,
 ⟨(some 5), none, .mov (.t 12)⟩])
 (.seq
 (.reg [⟨(some 14), none, .mov (.t 4)⟩,
 ⟨(some 15), none, .call 65 [(.t 14)]⟩,
 ⟨(some 13), none, .mov (.t 15)⟩,
 ⟨(some 16), none, .ext (.t 13) 0⟩,
 ⟨(some 17), none, .ext (.t 13) 1⟩,
 ⟨(some 7), none, .alloc [(.i .i64 0), (.i .i64 0), (.i .i64 0), (.i .i64 0)]⟩,
 ⟨(some 6), none, .mov (.t 16)⟩,
 ⟨none, none, .store 4 (.t 7) (.t 17)⟩])
 (.seq
 (.seq
 (.reg [⟨(some 18), none, .load (some 4) (.t 7)⟩,
 ⟨(some 19), none, .build [(.i .i64 0), (.i .i64 0), (.i .i64 0), (.i .i64 0)] []⟩,
 ⟨(some 20), none, .eqs true [(0, .int), (1, .int), (2, .int), (3, .int)] (.t 18) (.t 19)⟩])
 (.cond (.t 20)
 (.seq
 (.reg [⟨(some 21), none, .fad 3 (.t 7)⟩,
 ⟨(some 22), none, .load none (.t 21)⟩,
 ⟨(some 23), none, .mov (.t 0)⟩,
 ⟨(some 24), none, .lens (.t 23)⟩,
 ⟨(some 25), none, .mov (.t 4)⟩,
 ⟨(some 26), none, .lens (.t 25)⟩,
 ⟨(some 27), none, .bin .sub (.t 24) (.t 26)⟩,
 ⟨(some 28), none, .bin .add (.t 22) (.t 27)⟩,
 ⟨(some 29), none, .fad 3 (.t 7)⟩,
 ⟨none, none, .store 1 (.t 29) (.t 28)⟩])
 (.seq
 (.draw [⟨⟨(some 30), none, .build [(.b false), (.sl [] .nl)] []⟩, 0, 0⟩,
 ⟨⟨(some 31), none, .load (some 4) (.t 7)⟩, 0, 1⟩,
 ⟨⟨none, none, .store 2 (.t 2) (.t 30)⟩, 0, 1⟩,
 ⟨⟨none, none, .store 4 (.t 3) (.t 31)⟩, 1, 2⟩])
 (.pre (.norm false [2, 3]) .ret)))
 .skip))
 (.seq
 (.reg [⟨(some 32), none, .mov (.t 5)⟩,
 ⟨(some 33), none, .mov (.t 6)⟩,
 ⟨(some 34), none, .call 55 [(.t 32), (.t 33)]⟩,
 ⟨(some 35), none, .build [(.i .i64 0), (.i .i64 0), (.i .i64 0), (.i .i64 0)] []⟩,
 ⟨none, none, .store 2 (.t 2) (.t 34)⟩,
 ⟨none, none, .store 4 (.t 3) (.t 35)⟩])
 (.pre (.norm false [2, 3]) .ret))))))
class CWhole (T : Tbl) : Prop where
 h38 : T 38 = some ⟨1, 9, [.cell 2 (some 2)], b38, none, false⟩
 h23 : T 23 = some ⟨2, 39, [.cell 4 (some 2)], b23, none, false⟩
 h25 : T 25 = some ⟨2, 9, [.cell 4 (some 2)], b25, none, false⟩
 h27 : T 27 = some ⟨2, 16, [.cell 4 (some 2)], b27, none, false⟩
 h37 : T 37 = some ⟨1, 10, [.t 2], b37, none, false⟩
 h36 : T 36 = some ⟨2, 9, [.t 4], b36, none, false⟩
 h29 : T 29 = some ⟨2, 48, [.cell 4 (some 2), .cell 5 (some 2), .t 6], b29, none, false⟩
 h34 : T 34 = some ⟨1, 13, [.t 2], b34, none, false⟩
 h32 : T 32 = some ⟨1, 36, [.cell 2 (some 2), .cell 3 (some 4)], b32, none, false⟩
section
variable {T : Tbl} [CWhole T] {d : Option Nat} {st : St}
@[simp] theorem x38 (xs : List AV) : callX (orc T) T 38 xs d st = bL (frzL st.heap xs) fun ys => cR (callF T 38 (ys.map (wkIf false))) xs d st := callX_pure CWhole.h38
@[simp] theorem x23 (xs : List AV) : callX (orc T) T 23 xs d st = bL (frzL st.heap xs) fun ys => cR (callF T 23 (ys.map (wkIf false))) xs d st := callX_pure CWhole.h23
@[simp] theorem x25 (xs : List AV) : callX (orc T) T 25 xs d st = bL (frzL st.heap xs) fun ys => cR (callF T 25 (ys.map (wkIf false))) xs d st := callX_pure CWhole.h25
@[simp] theorem x27 (xs : List AV) : callX (orc T) T 27 xs d st = bL (frzL st.heap xs) fun ys => cR (callF T 27 (ys.map (wkIf false))) xs d st := callX_pure CWhole.h27
@[simp] theorem x37 (xs : List AV) : callX (orc T) T 37 xs d st = bL (frzL st.heap xs) fun ys => cR (callF T 37 (ys.map (wkIf false))) xs d st := callX_pure CWhole.h37
@[simp] theorem x36 (xs : List AV) : callX (orc T) T 36 xs d st = bL (frzL st.heap xs) fun ys => cR (callF T 36 (ys.map (wkIf false))) xs d st := callX_pure CWhole.h36
@[simp] theorem x29 (xs : List AV) : callX (orc T) T 29 xs d st = bL (frzL st.heap xs) fun ys => cR (callF T 29 (ys.map (wkIf false))) xs d st := callX_pure CWhole.h29
@[simp] theorem x34 (xs : List AV) : callX (orc T) T 34 xs d st = bL (frzL st.heap xs) fun ys => cR (callF T 34 (ys.map (wkIf false))) xs d st := callX_pure CWhole.h34
@[simp] theorem x32 (xs : List AV) : callX (orc T) T 32 xs d st = bL (frzL st.heap xs) fun ys => cR (callF T 32 (ys.map (wkIf false))) xs d st := callX_pure CWhole.h32
end
end Go.Ab
end

section
namespace Go.Ab
def l43_0 : AX :=
 (.note
 (.seq
 (.seq
 (.reg [⟨(some 6), none, .mov (.t 3)⟩,
 ⟨(some 7), none, .bin .gtr (.t 6) (.c (.i .i64 0))⟩,
 ⟨(some 8), none, .mov (.t 7)⟩,
 ⟨(some 9), (some (8, true)), .mov (.t 0)⟩,
 ⟨(some 10), (some (8, true)), .mov (.t 3)⟩,
 ⟨(some 11), (some (8, true)), .bin .sub (.t 10) (.c (.i .i64 1))⟩,
 ⟨(some 12), (some (8, true)), .iad 1 (.t 9) (.t 11)⟩,
 ⟨(some 13), (some (8, true)), .load none (.t 12)⟩,
 ⟨(some 14), (some (8, true)), .bin .eql (.t 13) (.c (u32 0))⟩,
 ⟨(some 15), none, .pick (.t 8) (.t 14) (.c (.b false))⟩])
 (.cond (.t 15)
 .skip
 (.exit 0)))
 (.block 1
 (.reg [⟨(some 16), none, .mov (.t 3)⟩,
 ⟨(some 17), none, .bin .sub (.t 16) (.c (.i .i64 1))⟩,
 ⟨(some 3), none, .mov (.t 17)⟩])))
 (.norm false [0, 3]))
def b43 : AX :=
 (.seq
 (.reg [⟨(some 2), none, .mov (.c (.sl [] .nl))⟩])
 (.seq
 (.reg [⟨(some 4), none, .mov (.t 0)⟩,
 ⟨(some 5), none, .len (.t 4)⟩,
 ⟨(some 3), none, .mov (.t 5)⟩])
 (.seq
 (.lp 0 (.norm false [0, 3]) l43_0 (.norm false [0, 3]))
 (.seq
 (.reg [⟨(some 18), none, .bsl 1 [(u32 0)] 0 []⟩,
 ⟨(some 19), none, .mov (.t 0)⟩,
 ⟨(some 20), none, .mov (.t 3)⟩,
 ⟨(some 21), none, .slc 1 (.t 19) none (some (.t 20)) none⟩,
 ⟨(some 22), none, .app 1 (.t 18) (.t 21)⟩,
 ⟨(some 2), none, .mov (.t 22)⟩])
 (.pre (.norm false [2]) .ret)))))
def b84 : AX :=
 (.seq
 (.reg [⟨(some 4), none, .mov (.c (u32 0))⟩])
 (.seq
 (.seq
 (.reg [⟨(some 5), none, .mov (.t 1)⟩,
 ⟨(some 6), none, .mov (.t 0)⟩,
 ⟨(some 7), none, .len (.t 6)⟩,
 ⟨(some 8), none, .bin .lss (.t 5) (.t 7)⟩])
 (.cond (.t 8)
 (.seq
 (.reg [⟨(some 9), none, .mov (.t 0)⟩,
 ⟨(some 10), none, .mov (.t 1)⟩,
 ⟨(some 11), none, .iad 1 (.t 9) (.t 10)⟩,
 ⟨(some 12), none, .load none (.t 11)⟩,
 ⟨(some 4), none, .mov (.t 12)⟩])
 (.pre (.norm false [4]) .ret))
 .skip))
 (.seq
 (.reg [⟨(some 4), none, .mov (.c (u32 0))⟩])
 (.pre (.norm false [4]) .ret))))
def l52_0 : AX :=
 (.note
 (.seq
 (.seq
 (.reg [⟨(some 14), none, .mov (.t 5)⟩,
 ⟨(some 15), none, .bin .geq (.t 14) (.c (.i .i64 0))⟩])
 (.cond (.t 15)
 .skip
 (.exit 0)))
 (.seq
 (.block 1
 (.seq
 (.reg [⟨(some 18), none, .mov (.t 0)⟩,
 ⟨(some 19), none, .mov (.t 5)⟩,
 ⟨(some 20), none, .call 84 [(.t 18), (.t 19)]⟩,
 ⟨(some 6), none, .mov (.t 20)⟩])
 (.seq
 (.reg [⟨(some 21), none, .mov (.t 1)⟩,
 ⟨(some 22), none, .mov (.t 5)⟩,
 ⟨(some 23), none, .call 84 [(.t 21), (.t 22)]⟩,
 ⟨(some 7), none, .mov (.t 23)⟩])
 (.seq
 (.seq
 (.reg [⟨(some 24), none, .mov (.t 6)⟩,
 ⟨(some 25), none, .mov (.t 7)⟩,
 ⟨(some 26), none, .bin .lss (.t 24) (.t 25)⟩])
 (.cond (.t 26)
 (.seq
 (.reg [⟨(some 4), none, .mov (.c (.i .i64 (-1)))⟩])
 (.pre (.norm false [4]) .ret))
 .skip))
 (.seq
 (.reg [⟨(some 27), none, .mov (.t 6)⟩,
 ⟨(some 28), none, .mov (.t 7)⟩,
 ⟨(some 29), none, .bin .gtr (.t 27) (.t 28)⟩])
 (.cond (.t 29)
 (.seq
 (.reg [⟨(some 4), none, .mov (.c (.i .i64 1))⟩])
 (.pre (.norm false [4]) .ret))
 .skip))))))
 (.reg [⟨(some 16), none, .mov (.t 5)⟩,
 ⟨(some 17), none, .bin .sub (.t 16) (.c (.i .i64 1))⟩,
 ⟨(some 5), none, .mov (.t 17)⟩])))
 (.norm false [0, 1, 5]))
def b52 : AX :=
 (.seq
 (.reg [⟨(some 4), none, .mov (.c (.i .i64 0))⟩])
 (.seq
 (.seq
 (.reg [⟨(some 8), none, .mov (.t 0)⟩,
 ⟨(some 9), none, .len (.t 8)⟩,
 ⟨(some 10), none, .mov (.t 1)⟩,
 ⟨(some 11), none, .len (.t 10)⟩,
 ⟨(some 12), none, .mm true [(.t 9), (.t 11)]⟩,
 ⟨(some 13), none, .bin .sub (.t 12) (.c (.i .i64 1))⟩,
 ⟨(some 5), none, .mov (.t 13)⟩])
 (.lp 0 (.norm false [0, 1, 5]) l52_0 (.norm false [])))
 (.seq
 (.reg [⟨(some 4), none, .mov (.c (.i .i64 0))⟩])
 (.pre (.norm false [4]) .ret))))
def l54_0 : AX :=
 (.note
 (.seq
 (.seq
 (.reg [⟨(some 11), none, .mov (.t 5)⟩,
 ⟨(some 12), none, .mov (.t 0)⟩,
 ⟨(some 13), none, .len (.t 12)⟩,
 ⟨(some 14), none, .bin .lss (.t 11) (.t 13)⟩])
 (.cond (.t 14)
 .skip
 (.exit 0)))
 (.seq
 (.block 1
 (.seq
 (.drawT [⟨(some 17), none, .mov (.t 0)⟩,
 ⟨(some 18), none, .mov (.t 5)⟩,
 ⟨(some 19), none, .iad 1 (.t 17) (.t 18)⟩,
 ⟨(some 20), none, .load none (.t 19)⟩,
 ⟨(some 21), none, .mov (.t 1)⟩,
 ⟨(some 22), none, .mov (.t 5)⟩,
 ⟨(some 23), none, .iad 1 (.t 21) (.t 22)⟩,
 ⟨(some 24), none, .load none (.t 23)⟩]
 [⟨(some 25), none, .bin .neq (.t 20) (.t 24)⟩])
 (.cond (.t 25)
 (.seq
 (.reg [⟨(some 4), none, .mov (.c (.b false))⟩])
 (.pre (.norm false [4]) .ret))
 .skip)))
 (.reg [⟨(some 15), none, .mov (.t 5)⟩,
 ⟨(some 16), none, .bin .add (.t 15) (.c (.i .i64 1))⟩,
 ⟨(some 5), none, .mov (.t 16)⟩])))
 (.norm false [0, 1, 5]))
def b54 : AX :=
 (.seq
 (.reg [⟨(some 4), none, .mov (.c (.b false))⟩])
 (.seq
 (.seq
 (.reg [⟨(some 6), none, .mov (.t 0)⟩,
 ⟨(some 7), none, .len (.t 6)⟩,
 ⟨(some 8), none, .mov (.t 1)⟩,
 ⟨(some 9), none, .len (.t 8)⟩,
 ⟨(some 10), none, .bin .neq (.t 7) (.t 9)⟩])
 (.cond (.t 10)
 (.seq
 (.reg [⟨(some 4), none, .mov (.c (.b false))⟩])
 (.pre (.norm false [4]) .ret))
 .skip))
 (.seq
 (.seq
 (.reg [⟨(some 5), none, .mov (.c (.i .i64 0))⟩])
 (.lp 0 (.norm false [0, 1, 5]) l54_0 (.norm false [])))
 (.seq
 (.reg [⟨(some 4), none, .mov (.c (.b true))⟩])
 (.pre (.norm false [4]) .ret)))))
class CRef02 (T : Tbl) : Prop where
 h43 : T 43 = some ⟨1, 23, [.t 2], b43, none, false⟩
 h84 : T 84 = some ⟨2, 13, [.t 4], b84, none, false⟩
 h52 : T 52 = some ⟨2, 30, [.t 4], b52, none, false⟩
 h54 : T 54 = some ⟨2, 26, [.t 4], b54, none, false⟩
section
variable {T : Tbl} [CRef02 T] {d : Option Nat} {st : St}
@[simp] theorem y43 {e : Env} {h : Heap} {older : List Heap} (args : List Opd) : opD (orc T) T (.call 43 args) e h older = dR (callF T 43 ((args.map (ev e.get)).map (wkIf false))) (args.map (ev e.get)) := opD_call CRef02.h43
theorem f43 (xs : List AV) (hn : xs.length = 1) : callF T 43 xs = retF [.t 2] false (evX (orc T) T 0 b43 ⟨argEnv xs, [], 1⟩) := callF_eq CRef02.h43 hn
@[simp] theorem x84 (xs : List AV) : callX (orc T) T 84 xs d st = bL (frzL st.heap xs) fun ys => cR (callF T 84 (ys.map (wkIf false))) xs d st := callX_pure CRef02.h84
theorem f84 (xs : List AV) (hn : xs.length = 2) : callF T 84 xs = retF [.t 4] false (evX (orc T) T 0 b84 ⟨argEnv xs, [], 1⟩) := callF_eq CRef02.h84 hn
@[simp] theorem x52 (xs : List AV) : callX (orc T) T 52 xs d st = bL (frzL st.heap xs) fun ys => cR (callF T 52 (ys.map (wkIf false))) xs d st := callX_pure CRef02.h52
theorem f52 (xs : List AV) (hn : xs.length = 2) : callF T 52 xs = retF [.t 4] false (evX (orc T) T 0 b52 ⟨argEnv xs, [], 1⟩) := callF_eq CRef02.h52 hn
@[simp] theorem x54 (xs : List AV) : callX (orc T) T 54 xs d st = bL (frzL st.heap xs) fun ys => cR (callF T 54 (ys.map (wkIf false))) xs d st := callX_pure CRef02.h54
theorem f54 (xs : List AV) (hn : xs.length = 2) : callF T 54 xs = retF [.t 4] false (evX (orc T) T 0 b54 ⟨argEnv xs, [], 1⟩) := callF_eq CRef02.h54 hn
end
end Go.Ab
end

section
namespace Go.Ab
section
variable {T : Tbl}
theorem ref02_norm_loop (a : List UInt32) (hl : a.length < 9223372036854775808) {n : Nat} (hn : n ≤ a.length) (h0 : ∀ (i : Nat) (x : UInt32), n ≤ i → a[i]? = some x → x.toNat = 0) (h1 : ∀ x : UInt32, 0 < n → a[n - 1]? = some x → x.toNat ≠ 0) :
  ∀ m : Nat, (n ≤ m ∧ m ≤ a.length) → loopN T 0 0 (.norm false [0, 3]) l43_0 ⟨[(0, .sl (u32s a) .an), (3, .i .i64 (m : Int))], [], 2⟩ = some (.n, ⟨[(0, .sl (u32s a) .an), (3, .i .i64 (n : Int))], [], 2⟩) := by
 refine loopN_eq (fun m : Nat => ⟨[(0, .sl (u32s a) .an), (3, .i .i64 (m : Int))], [], 2⟩) _ (fun m => m) _ ?_
 rintro m ⟨hm, hma⟩
 by_cases h2 : m = 0
 ·right
  subst h2
  have : n = 0 := by omega
  subst this
  constructor <;> simp [l43_0]
 ·have hw : IntKind.wrap .i64 ((m : Int) - 1) = ((m - 1 : Nat) : Int) := by rw [wrap_i64 _ (by omega)]; omega
  have hm1 : m - 1 < a.length := by omega
  have hg : a[m - 1]? = some (a[m - 1]'hm1) := List.getElem?_eq_getElem hm1
  have hpos : 0 < m := by omega
  by_cases h3 : m = n
  ·right
   subst h3
   have hx := h1 _ hpos hg
   constructor <;> simp [l43_0, hpos, hw, hm1, hx]
  ·left
   refine ⟨m - 1, ⟨by omega, by omega⟩, by show m - 1 < m; omega, ?_, rfl⟩
   have hx := h0 (m - 1) _ (by omega) hg
   simp [l43_0, hpos, hw, hm1, hx]
end
section
variable {T : Tbl} [CRef02 T]
theorem ref02_norm (a : List UInt32) (hl : a.length ≤ 1000000) : callF T 43 [.sl (u32s a) .an] = some (.sl (u32s (ofN (val a))) .an) := by
 obtain ⟨n, h1, h2, h3, h4⟩ := ofN_take a
 have hr := ref02_norm_loop (T := T) a (by omega) h1 h3 h4 a.length ⟨h1, Nat.le_refl _⟩
 have hlen : (ofN (val a)).length = n := by rw [← h2]; simp; omega
 have hb : n ≤ 4294967296 := by omega
 have hb2 : (ofN (val a)).length ≤ 4294967296 := by omega
 rw [f43 _ rfl, b43]
 simp [hr, h1, h2, hlen, hb]
 rw [List.take_of_length_le (by omega)]
def atW (a : List UInt32) (i : Nat) : Nat := (a[i]?.map UInt32.toNat).getD 0
theorem val_take_atW (a : List UInt32) (i : Nat) : val (a.take (i + 1)) = val (a.take i) + 4294967296 ^ i * atW a i := by
 unfold atW
 cases h : a[i]? with
 | some x => exact val_take_succ h
 | none =>
  have : a.length ≤ i := by
   rcases Nat.lt_or_ge i a.length with h1 | h1
   ·rw [List.getElem?_eq_getElem h1] at h; cases h
   ·exact h1
  rw [val_take_all (by omega), val_take_all this]
  simp
theorem ref02_at (a : List UInt32) (i : Nat) (_hl : a.length ≤ 1000000) : callF T 84 [.sl (u32s a) .an, .i .i64 i] = some (u32 (atW a i)) := by
 rw [f84 _ rfl, b84]
 unfold atW
 by_cases h : i < a.length
 ·have hg : a[i]? = some (a[i]'h) := List.getElem?_eq_getElem h
  simp [h]
 ·have hg : a[i]? = none := List.getElem?_eq_none (by omega)
  simp [h]
theorem ref02_cmp_loop (a b : List UInt32) (hl : a.length ≤ 1000000) (hl2 : b.length ≤ 1000000) : ∀ m : Nat, m ≤ 1000000 →
  loopN T 0 0 (.norm false []) l52_0 ⟨[(0, .sl (u32s a) .an), (1, .sl (u32s b) .an), (5, .i .i64 ((m : Int) - 1))], [], 2⟩ =
   if val (a.take m) < val (b.take m) then some (.r, ⟨[(4, .i .i64 (-1))], [], 2⟩) else if val (b.take m) < val (a.take m) then some (.r, ⟨[(4, .i .i64 1)], [], 2⟩) else some (.n, ⟨[], [], 2⟩) := by
 refine loopN_eq (fun m : Nat => ⟨[(0, .sl (u32s a) .an), (1, .sl (u32s b) .an), (5, .i .i64 ((m : Int) - 1))], [], 2⟩) _ (fun m => m) _ ?_
 intro m hm
 cases m with
 | zero =>
  right
  constructor <;> simp [l52_0]
 | succ i =>
  have hw : IntKind.wrap .i64 ((i : Int) - 1) = (i : Int) - 1 := wrap_i64 _ (by omega)
  have ca := ref02_at (T := T) a i hl
  have cb := ref02_at (T := T) b i hl2
  have e1 := val_take_atW a i
  have e2 := val_take_atW b i
  have b1 := val_lt (a.take i)
  have b2 := val_lt (b.take i)
  have p1 : 4294967296 ^ (a.take i).length ≤ 4294967296 ^ i := Nat.pow_le_pow_right (by decide) (by simp; omega)
  have p2 : 4294967296 ^ (b.take i).length ≤ 4294967296 ^ i := Nat.pow_le_pow_right (by decide) (by simp; omega)
  rcases Nat.lt_trichotomy (atW a i) (atW b i) with h1 | h1 | h1
  ·right
   have h3 := Nat.mul_le_mul_left (4294967296 ^ i) (show atW a i + 1 ≤ atW b i from h1)
   rw [Nat.mul_add] at h3
   have h2 : val (a.take (i + 1)) < val (b.take (i + 1)) := by omega
   constructor <;> simp [l52_0, ca, cb, h1, h2]
  ·left
   refine ⟨i, by omega, Nat.lt_succ_self i, ?_, ?_⟩
   ·simp [l52_0, ca, cb, h1, hw]
   ·rw [e1, e2, h1]
    have e3 : (val (a.take i) + 4294967296 ^ i * atW b i < val (b.take i) + 4294967296 ^ i * atW b i) = (val (a.take i) < val (b.take i)) := by
     apply propext; omega
    have e4 : (val (b.take i) + 4294967296 ^ i * atW b i < val (a.take i) + 4294967296 ^ i * atW b i) = (val (b.take i) < val (a.take i)) := by
     apply propext; omega
    simp only [e3, e4]
  ·right
   have h3 := Nat.mul_le_mul_left (4294967296 ^ i) (show atW b i + 1 ≤ atW a i from h1)
   rw [Nat.mul_add] at h3
   have h2 : val (b.take (i + 1)) < val (a.take (i + 1)) := by omega
   have h4 : ¬ val (a.take (i + 1)) < val (b.take (i + 1)) := by omega
   have h5 : ¬ atW a i < atW b i := by omega
   constructor <;> simp [l52_0, ca, cb, h1, h2, h4, h5]
theorem ref02_cmp (a b : List UInt32) (ha : a.length ≤ 1000000) (hb : b.length ≤ 1000000) : callF T 52 [.sl (u32s a) .an, .sl (u32s b) .an] = some (.i .i64 (cmpN (val a) (val b))) := by
 have hc := ref02_cmp_loop (T := T) a b ha hb (max a.length b.length) (by omega)
 rw [List.take_of_length_le (by omega), List.take_of_length_le (by omega)] at hc
 have e : (if (a.length : Int) < b.length then (b.length : Int) else a.length) = ((max a.length b.length : Nat) : Int) := by split <;> omega
 have hw : IntKind.wrap .i64 (((max a.length b.length : Nat) : Int) - 1) = ((max a.length b.length : Nat) : Int) - 1 := wrap_i64 _ (by omega)
 rw [f52 _ rfl, b52]
 simp at e hw hc
 simp [e, hw, hc, cmpN]
 repeat' split
 all_goals simp
end
section
variable {T : Tbl}
theorem ref02_same_loop (a b : List UInt32) (hab : a.length = b.length) (hl : a.length ≤ 1000000) : ∀ i : Nat, i ≤ a.length →
  loopN T 0 0 (.norm false []) l54_0 ⟨[(0, .sl (u32s a) .an), (1, .sl (u32s b) .an), (5, .i .i64 i)], [], 2⟩ = if a.drop i = b.drop i then some (.n, ⟨[], [], 2⟩) else some (.r, ⟨[(4, .b false)], [], 2⟩) := by
 refine loopN_eq (fun i : Nat => ⟨[(0, .sl (u32s a) .an), (1, .sl (u32s b) .an), (5, .i .i64 i)], [], 2⟩) _ (fun i => a.length - i) _ ?_
 intro i hi
 by_cases h0 : i < a.length
 ·have h1 : i < b.length := by omega
  have ha : a[i]? = some (a[i]'h0) := List.getElem?_eq_getElem h0
  have hb : b[i]? = some (b[i]'h1) := List.getElem?_eq_getElem h1
  have hw : IntKind.wrap .i64 ((i : Int) + 1) = ((i + 1 : Nat) : Int) := wrap_i64 _ (by omega)
  have hda : a.drop i = a[i]'h0 :: a.drop (i + 1) := List.drop_eq_getElem_cons h0
  have hdb : b.drop i = b[i]'h1 :: b.drop (i + 1) := List.drop_eq_getElem_cons h1
  by_cases h2 : a[i]'h0 = b[i]'h1
  ·left
   refine ⟨i + 1, h0, by show a.length - (i + 1) < a.length - i; omega, ?_, ?_⟩
   ·simp [l54_0, h0, h1, h2, hw]
   ·rw [hda, hdb, h2]
    simp only [List.cons.injEq, true_and]
  ·right
   have h3 : ¬ (a[i]'h0).toNat = (b[i]'h1).toNat := fun h => h2 (UInt32.toNat_inj.1 h)
   have h4 : ¬ a.drop i = b.drop i := by rw [hda, hdb]; intro h; exact h2 (List.cons.inj h).1
   constructor <;> simp [l54_0, h0, h1, h3, h4]
 ·right
  have h4 : a.drop i = b.drop i := by rw [List.drop_of_length_le (by omega), List.drop_of_length_le (by omega)]
  have h5 : ¬ (i : Int) < a.length := by omega
  constructor <;> simp [l54_0, h4, h5]
end
section
variable {T : Tbl} [CRef02 T]
theorem ref02_same (a b : List UInt32) (ha : a.length ≤ 1000000) : callF T 54 [.sl (u32s a) .an, .sl (u32s b) .an] = some (.b (decide (a = b))) := by
 rw [f54 _ rfl, b54]
 by_cases h : a.length = b.length
 ·have hc := ref02_same_loop (T := T) a b h ha 0 (Nat.zero_le _)
  simp at hc
  have h2 : (a.length : Int) = b.length := by omega
  by_cases h3 : a = b
  ·subst h3
   simp at hc
   simp [hc]
  ·rw [if_neg h3] at hc
   simp [h, hc, h3]
 ·have h3 : ¬ a = b := fun he => h (by rw [he])
  have h2 : ¬ (a.length : Int) = b.length := by omega
  simp [h2, h3]
def stAdd2 (a b : List UInt32) (n : Nat) (y : Nat × Nat × List UInt32) : St :=
 ⟨[(0, .sl (u32s a) .an), (1, .sl (u32s b) .an), (5, .i .i64 n), (6, .bs (.loc 16) 1 1 0 n), (7, u64 y.2.1), (8, .i .i64 y.1)], [(.loc 16, ⟨1, .own, 1, u32s y.2.2⟩)], 3⟩
def stSub2 (a b : List UInt32) (n : Nat) (y : Nat × Nat × List UInt32) : St :=
 ⟨[(0, .sl (u32s a) .an), (1, .sl (u32s b) .an), (5, .i .i64 n), (6, .bs (.loc 17) 1 1 0 n), (7, u64 y.2.1), (8, .i .i64 y.1)], [(.loc 17, ⟨1, .own, 1, u32s y.2.2⟩)], 3⟩
end
end Go.Ab
end

section
namespace Go.Ab
class CRef04 (T : Tbl) : Prop extends CRef02 T where
end Go.Ab
end

section
namespace Go.Ab
section
variable {T : Tbl} [CRef04 T]
def stIn4 (P S a b : List UInt32) (y : Nat × Nat × List UInt32) : St :=
 ⟨[(0, .sl (u32s a) .an), (1, .sl (u32s b) .an), (5, .bs (.loc 14) 1 1 0 (P.length + S.length)), (6, .i .i64 P.length), (7, u64 y.2.1), (8, .i .i64 y.1)], [(.loc 14, ⟨1, .own, 1, u32s (P ++ (y.2.2 ++ S.drop y.1))⟩)], 3⟩
end
section
variable {T : Tbl} [CRef04 T]
def stMul4 (a b : List UInt32) (y : Nat × List UInt32) : St :=
 ⟨[(0, .sl (u32s a) .an), (1, .sl (u32s b) .an), (5, .bs (.loc 14) 1 1 0 (a.length + b.length)), (6, .i .i64 y.1)], [(.loc 14, ⟨1, .own, 1, u32s (y.2 ++ List.replicate (a.length - y.1) 0)⟩)], 3⟩
end
end Go.Ab
end

section
namespace Go.Ab
def l63_0 : AX :=
 (.note
 (.seq
 (.seq
 (.reg [⟨(some 19), none, .mov (.t 8)⟩,
 ⟨(some 20), none, .bin .geq (.t 19) (.c (.i .i64 0))⟩])
 (.cond (.t 20)
 .skip
 (.exit 0)))
 (.seq
 (.block 1
 (.seq
 (.drawT [⟨(some 23), none, .mov (.t 7)⟩,
 ⟨(some 24), none, .mov (.t 0)⟩,
 ⟨(some 25), none, .mov (.t 8)⟩,
 ⟨(some 26), none, .bin .quo (.t 25) (.c (.i .i64 32))⟩,
 ⟨(some 27), none, .iad 1 (.t 24) (.t 26)⟩,
 ⟨(some 28), none, .load none (.t 27)⟩,
 ⟨(some 29), none, .mov (.t 8)⟩,
 ⟨(some 30), none, .bin .rem (.t 29) (.c (.i .i64 32))⟩,
 ⟨(some 31), none, .bin .shl (.c (u32 1)) (.t 30)⟩,
 ⟨(some 32), none, .bin .quo (.t 28) (.t 31)⟩,
 ⟨(some 33), none, .bin .rem (.t 32) (.c (u32 2))⟩,
 ⟨(some 34), none, .bin .eql (.t 33) (.c (u32 1))⟩]
 [⟨(some 35), none, .call 96 [(.t 23), (.t 34)]⟩])
 (.seq
 (.reg [⟨(some 36), none, .mov (.t 6)⟩,
 ⟨(some 37), none, .call 96 [(.t 36), (.c (.b false))]⟩])
 (.seq
 (.reg [⟨(some 38), none, .mov (.t 7)⟩,
 ⟨(some 39), none, .mov (.t 1)⟩,
 ⟨(some 40), none, .call 52 [(.t 38), (.t 39)]⟩,
 ⟨(some 41), none, .bin .geq (.t 40) (.c (.i .i64 0))⟩])
 (.cond (.t 41)
 (.seq
 (.reg [⟨(some 42), none, .mov (.t 7)⟩,
 ⟨(some 43), none, .mov (.t 1)⟩,
 ⟨(some 44), none, .call 97 [(.t 42), (.t 43)]⟩])
 (.reg [⟨(some 45), none, .mov (.t 6)⟩,
 ⟨(some 46), none, .iad 1 (.t 45) (.c (.i .i64 0))⟩,
 ⟨(some 47), none, .load none (.t 46)⟩,
 ⟨(some 48), none, .bin .add (.t 47) (.c (u32 1))⟩,
 ⟨(some 49), none, .iad 1 (.t 45) (.c (.i .i64 0))⟩,
 ⟨none, none, .store 1 (.t 49) (.t 48)⟩]))
 .skip)))))
 (.reg [⟨(some 21), none, .mov (.t 8)⟩,
 ⟨(some 22), none, .bin .sub (.t 21) (.c (.i .i64 1))⟩,
 ⟨(some 8), none, .mov (.t 22)⟩])))
 (.norm false [0, 1, 6, 7, 8]))
def b63 : AX :=
 (.seq
 (.reg [⟨(some 4), none, .mov (.c (.sl [] .nl))⟩,
 ⟨(some 5), none, .mov (.c (.sl [] .nl))⟩])
 (.seq
 (.reg [⟨(some 9), none, .mov (.t 0)⟩,
 ⟨(some 10), none, .len (.t 9)⟩,
 ⟨(some 11), none, .mks 1 [(u32 0)] (.t 10) (.t 10)⟩,
 ⟨(some 6), none, .mov (.t 11)⟩])
 (.seq
 (.reg [⟨(some 12), none, .mov (.t 1)⟩,
 ⟨(some 13), none, .len (.t 12)⟩,
 ⟨(some 14), none, .bin .add (.t 13) (.c (.i .i64 1))⟩,
 ⟨(some 15), none, .mks 1 [(u32 0)] (.t 14) (.t 14)⟩,
 ⟨(some 7), none, .mov (.t 15)⟩])
 (.seq
 (.seq
 (.reg [⟨(some 16), none, .mov (.t 0)⟩,
 ⟨(some 17), none, .call 95 [(.t 16)]⟩,
 ⟨(some 18), none, .bin .sub (.t 17) (.c (.i .i64 1))⟩,
 ⟨(some 8), none, .mov (.t 18)⟩])
 (.lp 0 (.norm false [0, 1, 6, 7, 8]) l63_0 (.norm false [6, 7])))
 (.seq
 (.reg [⟨(some 50), none, .mov (.t 6)⟩,
 ⟨(some 51), none, .call 43 [(.t 50)]⟩,
 ⟨(some 52), none, .mov (.t 7)⟩,
 ⟨(some 53), none, .call 43 [(.t 52)]⟩,
 ⟨(some 4), none, .mov (.t 51)⟩,
 ⟨(some 5), none, .mov (.t 53)⟩])
 (.pre (.norm false [4, 5]) .ret))))))
class CRef05 (T : Tbl) : Prop extends CRef04 T where
 h63 : T 63 = some ⟨2, 54, [.t 4, .t 5], b63, none, false⟩
end Go.Ab
end

section
namespace Go.Ab
section
variable {T : Tbl} [CRef05 T]
def stDb (a : List UInt32) (y : Nat × Nat × List UInt32) : St :=
 ⟨[(0, .bs (.bor 0) 0 1 0 a.length), (4, u32 y.2.1), (5, .i .i64 y.1)], [(.bor 0, ⟨0, .own, 1, u32s (y.2.2 ++ a.drop y.1)⟩)], 4⟩
end
section
variable {T : Tbl} [CRef05 T]
def stLs (a b : List UInt32) (y : Nat × Nat × List UInt32) : St :=
 ⟨[(0, .bs (.bor 0) 0 1 0 a.length), (1, .sl (u32s b) .an), (4, u64 y.2.1), (5, .i .i64 y.1)], [(.bor 0, ⟨0, .own, 1, u32s (y.2.2 ++ a.drop y.1)⟩)], 4⟩
def stHs (x i : Nat) (y : Nat) : St := ⟨[(1, .i .i64 i), (5, u32 (x / 2 ^ y)), (6, .i .i64 y)], [], 2⟩
end
section
variable {T : Tbl} [CRef05 T]
def stLn (a : List UInt32) (y : Nat) : St := ⟨[(0, .sl (u32s a) .an), (3, .i .i64 y)], [], 2⟩
end
end Go.Ab
end

section
namespace Go.Ab
section
variable {T : Tbl} [CRef05 T]
def stDv (a b : List UInt32) (y : Nat × List UInt32 × List UInt32) : St :=
  ⟨[(0, .sl (u32s a) .an), (1, .sl (u32s b) .an), (6, .bs (.loc 11) 1 1 0 a.length), (7, .bs (.loc 15) 2 1 0 (b.length + 1)), (8, .i .i64 ((y.1 : Int) - 1))], [(.loc 11, ⟨1, .own, 1, u32s y.2.1⟩), (.loc 15, ⟨2, .own, 1, u32s y.2.2⟩)], 4⟩
end
end Go.Ab
end

section
namespace Go.Ab
def l2043_0 : AX :=
 (.note
 (.seq
 (.seq
 (.reg [⟨(some 6), none, .mov (.t 3)⟩,
 ⟨(some 7), none, .bin .gtr (.t 6) (.c (.i .i64 0))⟩,
 ⟨(some 8), none, .mov (.t 7)⟩,
 ⟨(some 9), (some (8, true)), .mov (.t 0)⟩,
 ⟨(some 10), (some (8, true)), .mov (.t 3)⟩,
 ⟨(some 11), (some (8, true)), .bin .sub (.t 10) (.c (.i .i64 1))⟩,
 ⟨(some 12), (some (8, true)), .iad 1 (.t 9) (.t 11)⟩,
 ⟨(some 13), (some (8, true)), .load none (.t 12)⟩,
 ⟨(some 14), (some (8, true)), .bin .eql (.t 13) (.c (u32 0))⟩,
 ⟨(some 15), none, .pick (.t 8) (.t 14) (.c (.b false))⟩])
 (.cond (.t 15)
 .skip
 (.exit 0)))
 (.block 1
 (.reg [⟨(some 16), none, .mov (.t 3)⟩,
 ⟨(some 17), none, .bin .sub (.t 16) (.c (.i .i64 1))⟩,
 ⟨(some 3), none, .mov (.t 17)⟩])))
 (.norm false [0, 3]))
def b2043 : AX :=
 (.seq
 (.reg [⟨(some 2), none, .mov (.c (.sl [] .nl))⟩])
 (.seq
 (.reg [⟨(some 4), none, .mov (.t 0)⟩,
 ⟨(some 5), none, .len (.t 4)⟩,
 ⟨(some 3), none, .mov (.t 5)⟩])
 (.seq
 (.lp 0 (.norm false [0, 3]) l2043_0 (.norm false [0, 3]))
 (.seq
 (.reg [⟨(some 18), none, .bsl 1 [(u32 0)] 0 []⟩,
 ⟨(some 19), none, .mov (.t 0)⟩,
 ⟨(some 20), none, .mov (.t 3)⟩,
 ⟨(some 21), none, .slc 1 (.t 19) none (some (.t 20)) none⟩,
 ⟨(some 22), none, .app 1 (.t 18) (.t 21)⟩,
 ⟨(some 2), none, .mov (.t 22)⟩])
 (.pre (.norm false [2]) .ret)))))
def l105_0 : AX :=
 (.note
 (.seq
 (.seq
 (.reg [⟨(some 8), none, .mov (.t 4)⟩,
 ⟨(some 9), none, .bin .geq (.t 8) (.c (.i .i64 0))⟩])
 (.cond (.t 9)
 .skip
 (.exit 0)))
 (.seq
 (.block 1
 (.seq
 (.reg [⟨(some 12), none, .mov (.t 3)⟩,
 ⟨(some 13), none, .bin .mul (.t 12) (.c (u64 4294967296))⟩,
 ⟨(some 14), none, .mov (.t 0)⟩,
 ⟨(some 15), none, .mov (.t 4)⟩,
 ⟨(some 16), none, .iad 1 (.t 14) (.t 15)⟩,
 ⟨(some 17), none, .load none (.t 16)⟩,
 ⟨(some 18), none, .conv .u64 (.t 17)⟩,
 ⟨(some 19), none, .bin .add (.t 13) (.t 18)⟩,
 ⟨(some 3), none, .mov (.t 19)⟩])
 (.seq
 (.reg [⟨(some 20), none, .mov (.t 0)⟩,
 ⟨(some 21), none, .mov (.t 4)⟩,
 ⟨(some 22), none, .mov (.t 3)⟩,
 ⟨(some 23), none, .bin .quo (.t 22) (.c (u64 10))⟩,
 ⟨(some 24), none, .conv .u32 (.t 23)⟩,
 ⟨(some 25), none, .iad 1 (.t 20) (.t 21)⟩,
 ⟨none, none, .store 1 (.t 25) (.t 24)⟩])
 (.reg [⟨(some 26), none, .mov (.t 3)⟩,
 ⟨(some 27), none, .bin .rem (.t 26) (.c (u64 10))⟩,
 ⟨(some 3), none, .mov (.t 27)⟩]))))
 (.reg [⟨(some 10), none, .mov (.t 4)⟩,
 ⟨(some 11), none, .bin .sub (.t 10) (.c (.i .i64 1))⟩,
 ⟨(some 4), none, .mov (.t 11)⟩])))
 (.norm false [0, 3, 4]))
def b105 : AX :=
 (.seq
 (.reg [⟨(some 2), none, .mov (.c (u64 0))⟩])
 (.seq
 (.reg [⟨(some 3), none, .mov (.c (u64 0))⟩])
 (.seq
 (.seq
 (.reg [⟨(some 5), none, .mov (.t 0)⟩,
 ⟨(some 6), none, .len (.t 5)⟩,
 ⟨(some 7), none, .bin .sub (.t 6) (.c (.i .i64 1))⟩,
 ⟨(some 4), none, .mov (.t 7)⟩])
 (.lp 0 (.norm false [0, 3, 4]) l105_0 (.norm false [3])))
 (.seq
 (.reg [⟨(some 28), none, .mov (.t 3)⟩,
 ⟨(some 2), none, .mov (.t 28)⟩])
 (.pre (.norm false [2]) .ret)))))
def l69_0 : AX :=
 (.note
 (.seq
 (.seq
 (.reg [⟨(some 8), none, .mov (.t 3)⟩,
 ⟨(some 9), none, .len (.t 8)⟩,
 ⟨(some 10), none, .bin .gtr (.t 9) (.c (.i .i64 0))⟩,
 ⟨(some 11), none, .mov (.t 10)⟩,
 ⟨(some 12), (some (11, false)), .mov (.t 4)⟩,
 ⟨(some 13), (some (11, false)), .bin .eql (.t 12) (.c (.s []))⟩,
 ⟨(some 14), none, .pick (.t 11) (.c (.b true)) (.t 13)⟩])
 (.cond (.t 14)
 .skip
 (.exit 0)))
 (.block 1
 (.seq
 (.reg [⟨(some 15), none, .mov (.t 3)⟩,
 ⟨(some 16), none, .call 105 [(.t 15)]⟩,
 ⟨(some 5), none, .mov (.t 16)⟩])
 (.seq
 (.reg [⟨(some 17), none, .mov (.t 5)⟩,
 ⟨(some 18), none, .mov (.t 5)⟩,
 ⟨(some 19), none, .bin .add (.t 18) (.c (u64 1))⟩,
 ⟨(some 20), none, .slstr (.c (.s [48, 49, 50, 51, 52, 53, 54, 55, 56, 57])) (some (.t 17)) (some (.t 19))⟩,
 ⟨(some 21), none, .mov (.t 4)⟩,
 ⟨(some 22), none, .bin .add (.t 20) (.t 21)⟩,
 ⟨(some 4), none, .mov (.t 22)⟩])
 (.reg [⟨(some 23), none, .mov (.t 3)⟩,
 ⟨(some 24), none, .call 2043 [(.t 23)]⟩,
 ⟨(some 3), none, .mov (.t 24)⟩])))))
 (.norm false [3, 4]))
def b69 : AX :=
 (.seq
 (.reg [⟨(some 2), none, .mov (.c (.s []))⟩])
 (.seq
 (.reg [⟨(some 6), none, .mov (.t 0)⟩,
 ⟨(some 7), none, .call 2043 [(.t 6)]⟩,
 ⟨(some 3), none, .mov (.t 7)⟩])
 (.seq
 (.reg [⟨(some 4), none, .mov (.c (.s []))⟩])
 (.seq
 (.lp 0 (.norm false [3, 4]) l69_0 (.norm false [4]))
 (.seq
 (.reg [⟨(some 25), none, .mov (.t 4)⟩,
 ⟨(some 2), none, .mov (.t 25)⟩])
 (.pre (.norm false [2]) .ret))))))
class CRef07 (T : Tbl) : Prop extends CRef05 T where
 h2043 : T 2043 = some ⟨1, 23, [.t 2], b2043, (some [false]), false⟩
 h105 : T 105 = some ⟨1, 29, [.t 2], b105, (some [true]), false⟩
 h69 : T 69 = some ⟨1, 26, [.t 2], b69, none, false⟩
section
variable {T : Tbl} [CRef07 T] {d : Option Nat} {st : St}
@[simp] theorem x2043 (xs : List AV) : callX (orc T) T 2043 xs d st = bL (frzM st.heap [false] xs) fun ys => lentX ys (shareIds (refsM [false] xs) st.heap) (reach (shareIds (refsM [false] xs) st.heap) 40 (rootsM [false] xs) []) T 2043 false d st := callX_lent CRef07.h2043
theorem f2043 (xs : List AV) (hb : Heap) (hn : xs.length = 1) : callH T 2043 xs hb = retH [.t 2] false hb.length (evX (orc T) T hb.length b2043 ⟨argEnv xs, hb, hb.length + 1⟩) := callH_eq CRef07.h2043 hn
@[simp] theorem x105 (xs : List AV) : callX (orc T) T 105 xs d st = bL (frzM st.heap [true] xs) fun ys => lentX ys (shareIds (refsM [true] xs) st.heap) (reach (shareIds (refsM [true] xs) st.heap) 40 (rootsM [true] xs) []) T 105 false d st := callX_lent CRef07.h105
theorem f105 (xs : List AV) (hb : Heap) (hn : xs.length = 1) : callH T 105 xs hb = retH [.t 2] false hb.length (evX (orc T) T hb.length b105 ⟨argEnv xs, hb, hb.length + 1⟩) := callH_eq CRef07.h105 hn
@[simp] theorem x69 (xs : List AV) : callX (orc T) T 69 xs d st = bL (frzL st.heap xs) fun ys => cR (callF T 69 (ys.map (wkIf false))) xs d st := callX_pure CRef07.h69
theorem f69 (xs : List AV) (hn : xs.length = 1) : callF T 69 xs = retF [.t 2] false (evX (orc T) T 0 b69 ⟨argEnv xs, [], 1⟩) := callF_eq CRef07.h69 hn
end
end Go.Ab
end

section
namespace Go.Ab
open Go.RowKit
abbrev mv (d s : Nat) : AO := ⟨some d, none, .mov (.t s)⟩
abbrev rg (d : Nat) (op : AOp) : AO := ⟨some d, none, op⟩
abbrev gd (d t : Nat) (b : Bool) (op : AOp) : AO := ⟨some d, some (t, b), op⟩
abbrev so (op : AOp) : AO := ⟨none, none, op⟩
section
variable (T : Tbl) (u : Nat) (ex : Bool) (ms : List Bool) (xs : List AV) (d : Option Nat) (st : St) (ps : List Opd) (e : Env)
@[simp] noncomputable def cP : Option St := bL (frzL st.heap xs) fun ys => cR (callF T u (ys.map (wkIf ex))) xs d st
@[simp] noncomputable def cL : Option St := bL (frzM st.heap ms xs) fun ys => lentX ys (shareIds (refsM ms xs) st.heap) (reach (shareIds (refsM ms xs) st.heap) 40 (rootsM ms xs) []) T u ex d st
@[simp] noncomputable def dP : Option AV := dR (callF T u ((ps.map (ev e.get)).map (wkIf ex))) (ps.map (ev e.get))
end
section
variable {T : Tbl} {k : Nat}
theorem range_loop {id : Nat} {g2 : Gh} {c : AX} (S : Nat → St) (n : Nat) (G : Option (Ex × St)) (step : ∀ i, i < n → evX (orc T) T k c (S i) = some (.n, S (i + 1)))
  (fin : isEx (evX (orc T) T k c (S n)) = true ∧ finX k id g2 (evX (orc T) T k c (S n)) = G) : loopN T k id g2 c (S 0) = G :=
 loopN_eq S (fun i => i ≤ n) (fun i => n - i) (fun _ => G) (by
  intro i hi
  by_cases h : i < n
  ·exact .inl ⟨i + 1, h, by show n - (i + 1) < n - i; omega, step i h, rfl⟩
  ·have : i = n := by omega
   subst this
   exact .inr fin) 0 (Nat.zero_le _)
theorem until_loop {id : Nat} {g2 : Gh} {c : AX} (S : Nat → St) (n : Nat) (G : Nat → Option (Ex × St))
  (step : ∀ i, i < n → (evX (orc T) T k c (S i) = some (.n, S (i + 1)) ∧ G (i + 1) = G i) ∨ (isEx (evX (orc T) T k c (S i)) = true ∧ finX k id g2 (evX (orc T) T k c (S i)) = G i))
  (fin : isEx (evX (orc T) T k c (S n)) = true ∧ finX k id g2 (evX (orc T) T k c (S n)) = G n) : loopN T k id g2 c (S 0) = G 0 :=
 loopN_eq S (fun i => i ≤ n) (fun i => n - i) G (by
  intro i hi
  by_cases h : i < n
  ·rcases step i h with ⟨h1, h2⟩ | h1
   ·exact .inl ⟨i + 1, h, by show n - (i + 1) < n - i; omega, h1, h2⟩
   ·exact .inr h1
  ·have : i = n := by omega
   subst this
   exact .inr fin) 0 (Nat.zero_le _)
end
theorem wrapS {i n : Nat} (h : i < n) (hn : n ≤ 4294967296) : IntKind.wrap .i64 ((i : Int) + 1) = ((i + 1 : Nat) : Int) := wrap_i64 _ (by omega)
end Go.Ab
end

section
namespace Go.Ab
def b129 : AX :=
 (.seq
 (.reg [rg 2 (.mov (.c (.i .i64 0)))])
 (.seq
 (.reg [mv 3 0, rg 4 (.call 68 [(.t 3)]), rg 5 (.lens (.t 4)), mv 2 5])
 (.pre (.norm false [2]) .ret)))
class CLenD (T : Tbl) : Prop where
 h129 : T 129 = some ⟨1, 6, [.t 2], b129, none, false⟩
section
variable {T : Tbl} [CLenD T] {d : Option Nat} {st : St} {xs : List AV} {ps : List Opd} {e : Env} {h : Heap} {ol : List Heap}
@[simp] theorem x129 : callX (orc T) T 129 xs d st = cP T 129 false xs d st := callX_pure CLenD.h129
theorem f129 (xs : List AV) (hn : xs.length = 1) : callF T 129 xs = retF [.t 2] false (evX (orc T) T 0 b129 ⟨argEnv xs, [], 1⟩) := callF_eq CLenD.h129 hn
end
end Go.Ab
end

section
namespace Go.Ab
def b76 : AX :=
 (.seq
 (.reg [rg 2 (.mov (.c (.i .i64 0)))])
 (.seq
 (.seq
 (.reg [mv 3 0])
 (.block 0
 (.seq
 (.seq
 (.reg [rg 5 (.bin .eql (.t 3) (.c (.i .i64 1))), mv 4 5])
 (.cond (.t 4)
 .skip
 (.seq
 (.reg [rg 6 (.bin .eql (.t 3) (.c (.i .i64 2))), mv 4 6])
 (.cond (.t 4)
 .skip
 (.seq
 (.reg [rg 7 (.bin .eql (.t 3) (.c (.i .i64 3))), mv 4 7])
 (.cond (.t 4)
 .skip
 (.seq
 (.reg [rg 8 (.bin .eql (.t 3) (.c (.i .i64 4))), mv 4 8])
 (.cond (.t 4)
 .skip
 (.reg [rg 9 (.bin .eql (.t 3) (.c (.i .i64 5))), mv 4 9])))))))))
 (.cond (.t 4)
 (.seq
 (.reg [rg 2 (.mov (.c (.i .i64 0)))])
 (.pre (.norm false [2]) .ret))
 (.seq
 (.seq
 (.reg [rg 11 (.bin .eql (.t 3) (.c (.i .i64 6))), mv 10 11])
 (.cond (.t 10)
 .skip
 (.reg [rg 12 (.bin .eql (.t 3) (.c (.i .i64 11))), mv 10 12])))
 (.cond (.t 10)
 (.seq
 (.reg [rg 2 (.mov (.c (.i .i64 1)))])
 (.pre (.norm false [2]) .ret))
 (.seq
 (.seq
 (.reg [rg 14 (.bin .eql (.t 3) (.c (.i .i64 7))), mv 13 14])
 (.cond (.t 13)
 .skip
 (.seq
 (.reg [rg 15 (.bin .eql (.t 3) (.c (.i .i64 8))), mv 13 15])
 (.cond (.t 13)
 .skip
 (.seq
 (.reg [rg 16 (.bin .eql (.t 3) (.c (.i .i64 9))), mv 13 16])
 (.cond (.t 13)
 .skip
 (.reg [rg 17 (.bin .eql (.t 3) (.c (.i .i64 10))), mv 13 17])))))))
 (.cond (.t 13)
 (.seq
 (.reg [rg 2 (.mov (.c (.i .i64 2)))])
 (.pre (.norm false [2]) .ret))
 .skip))))))))
 (.seq
 (.reg [rg 2 (.mov (.c (.i .i64 (-1))))])
 (.pre (.norm false [2]) .ret))))
def l74_0 : AX :=
 (.note
 (.seq
 (.reg [rg 10 (.bin .lss (.t 9) (.t 8))])
 (.seq
 (.cond (.t 10)
 .skip
 (.exit 0))
 (.seq
 (.block 1
 (.seq
 (.reg [mv 11 9, rg 12 (.iad 3 (.t 7) (.t 9)), rg 13 (.load (some 3) (.t 12)), rg 5 (.alloc [(.i .i64 0), (.i .i64 0), (.sl [] .nl)]), mv 4 11,
 so (.store 3 (.t 5) (.t 13))])
 (.seq
 (.reg [rg 14 (.fad 0 (.t 5)), rg 15 (.load none (.t 14)), rg 16 (.call 76 [(.t 15)]), mv 6 16])
 (.seq
 (.seq
 (.reg [mv 17 6, rg 18 (.bin .lss (.t 17) (.c (.i .i64 0))), mv 19 18, gd 20 19 false (.mov (.t 6)), gd 21 19 false (.mov (.t 3)),
 gd 22 19 false (.bin .gtr (.t 20) (.t 21)), rg 23 (.pick (.t 19) (.c (.b true)) (.t 22))])
 (.cond (.t 23)
 (.seq
 (.reg [mv 24 4, mv 2 24])
 (.pre (.norm false [2]) .ret))
 .skip))
 (.reg [mv 25 3, mv 26 6, rg 27 (.bin .sub (.c (.i .i64 1)) (.t 26)), rg 28 (.bin .add (.t 25) (.t 27)), mv 3 28])))))
 (.reg [rg 29 (.bin .add (.t 9) (.c (.i .i64 1))), mv 9 29]))))
 (.norm false [0, 3, 7, 8, 9]))
def b74 : AX :=
 (.seq
 (.reg [rg 2 (.mov (.c (.i .i64 0)))])
 (.seq
 (.reg [rg 3 (.mov (.c (.i .i64 0)))])
 (.seq
 (.seq
 (.reg [mv 7 0, rg 8 (.len (.t 7)), rg 9 (.mov (.c (.i .i64 0)))])
 (.lp 0 (.norm false [0, 3, 7, 8, 9]) l74_0 (.norm false [0, 3])))
 (.seq
 (.seq
 (.reg [mv 30 3, rg 31 (.bin .neq (.t 30) (.c (.i .i64 1)))])
 (.cond (.t 31)
 (.seq
 (.reg [mv 32 0, rg 33 (.len (.t 32)), mv 2 33])
 (.pre (.norm false [2]) .ret))
 .skip))
 (.seq
 (.reg [rg 2 (.mov (.c (.i .i64 (-1))))])
 (.pre (.norm false [2]) .ret))))))
def b44 : AX :=
 (.seq
 (.reg [rg 2 (.mov (.c (.b false)))])
 (.seq
 (.reg [mv 3 0, rg 4 (.call 74 [(.t 3)]), rg 5 (.bin .lss (.t 4) (.c (.i .i64 0))), mv 2 5])
 (.pre (.norm false [2]) .ret)))
def b108 : AX :=
 (.seq
 (.reg [rg 4 (.mov (.c (.b false)))])
 (.seq
 (.reg [mv 5 0, rg 6 (.bin .geq (.t 5) (.c (.i .i64 0))), mv 7 6, gd 8 7 true (.mov (.t 0)), gd 9 7 true (.mov (.t 1)), gd 10 7 true (.bin .lss (.t 8) (.t 9)),
 rg 11 (.pick (.t 7) (.t 10) (.c (.b false))), mv 4 11])
 (.pre (.norm false [4]) .ret)))
def b107 : AX :=
 (.seq
 (.reg [rg 2 (.mov (.c (.b false)))])
 (.seq
 (.reg [mv 3 0, rg 4 (.call 71 [(.t 3)]), rg 5 (.len (.t 4)), mv 6 0, rg 7 (.len (.t 6)), rg 8 (.bin .eql (.t 5) (.t 7)), mv 9 8, gd 10 9 true (.mov (.t 0)),
 gd 11 9 true (.call 129 [(.t 10)]), gd 12 9 true (.bin .leq (.t 11) (.c (.i .i64 60))), rg 13 (.pick (.t 9) (.t 12) (.c (.b false))), mv 2 13])
 (.pre (.norm false [2]) .ret)))
def b75 : AX :=
 (.seq
 (.reg [rg 4 (.xop (.box 3) [(.t 0)]), rg 8 (.mov (.c (.b false)))])
 (.seq
 (.seq
 (.reg [rg 9 (.fad 0 (.t 4)), rg 10 (.load none (.t 9)), rg 11 (.bin .neq (.t 10) (.c (.i .i64 1))), mv 12 11, gd 13 12 true (.fad 2 (.t 4)),
 gd 14 12 true (.load none (.t 13)), gd 15 12 true (.len (.t 14)), gd 16 12 true (.bin .gtr (.t 15) (.c (.i .i64 0))),
 rg 17 (.pick (.t 12) (.t 16) (.c (.b false)))])
 (.cond (.t 17)
 (.seq
 (.reg [rg 8 (.mov (.c (.b false)))])
 (.pre (.norm false [8]) .ret))
 .skip))
 (.seq
 (.seq
 (.reg [rg 18 (.fad 0 (.t 4)), rg 19 (.load none (.t 18))])
 (.block 0
 (.seq
 (.reg [rg 21 (.bin .eql (.t 19) (.c (.i .i64 1))), mv 20 21])
 (.cond (.t 20)
 (.seq
 (.reg [rg 22 (.fad 1 (.t 4)), rg 23 (.load none (.t 22)), rg 24 (.bin .eql (.t 23) (.c (.i .i64 0))), mv 25 24, gd 26 25 true (.fad 2 (.t 4)),
 gd 27 25 true (.load none (.t 26)), gd 28 25 true (.call 107 [(.t 27)]), rg 29 (.pick (.t 25) (.t 28) (.c (.b false))), mv 8 29])
 (.pre (.norm false [8]) .ret))
 (.seq
 (.reg [rg 31 (.bin .eql (.t 19) (.c (.i .i64 3))), mv 30 31])
 (.cond (.t 30)
 (.seq
 (.reg [rg 32 (.fad 1 (.t 4)), rg 33 (.load none (.t 32)), mv 34 1, rg 35 (.call 108 [(.t 33), (.t 34)]), mv 8 35])
 (.pre (.norm false [8]) .ret))
 (.seq
 (.reg [rg 37 (.bin .eql (.t 19) (.c (.i .i64 4))), mv 36 37])
 (.cond (.t 36)
 (.seq
 (.reg [rg 38 (.fad 1 (.t 4)), rg 39 (.load none (.t 38)), mv 40 2, rg 41 (.call 108 [(.t 39), (.t 40)]), mv 8 41])
 (.pre (.norm false [8]) .ret))
 (.seq
 (.reg [rg 43 (.bin .eql (.t 19) (.c (.i .i64 5))), mv 42 43])
 (.cond (.t 42)
 (.seq
 (.reg [rg 44 (.fad 1 (.t 4)), rg 45 (.load none (.t 44)), mv 46 3, rg 47 (.call 108 [(.t 45), (.t 46)]), mv 8 47])
 (.pre (.norm false [8]) .ret))
 (.seq
 (.reg [rg 49 (.bin .eql (.t 19) (.c (.i .i64 11))), mv 48 49])
 (.cond (.t 48)
 (.seq
 (.reg [rg 50 (.fad 1 (.t 4)), rg 51 (.load none (.t 50)), rg 52 (.bin .geq (.t 51) (.c (.i .i64 (-8)))), mv 53 52, gd 54 53 true (.fad 1 (.t 4)),
 gd 55 53 true (.load none (.t 54)), gd 56 53 true (.bin .leq (.t 55) (.c (.i .i64 8))), rg 57 (.pick (.t 53) (.t 56) (.c (.b false))), mv 8 57])
 (.pre (.norm false [8]) .ret))
 .skip))))))))))))
 (.seq
 (.reg [rg 58 (.fad 1 (.t 4)), rg 59 (.load none (.t 58)), rg 60 (.bin .eql (.t 59) (.c (.i .i64 0))), mv 61 60, gd 62 61 true (.fad 0 (.t 4)),
 gd 63 61 true (.load none (.t 62)), gd 64 61 true (.call 76 [(.t 63)]), gd 65 61 true (.bin .geq (.t 64) (.c (.i .i64 0))),
 rg 66 (.pick (.t 61) (.t 65) (.c (.b false))), mv 8 66])
 (.pre (.norm false [8]) .ret)))))
def l46_0 : AX :=
 (.note
 (.seq
 (.reg [rg 17 (.bin .lss (.t 16) (.t 15))])
 (.seq
 (.cond (.t 17)
 .skip
 (.exit 0))
 (.seq
 (.block 1
 (.seq
 (.reg [mv 18 16, rg 19 (.iad 3 (.t 14) (.t 16)), rg 20 (.load (some 3) (.t 19)), rg 11 (.alloc [(.i .i64 0), (.i .i64 0), (.sl [] .nl)]), mv 10 18,
 so (.store 3 (.t 11) (.t 20))])
 (.seq
 (.reg [mv 21 10, mv 22 9, rg 23 (.bin .eql (.t 21) (.t 22)), mv 24 23, gd 25 24 false (.load (some 3) (.t 11)), gd 26 24 false (.mov (.t 1)),
 gd 27 24 false (.mov (.t 2)), gd 28 24 false (.mov (.t 3)), gd 29 24 false (.call 75 [(.t 25), (.t 26), (.t 27), (.t 28)]),
 gd 30 24 false (.un .not (.t 29)), rg 31 (.pick (.t 24) (.c (.b true)) (.t 30))])
 (.cond (.t 31)
 (.seq
 (.reg [mv 32 10, mv 8 32])
 (.pre (.norm false [8]) .ret))
 .skip))))
 (.reg [rg 33 (.bin .add (.t 16) (.c (.i .i64 1))), mv 16 33]))))
 (.norm false [1, 2, 3, 9, 14, 15, 16]))
def b46 : AX :=
 (.seq
 (.reg [rg 8 (.mov (.c (.i .i64 0)))])
 (.seq
 (.reg [mv 12 0, rg 13 (.call 74 [(.t 12)]), mv 9 13])
 (.seq
 (.seq
 (.reg [mv 14 0, rg 15 (.len (.t 14)), rg 16 (.mov (.c (.i .i64 0)))])
 (.lp 0 (.norm false [1, 2, 3, 9, 14, 15, 16]) l46_0 (.norm false [9])))
 (.seq
 (.reg [mv 34 9, mv 8 34])
 (.pre (.norm false [8]) .ret)))))
class CTree (T : Tbl) : Prop where
 h76 : T 76 = some ⟨1, 18, [.t 2], b76, none, false⟩
 h74 : T 74 = some ⟨1, 34, [.t 2], b74, none, false⟩
 h44 : T 44 = some ⟨1, 6, [.t 2], b44, none, false⟩
 h108 : T 108 = some ⟨2, 12, [.t 4], b108, none, false⟩
 h107 : T 107 = some ⟨1, 14, [.t 2], b107, none, false⟩
 h75 : T 75 = some ⟨4, 67, [.t 8], b75, none, false⟩
 h46 : T 46 = some ⟨4, 35, [.t 8], b46, none, false⟩
section
variable {T : Tbl} [CTree T] {d : Option Nat} {st : St} {xs : List AV} {ps : List Opd} {e : Env} {h : Heap} {ol : List Heap}
@[simp] theorem x76 : callX (orc T) T 76 xs d st = cP T 76 false xs d st := callX_pure CTree.h76
theorem f76 (xs : List AV) (hn : xs.length = 1) : callF T 76 xs = retF [.t 2] false (evX (orc T) T 0 b76 ⟨argEnv xs, [], 1⟩) := callF_eq CTree.h76 hn
@[simp] theorem x74 : callX (orc T) T 74 xs d st = cP T 74 false xs d st := callX_pure CTree.h74
theorem f74 (xs : List AV) (hn : xs.length = 1) : callF T 74 xs = retF [.t 2] false (evX (orc T) T 0 b74 ⟨argEnv xs, [], 1⟩) := callF_eq CTree.h74 hn
@[simp] theorem x44 : callX (orc T) T 44 xs d st = cP T 44 false xs d st := callX_pure CTree.h44
theorem f44 (xs : List AV) (hn : xs.length = 1) : callF T 44 xs = retF [.t 2] false (evX (orc T) T 0 b44 ⟨argEnv xs, [], 1⟩) := callF_eq CTree.h44 hn
@[simp] theorem x108 : callX (orc T) T 108 xs d st = cP T 108 false xs d st := callX_pure CTree.h108
theorem f108 (xs : List AV) (hn : xs.length = 2) : callF T 108 xs = retF [.t 4] false (evX (orc T) T 0 b108 ⟨argEnv xs, [], 1⟩) := callF_eq CTree.h108 hn
@[simp] theorem x107 : callX (orc T) T 107 xs d st = cP T 107 false xs d st := callX_pure CTree.h107
theorem f107 (xs : List AV) (hn : xs.length = 1) : callF T 107 xs = retF [.t 2] false (evX (orc T) T 0 b107 ⟨argEnv xs, [], 1⟩) := callF_eq CTree.h107 hn
@[simp] theorem x75 : callX (orc T) T 75 xs d st = cP T 75 false xs d st := callX_pure CTree.h75
theorem f75 (xs : List AV) (hn : xs.length = 4) : callF T 75 xs = retF [.t 8] false (evX (orc T) T 0 b75 ⟨argEnv xs, [], 1⟩) := callF_eq CTree.h75 hn
@[simp] theorem x46 : callX (orc T) T 46 xs d st = cP T 46 false xs d st := callX_pure CTree.h46
theorem f46 (xs : List AV) (hn : xs.length = 4) : callF T 46 xs = retF [.t 8] false (evX (orc T) T 0 b46 ⟨argEnv xs, [], 1⟩) := callF_eq CTree.h46 hn
end
end Go.Ab
end

section
namespace Go.Ab
def l109_0 : AX :=
 (.note
 (.seq
 (.reg [rg 19 (.bin .lss (.t 18) (.t 17))])
 (.seq
 (.cond (.t 19)
 .skip
 (.exit 2))
 (.seq
 (.block 3
 (.seq
 (.reg [rg 20 (.iad 3 (.t 16) (.t 18)), rg 21 (.load (some 3) (.t 20)), rg 9 (.alloc [(.i .i64 0), (.i .i64 0), (.sl [] .nl)]), so (.store 3 (.t 9) (.t 21))])
 (.drawT [mv 22 5, rg 23 (.fad 0 (.t 9)), rg 24 (.load none (.t 23)), rg 25 (.fad 1 (.t 9)), rg 26 (.load none (.t 25)), rg 27 (.fad 2 (.t 9)),
 rg 28 (.load none (.t 27)), rg 29 (.app 1 (.c (.sl [] .nl)) (.t 28)),
 rg 30 (.build [(.i .i64 0), (.i .i64 0), (.sl [] .nl)] [(0, 1, (.t 24)), (1, 1, (.t 26)), (2, 1, (.t 29))]),
 rg 31 (.bsl 3 [(.i .i64 0), (.i .i64 0), (.sl [] .nl)] 1 [(0, (.t 30))])]
 [rg 32 (.app 3 (.t 22) (.t 31)), mv 5 32])))
 (.reg [rg 33 (.bin .add (.t 18) (.c (.i .i64 1))), mv 18 33]))))
 (.norm false [0, 5, 10, 11, 12, 16, 17, 18]))
def l109_1 : AX :=
 (.note
 (.seq
 (.reg [rg 13 (.bin .lss (.t 12) (.t 11))])
 (.seq
 (.cond (.t 13)
 .skip
 (.exit 0))
 (.seq
 (.block 1
 (.seq
 (.reg [rg 14 (.iad 1 (.t 10) (.t 12)), rg 15 (.load none (.t 14)), mv 7 15])
 (.seq
 (.reg [mv 16 7, rg 17 (.len (.t 16)), rg 18 (.mov (.c (.i .i64 0)))])
 (.lp 2 (.norm false [0, 5, 10, 11, 12, 16, 17, 18]) l109_0 (.norm false [0, 5, 10, 11, 12])))))
 (.reg [rg 34 (.bin .add (.t 12) (.c (.i .i64 1))), mv 12 34]))))
 (.norm false [0, 5, 10, 11, 12]))
def b109 : AX :=
 (.seq
 (.reg [rg 4 (.mov (.c (.sl [] .nl)))])
 (.seq
 (.note (.reg [rg 5 (.mov (.c (.sl [] .nl)))]) (.nil 5 3))
 (.seq
 (.seq
 (.reg [mv 10 1, rg 11 (.len (.t 10)), rg 12 (.mov (.c (.i .i64 0)))])
 (.lp 0 (.norm false [0, 5, 10, 11, 12]) l109_1 (.norm false [0, 5])))
 (.seq
 (.reg [mv 35 5, mv 36 0, rg 37 (.build [(.i .i64 0), (.i .i64 0), (.sl [] .nl)] [(0, 1, (.t 36))]),
 rg 38 (.bsl 3 [(.i .i64 0), (.i .i64 0), (.sl [] .nl)] 1 [(0, (.t 37))]), rg 39 (.app 3 (.t 35) (.t 38)), mv 4 39])
 (.pre (.norm false [4]) .ret)))))
def b48 : AX :=
 (.seq
 (.reg [rg 2 (.mov (.c (.sl [] .nl)))])
 (.seq
 (.seq
 (.reg [mv 3 0, rg 4 (.bin .eql (.t 3) (.c (.i .i64 0)))])
 (.cond (.t 4)
 (.seq
 (.reg [rg 5 (.build [(.i .i64 0), (.i .i64 0), (.sl [] .nl)] [(0, 1, (.c (.i .i64 1)))]),
 rg 6 (.bsl 3 [(.i .i64 0), (.i .i64 0), (.sl [] .nl)] 1 [(0, (.t 5))]), mv 2 6])
 (.pre (.norm false [2]) .ret))
 .skip))
 (.seq
 (.reg [mv 7 0, rg 8 (.conv .u32 (.t 7)), rg 9 (.bsl 1 [(u32 0)] 1 [(0, (.t 8))]),
 rg 10 (.build [(.i .i64 0), (.i .i64 0), (.sl [] .nl)] [(0, 1, (.c (.i .i64 1))), (2, 1, (.t 9))]),
 rg 11 (.bsl 3 [(.i .i64 0), (.i .i64 0), (.sl [] .nl)] 1 [(0, (.t 10))]), mv 2 11])
 (.pre (.norm false [2]) .ret))))
def b110 : AX :=
 (.seq
 (.reg [rg 4 (.mov (.c (.sl [] .nl)))])
 (.seq
 (.reg [mv 5 0, rg 6 (.app 3 (.c (.sl [] .nl)) (.t 5)), mv 7 1,
 rg 8 (.build [(.i .i64 0), (.i .i64 0), (.sl [] .nl)] [(0, 1, (.c (.i .i64 11))), (1, 1, (.t 7))]),
 rg 9 (.bsl 3 [(.i .i64 0), (.i .i64 0), (.sl [] .nl)] 1 [(0, (.t 8))]), rg 10 (.app 3 (.t 6) (.t 9)), mv 4 10])
 (.pre (.norm false [4]) .ret)))
def b111 : AX :=
 (.seq
 (.reg [rg 6 (.mov (.c (.sl [] .nl)))])
 (.seq
 (.block 0
 (.seq
 (.reg [mv 8 2, rg 9 (.eqnil false (.t 8)), mv 7 9])
 (.cond (.t 7)
 (.seq
 (.reg [mv 10 1, mv 6 10])
 (.pre (.norm true [6]) .ret))
 (.seq
 (.reg [mv 12 1, rg 13 (.eqnil true (.t 12)), mv 11 13])
 (.cond (.t 11)
 (.seq
 (.reg [mv 14 0, mv 15 1, mv 16 2, rg 17 (.bsl 1 [(.sl [] .nl)] 2 [(0, (.t 15)), (1, (.t 16))]), rg 18 (.call 109 [(.t 14), (.t 17)]), mv 6 18])
 (.pre (.norm true [6]) .ret))
 (.seq
 (.reg [mv 20 0, rg 21 (.bin .eql (.t 20) (.c (.i .i64 8))), mv 19 21])
 (.cond (.t 19)
 (.seq
 (.reg [mv 22 2, rg 23 (.bsl 1 [(.sl [] .nl)] 1 [(0, (.t 22))]), rg 24 (.call 109 [(.c (.i .i64 6)), (.t 23)]), mv 6 24])
 (.pre (.norm true [6]) .ret))
 .skip)))))))
 (.seq
 (.reg [mv 25 2, mv 6 25])
 (.pre (.norm true [6]) .ret))))
def b112 : AX :=
 (.seq
 (.reg [rg 8 (.mov (.c (.sl [] .nl)))])
 (.seq
 (.block 0
 (.seq
 (.reg [mv 10 1, rg 11 (.eqnil false (.t 10)), mv 9 11])
 (.cond (.t 9)
 (.seq
 (.reg [rg 8 (.mov (.c (.sl [] .nl)))])
 (.pre (.norm true [8]) .ret))
 (.seq
 (.reg [mv 13 3, mv 12 13])
 (.cond (.t 12)
 (.seq
 (.reg [mv 14 0, mv 15 1, mv 16 2, rg 17 (.bsl 1 [(.sl [] .nl)] 2 [(0, (.t 15)), (1, (.t 16))]), rg 18 (.call 109 [(.t 14), (.t 17)]), mv 8 18])
 (.pre (.norm true [8]) .ret))
 .skip)))))
 (.seq
 (.reg [mv 19 0, mv 20 2, mv 21 1, rg 22 (.bsl 1 [(.sl [] .nl)] 2 [(0, (.t 20)), (1, (.t 21))]), rg 23 (.call 109 [(.t 19), (.t 22)]), mv 8 23])
 (.pre (.norm true [8]) .ret))))
def b78 : AX :=
 (.seq
 (.reg [rg 4 (.xop (.box 2) [(.t 1)]), rg 5 (.xop (.box 2) [(.t 2)]), rg 6 (.mov (.c (.sl [] .nl)))])
 (.seq
 (.seq
 (.reg [mv 8 0])
 (.block 0
 (.seq
 (.reg [rg 10 (.bin .eql (.t 8) (.c (.i .i64 9))), mv 9 10])
 (.cond (.t 9)
 (.seq
 (.drawT [mv 11 0, rg 12 (.fad 1 (.t 4)), rg 13 (.load none (.t 12)), rg 14 (.fad 0 (.t 5)), rg 15 (.load none (.t 14)),
 rg 16 (.call 112 [(.t 11), (.t 13), (.t 15), (.c (.b true))]), mv 17 0, rg 18 (.fad 1 (.t 5)), rg 19 (.load none (.t 18)), rg 20 (.fad 0 (.t 4)),
 rg 21 (.load none (.t 20))]
 [rg 22 (.call 112 [(.t 17), (.t 19), (.t 21), (.c (.b false))]), rg 23 (.call 111 [(.c (.i .i64 7)), (.t 16), (.t 22)]), mv 6 23])
 (.pre (.norm true [6]) .ret))
 (.seq
 (.reg [rg 25 (.bin .eql (.t 8) (.c (.i .i64 10))), mv 24 25])
 (.cond (.t 24)
 (.seq
 (.reg [rg 26 (.fad 1 (.t 5)), rg 27 (.load none (.t 26)), rg 28 (.fad 0 (.t 4)), rg 29 (.load none (.t 28)),
 rg 30 (.call 112 [(.c (.i .i64 9)), (.t 27), (.t 29), (.c (.b false))]), mv 7 30])
 (.seq
 (.seq
 (.reg [mv 31 7, rg 32 (.eqnil true (.t 31))])
 (.cond (.t 32)
 (.reg [mv 33 7, rg 34 (.fad 0 (.t 5)), rg 35 (.load none (.t 34)), rg 36 (.fad 0 (.t 5)), rg 37 (.load none (.t 36)),
 rg 38 (.bsl 1 [(.sl [] .nl)] 2 [(0, (.t 35)), (1, (.t 37))]), rg 39 (.call 109 [(.c (.i .i64 9)), (.t 38)]),
 rg 40 (.bsl 1 [(.sl [] .nl)] 2 [(0, (.t 33)), (1, (.t 39))]), rg 41 (.call 109 [(.c (.i .i64 10)), (.t 40)]), mv 7 41])
 .skip))
 (.seq
 (.reg [mv 42 0, rg 43 (.fad 1 (.t 4)), rg 44 (.load none (.t 43)), rg 45 (.fad 0 (.t 5)), rg 46 (.load none (.t 45)),
 rg 47 (.call 112 [(.t 42), (.t 44), (.t 46), (.c (.b true))]), mv 48 7, rg 49 (.call 111 [(.c (.i .i64 8)), (.t 47), (.t 48)]), mv 6 49])
 (.pre (.norm true [6]) .ret))))
 .skip))))))
 (.seq
 (.reg [mv 50 0, rg 51 (.fad 1 (.t 4)), rg 52 (.load none (.t 51)), rg 53 (.fad 1 (.t 5)), rg 54 (.load none (.t 53)),
 rg 55 (.call 111 [(.t 50), (.t 52), (.t 54)]), mv 6 55])
 (.pre (.norm true [6]) .ret))))
def b77 : AX :=
 (.seq
 (.reg [rg 2 (.xop (.box 3) [(.t 0)]), rg 3 (.xop (.box 2) [(.t 1)]), rg 4 (.mov (.c (.sl [] .nl)))])
 (.seq
 (.block 0
 (.seq
 (.reg [rg 7 (.fad 1 (.t 3)), rg 8 (.load none (.t 7)), rg 9 (.eqnil false (.t 8)), mv 10 9, gd 11 10 false (.fad 0 (.t 2)), gd 12 10 false (.load none (.t 11)),
 gd 13 10 false (.bin .eql (.t 12) (.c (.i .i64 11))), gd 14 10 false (.mov (.t 13)), gd 15 14 true (.fad 1 (.t 2)), gd 16 14 true (.load none (.t 15)),
 gd 17 14 true (.bin .eql (.t 16) (.c (.i .i64 0))), gd 18 10 false (.pick (.t 14) (.t 17) (.c (.b false))), rg 19 (.pick (.t 10) (.c (.b true)) (.t 18)),
 mv 6 19])
 (.cond (.t 6)
 (.seq
 (.reg [rg 4 (.mov (.c (.sl [] .nl)))])
 (.pre (.norm true [4]) .ret))
 (.seq
 (.reg [rg 21 (.fad 0 (.t 2)), rg 22 (.load none (.t 21)), rg 23 (.bin .eql (.t 22) (.c (.i .i64 6))), mv 20 23])
 (.cond (.t 20)
 (.seq
 (.reg [rg 24 (.fad 1 (.t 3)), rg 25 (.load none (.t 24)), rg 26 (.bsl 1 [(.sl [] .nl)] 1 [(0, (.t 25))]), rg 27 (.call 109 [(.c (.i .i64 6)), (.t 26)]),
 mv 4 27])
 (.pre (.norm true [4]) .ret))
 (.seq
 (.reg [rg 29 (.fad 1 (.t 2)), rg 30 (.load none (.t 29)), rg 31 (.bin .gtr (.t 30) (.c (.i .i64 0))), mv 28 31])
 (.cond (.t 28)
 (.seq
 (.drawT [rg 32 (.fad 1 (.t 2)), rg 33 (.load none (.t 32)), rg 34 (.call 48 [(.t 33)]), rg 35 (.fad 0 (.t 3)), rg 36 (.load none (.t 35)), rg 37 (.fad 1 (.t 2)),
 rg 38 (.load none (.t 37)), rg 39 (.bin .sub (.t 38) (.c (.i .i64 1))), rg 40 (.call 110 [(.t 36), (.t 39)]),
 rg 41 (.bsl 1 [(.sl [] .nl)] 2 [(0, (.t 34)), (1, (.t 40))]), rg 42 (.call 109 [(.c (.i .i64 9)), (.t 41)]), rg 43 (.fad 1 (.t 3)),
 rg 44 (.load none (.t 43))]
 [rg 45 (.bsl 1 [(.sl [] .nl)] 2 [(0, (.t 42)), (1, (.t 44))]), rg 46 (.call 109 [(.c (.i .i64 9)), (.t 45)]), mv 4 46])
 (.pre (.norm true [4]) .ret))
 .skip)))))))
 (.seq
 (.drawT [rg 47 (.fad 1 (.t 2)), rg 48 (.load none (.t 47)), rg 49 (.un .neg (.t 48)), rg 50 (.call 48 [(.t 49)]), rg 51 (.fad 0 (.t 3)),
 rg 52 (.load none (.t 51)), rg 53 (.fad 1 (.t 2)), rg 54 (.load none (.t 53)), rg 55 (.call 110 [(.t 52), (.t 54)]),
 rg 56 (.bsl 1 [(.sl [] .nl)] 2 [(0, (.t 50)), (1, (.t 55))]), rg 57 (.call 109 [(.c (.i .i64 9)), (.t 56)]), rg 58 (.fad 1 (.t 3)),
 rg 59 (.load none (.t 58))]
 [rg 60 (.bsl 1 [(.sl [] .nl)] 2 [(0, (.t 57)), (1, (.t 59))]), rg 61 (.call 109 [(.c (.i .i64 9)), (.t 60)]), mv 5 61])
 (.seq
 (.reg [mv 62 5, rg 63 (.fad 0 (.t 3)), rg 64 (.load none (.t 63)), rg 65 (.bsl 1 [(.sl [] .nl)] 2 [(0, (.t 62)), (1, (.t 64))]),
 rg 66 (.call 109 [(.c (.i .i64 10)), (.t 65)]), rg 67 (.bsl 1 [(.sl [] .nl)] 1 [(0, (.t 66))]), rg 68 (.call 109 [(.c (.i .i64 6)), (.t 67)]), mv 4 68])
 (.pre (.norm true [4]) .ret)))))
def b53 : AX :=
 (.seq
 (.reg [rg 2 (.xop (.box 3) [(.t 0)]), rg 3 (.xop (.box 3) [(.t 1)]), rg 4 (.mov (.c (.b false)))])
 (.seq
 (.reg [rg 5 (.fad 0 (.t 2)), rg 6 (.load none (.t 5)), rg 7 (.fad 0 (.t 3)), rg 8 (.load none (.t 7)), rg 9 (.bin .eql (.t 6) (.t 8)), mv 10 9,
 gd 11 10 true (.fad 1 (.t 2)), gd 12 10 true (.load none (.t 11)), gd 13 10 true (.fad 1 (.t 3)), gd 14 10 true (.load none (.t 13)),
 gd 15 10 true (.bin .eql (.t 12) (.t 14)), rg 16 (.pick (.t 10) (.t 15) (.c (.b false))), mv 4 16])
 (.pre (.norm false [4]) .ret)))
def l47_0 : AX :=
 (.note
 (.seq
 (.reg [rg 32 (.bin .lss (.t 31) (.t 30))])
 (.seq
 (.cond (.t 32)
 .skip
 (.exit 2))
 (.seq
 (.block 3
 (.seq
 (.reg [rg 33 (.iad 2 (.t 29) (.t 31)), rg 34 (.load (some 2) (.t 33)), rg 11 (.alloc [(.sl [] .nl), (.sl [] .nl)]), so (.store 2 (.t 11) (.t 34))])
 (.reg [mv 35 9, rg 36 (.fad 0 (.t 11)), rg 37 (.load none (.t 36)), rg 38 (.len (.t 37)), rg 39 (.bin .sub (.t 35) (.t 38)), mv 9 39])))
 (.reg [rg 40 (.bin .add (.t 31) (.c (.i .i64 1))), mv 31 40]))))
 (.norm true [0, 3, 5, 6, 7, 8, 9, 13, 14, 15, 29, 30, 31]))
def l47_1 : AX :=
 (.note
 (.seq
 (.reg [rg 16 (.bin .lss (.t 15) (.t 14))])
 (.seq
 (.cond (.t 16)
 .skip
 (.exit 0))
 (.seq
 (.block 1
 (.seq
 (.reg [mv 17 15, rg 18 (.iad 3 (.t 13) (.t 15)), rg 19 (.load (some 3) (.t 18)), rg 7 (.alloc [(.i .i64 0), (.i .i64 0), (.sl [] .nl)]), mv 6 17,
 so (.store 3 (.t 7) (.t 19))])
 (.seq
 (.reg [mv 20 5, rg 21 (.len (.t 20)), rg 22 (.fad 0 (.t 7)), rg 23 (.load none (.t 22)), rg 24 (.call 76 [(.t 23)]), rg 25 (.bin .sub (.t 21) (.t 24)), mv 8 25])
 (.seq
 (.reg [mv 26 6, mv 9 26])
 (.seq
 (.seq
 (.reg [mv 27 5, mv 28 8, rg 29 (.slc 2 (.t 27) (some (.t 28)) none none), rg 30 (.len (.t 29)), rg 31 (.mov (.c (.i .i64 0)))])
 (.lp 2 (.norm true [0, 3, 5, 6, 7, 8, 9, 13, 14, 15, 29, 30, 31]) l47_0 (.norm true [0, 3, 5, 6, 7, 8, 9, 13, 14, 15])))
 (.seq
 (.reg [mv 41 0, mv 42 9, mv 43 6, rg 44 (.bin .add (.t 43) (.c (.i .i64 1))), rg 45 (.slc 3 (.t 41) (some (.t 42)) (some (.t 44)) none),
 rg 46 (.build [(.sl [] .nl), (.sl [] .nl)] [(0, 1, (.t 45))]), rg 12 (.alloc [(.sl [] .nl), (.sl [] .nl)]), so (.store 2 (.t 12) (.t 46))])
 (.seq
 (.seq
 (.reg [mv 47 5, rg 48 (.len (.t 47)), mv 49 8, rg 50 (.bin .sub (.t 48) (.t 49))])
 (.block 4
 (.seq
 (.reg [rg 65 (.bin .eql (.t 50) (.c (.i .i64 0))), mv 64 65])
 (.cond (.t 64)
 (.seq
 (.reg [rg 66 (.load (some 3) (.t 7)), rg 67 (.load (some 3) (.t 3)), rg 68 (.call 53 [(.t 66), (.t 67)])])
 (.cond (.t 68)
 (.reg [rg 69 (.call 48 [(.c (.i .i64 1))]), rg 70 (.fad 1 (.t 12)), so (.store 1 (.t 70) (.t 69))])
 .skip))
 (.seq
 (.reg [rg 72 (.bin .eql (.t 50) (.c (.i .i64 1))), mv 71 72])
 (.cond (.t 71)
 (.drawT [rg 73 (.load (some 3) (.t 7)), mv 74 5, mv 75 8, rg 76 (.iad 2 (.t 74) (.t 75)), rg 77 (.load (some 2) (.t 76))]
 [rg 78 (.call 77 [(.t 73), (.t 77)]), rg 79 (.fad 1 (.t 12)), so (.store 1 (.t 79) (.t 78))])
 (.drawT [rg 51 (.fad 0 (.t 7)), rg 52 (.load none (.t 51)), mv 53 5, mv 54 8, rg 55 (.iad 2 (.t 53) (.t 54)), rg 56 (.load (some 2) (.t 55)), mv 57 5, mv 58 8,
 rg 59 (.bin .add (.t 58) (.c (.i .i64 1))), rg 60 (.iad 2 (.t 57) (.t 59)), rg 61 (.load (some 2) (.t 60))]
 [rg 62 (.call 78 [(.t 52), (.t 56), (.t 61)]), rg 63 (.fad 1 (.t 12)), so (.store 1 (.t 63) (.t 62))])))))))
 (.drawT [mv 80 5, mv 81 8, rg 82 (.slc 2 (.t 80) none (some (.t 81)) none), rg 83 (.load (some 2) (.t 12)),
 rg 84 (.bsl 2 [(.sl [] .nl), (.sl [] .nl)] 1 [(0, (.t 83))])]
 [rg 85 (.app 2 (.t 82) (.t 84)), mv 5 85]))))))))
 (.reg [rg 86 (.bin .add (.t 15) (.c (.i .i64 1))), mv 15 86]))))
 (.norm true [0, 3, 5, 13, 14, 15]))
def b47 : AX :=
 (.seq
 (.reg [rg 3 (.xop (.box 3) [(.t 1)]), rg 4 (.mov (.c (.sl [] .nl)))])
 (.seq
 (.note (.reg [rg 5 (.mov (.c (.sl [] .nl)))]) (.nil 5 2))
 (.seq
 (.seq
 (.reg [mv 13 0, rg 14 (.len (.t 13)), rg 15 (.mov (.c (.i .i64 0)))])
 (.lp 0 (.norm true [0, 3, 5, 13, 14, 15]) l47_1 (.norm true [5])))
 (.seq
 (.reg [mv 87 5, rg 88 (.iad 2 (.t 87) (.c (.i .i64 0))), rg 89 (.fad 1 (.t 88)), rg 90 (.load none (.t 89)), mv 4 90])
 (.pre (.norm true [4]) .ret)))))
def b45 : AX :=
 (.seq
 (.reg [rg 1 (.xop (.box 3) [(.t 0)]), rg 2 (.mov (.c (.b false)))])
 (.seq
 (.seq
 (.reg [rg 3 (.fad 0 (.t 1)), rg 4 (.load none (.t 3))])
 (.block 0
 (.seq
 (.seq
 (.reg [rg 6 (.bin .eql (.t 4) (.c (.i .i64 2))), mv 5 6])
 (.cond (.t 5)
 .skip
 (.seq
 (.reg [rg 7 (.bin .eql (.t 4) (.c (.i .i64 3))), mv 5 7])
 (.cond (.t 5)
 .skip
 (.reg [rg 8 (.bin .eql (.t 4) (.c (.i .i64 4))), mv 5 8])))))
 (.cond (.t 5)
 (.seq
 (.reg [rg 9 (.load (some 3) (.t 1)), rg 10 (.call 75 [(.t 9), (.c (.i .i64 6)), (.c (.i .i64 6)), (.c (.i .i64 0))]), mv 2 10])
 (.pre (.norm false [2]) .ret))
 .skip))))
 (.seq
 (.reg [rg 2 (.mov (.c (.b false)))])
 (.pre (.norm false [2]) .ret))))
def b12 : AX :=
 (.seq
 (.reg [rg 3 (.xop (.box 3) [(.t 1)]), rg 4 (.mov (.c (.sl [] .nl))), rg 5 (.mov (.c (.b false)))])
 (.seq
 (.seq
 (.reg [rg 7 (.load (some 3) (.t 3)), rg 8 (.call 45 [(.t 7)]), rg 9 (.un .not (.t 8)), mv 10 9, gd 11 10 false (.mov (.t 0)), gd 12 10 false (.len (.t 11)),
 gd 13 10 false (.bin .gtr (.t 12) (.c (.i .i64 300))), rg 14 (.pick (.t 10) (.c (.b true)) (.t 13)), mv 15 14, gd 16 15 false (.mov (.t 0)),
 gd 17 15 false (.call 46 [(.t 16), (.c (.i .i64 6)), (.c (.i .i64 6)), (.c (.i .i64 0))]), gd 18 15 false (.bin .geq (.t 17) (.c (.i .i64 0))),
 rg 19 (.pick (.t 15) (.c (.b true)) (.t 18))])
 (.cond (.t 19)
 (.seq
 (.reg [rg 4 (.mov (.c (.sl [] .nl))), rg 5 (.mov (.c (.b false)))])
 (.pre (.norm false [4, 5]) .ret))
 .skip))
 (.seq
 (.reg [mv 20 0, rg 21 (.load (some 3) (.t 3)), rg 22 (.call 47 [(.t 20), (.t 21)]), mv 6 22])
 (.seq
 (.seq
 (.reg [mv 23 6, rg 24 (.eqnil false (.t 23))])
 (.cond (.t 24)
 (.reg [rg 25 (.call 48 [(.c (.i .i64 0))]), mv 6 25])
 .skip))
 (.seq
 (.reg [mv 26 6, mv 4 26, rg 5 (.mov (.c (.b true)))])
 (.pre (.norm false [4, 5]) .ret))))))
def l18_0 : AX :=
 (.note
 (.seq
 (.reg [rg 10 (.bin .lss (.t 9) (.t 8))])
 (.seq
 (.cond (.t 10)
 .skip
 (.exit 0))
 (.seq
 (.block 1
 (.seq
 (.reg [rg 11 (.iad 3 (.t 7) (.t 9)), rg 12 (.load (some 3) (.t 11)), rg 6 (.alloc [(.i .i64 0), (.i .i64 0), (.sl [] .nl)]), so (.store 3 (.t 6) (.t 12))])
 (.seq
 (.reg [rg 13 (.load (some 3) (.t 6)), rg 14 (.load (some 3) (.t 3)), rg 15 (.call 53 [(.t 13), (.t 14)])])
 (.cond (.t 15)
 (.seq
 (.reg [rg 4 (.mov (.c (.b false)))])
 (.pre (.norm false [4]) .ret))
 .skip))))
 (.reg [rg 16 (.bin .add (.t 9) (.c (.i .i64 1))), mv 9 16]))))
 (.norm false [3, 7, 8, 9]))
def b18 : AX :=
 (.seq
 (.reg [rg 3 (.xop (.box 3) [(.t 1)]), rg 4 (.mov (.c (.b false)))])
 (.seq
 (.seq
 (.reg [mv 7 0, rg 8 (.len (.t 7)), rg 9 (.mov (.c (.i .i64 0)))])
 (.lp 0 (.norm false [3, 7, 8, 9]) l18_0 (.norm false [])))
 (.seq
 (.reg [rg 4 (.mov (.c (.b true)))])
 (.pre (.norm false [4]) .ret))))
class CDiff (T : Tbl) : Prop where
 h109 : T 109 = some ⟨2, 40, [.t 4], b109, none, false⟩
 h48 : T 48 = some ⟨1, 12, [.t 2], b48, none, false⟩
 h110 : T 110 = some ⟨2, 11, [.t 4], b110, none, false⟩
 h111 : T 111 = some ⟨3, 26, [.t 6], b111, none, true⟩
 h112 : T 112 = some ⟨4, 24, [.t 8], b112, none, true⟩
 h78 : T 78 = some ⟨3, 56, [.t 6], b78, none, true⟩
 h77 : T 77 = some ⟨2, 69, [.t 4], b77, none, true⟩
 h53 : T 53 = some ⟨2, 17, [.t 4], b53, none, false⟩
 h47 : T 47 = some ⟨2, 91, [.t 4], b47, none, true⟩
 h45 : T 45 = some ⟨1, 11, [.t 2], b45, none, false⟩
 h12 : T 12 = some ⟨2, 27, [.t 4, .t 5], b12, none, false⟩
 h18 : T 18 = some ⟨2, 17, [.t 4], b18, none, false⟩
section
variable {T : Tbl} [CDiff T] {d : Option Nat} {st : St} {xs : List AV} {ps : List Opd} {e : Env} {h : Heap} {ol : List Heap}
@[simp] theorem x109 : callX (orc T) T 109 xs d st = cP T 109 false xs d st := callX_pure CDiff.h109
@[simp] theorem y109 : opD (orc T) T (.call 109 ps) e h ol = dP T 109 false ps e := opD_call CDiff.h109
theorem f109 (xs : List AV) (hn : xs.length = 2) : callF T 109 xs = retF [.t 4] false (evX (orc T) T 0 b109 ⟨argEnv xs, [], 1⟩) := callF_eq CDiff.h109 hn
@[simp] theorem x48 : callX (orc T) T 48 xs d st = cP T 48 false xs d st := callX_pure CDiff.h48
@[simp] theorem y48 : opD (orc T) T (.call 48 ps) e h ol = dP T 48 false ps e := opD_call CDiff.h48
theorem f48 (xs : List AV) (hn : xs.length = 1) : callF T 48 xs = retF [.t 2] false (evX (orc T) T 0 b48 ⟨argEnv xs, [], 1⟩) := callF_eq CDiff.h48 hn
@[simp] theorem y110 : opD (orc T) T (.call 110 ps) e h ol = dP T 110 false ps e := opD_call CDiff.h110
theorem f110 (xs : List AV) (hn : xs.length = 2) : callF T 110 xs = retF [.t 4] false (evX (orc T) T 0 b110 ⟨argEnv xs, [], 1⟩) := callF_eq CDiff.h110 hn
@[simp] theorem x111 : callX (orc T) T 111 xs d st = cP T 111 true xs d st := callX_pure CDiff.h111
theorem f111 (xs : List AV) (hn : xs.length = 3) : callF T 111 xs = retF [.t 6] true (evX (orc T) T 0 b111 ⟨argEnv xs, [], 1⟩) := callF_eq CDiff.h111 hn
@[simp] theorem x112 : callX (orc T) T 112 xs d st = cP T 112 true xs d st := callX_pure CDiff.h112
@[simp] theorem y112 : opD (orc T) T (.call 112 ps) e h ol = dP T 112 true ps e := opD_call CDiff.h112
theorem f112 (xs : List AV) (hn : xs.length = 4) : callF T 112 xs = retF [.t 8] true (evX (orc T) T 0 b112 ⟨argEnv xs, [], 1⟩) := callF_eq CDiff.h112 hn
@[simp] theorem x78 : callX (orc T) T 78 xs d st = cP T 78 true xs d st := callX_pure CDiff.h78
theorem f78 (xs : List AV) (hn : xs.length = 3) : callF T 78 xs = retF [.t 6] true (evX (orc T) T 0 b78 ⟨argEnv xs, [], 1⟩) := callF_eq CDiff.h78 hn
@[simp] theorem x77 : callX (orc T) T 77 xs d st = cP T 77 true xs d st := callX_pure CDiff.h77
theorem f77 (xs : List AV) (hn : xs.length = 2) : callF T 77 xs = retF [.t 4] true (evX (orc T) T 0 b77 ⟨argEnv xs, [], 1⟩) := callF_eq CDiff.h77 hn
@[simp] theorem x53 : callX (orc T) T 53 xs d st = cP T 53 false xs d st := callX_pure CDiff.h53
theorem f53 (xs : List AV) (hn : xs.length = 2) : callF T 53 xs = retF [.t 4] false (evX (orc T) T 0 b53 ⟨argEnv xs, [], 1⟩) := callF_eq CDiff.h53 hn
@[simp] theorem x47 : callX (orc T) T 47 xs d st = cP T 47 true xs d st := callX_pure CDiff.h47
theorem f47 (xs : List AV) (hn : xs.length = 2) : callF T 47 xs = retF [.t 4] true (evX (orc T) T 0 b47 ⟨argEnv xs, [], 1⟩) := callF_eq CDiff.h47 hn
@[simp] theorem x45 : callX (orc T) T 45 xs d st = cP T 45 false xs d st := callX_pure CDiff.h45
theorem f45 (xs : List AV) (hn : xs.length = 1) : callF T 45 xs = retF [.t 2] false (evX (orc T) T 0 b45 ⟨argEnv xs, [], 1⟩) := callF_eq CDiff.h45 hn
@[simp] theorem x12 : callX (orc T) T 12 xs d st = cP T 12 false xs d st := callX_pure CDiff.h12
@[simp] theorem y12 : opD (orc T) T (.call 12 ps) e h ol = dP T 12 false ps e := opD_call CDiff.h12
theorem f12 (xs : List AV) (hn : xs.length = 2) : callF T 12 xs = retF [.t 4, .t 5] false (evX (orc T) T 0 b12 ⟨argEnv xs, [], 1⟩) := callF_eq CDiff.h12 hn
@[simp] theorem x18 : callX (orc T) T 18 xs d st = cP T 18 false xs d st := callX_pure CDiff.h18
@[simp] theorem y18 : opD (orc T) T (.call 18 ps) e h ol = dP T 18 false ps e := opD_call CDiff.h18
theorem f18 (xs : List AV) (hn : xs.length = 2) : callF T 18 xs = retF [.t 4] false (evX (orc T) T 0 b18 ⟨argEnv xs, [], 1⟩) := callF_eq CDiff.h18 hn
end
end Go.Ab
end

section
namespace Go.Ab
def b113 : AX :=
 (.seq
 (.reg [rg 2 (.mov (.c (.i .i64 0)))])
 (.seq
 (.seq
 (.reg [mv 3 0, rg 4 (.bin .geq (.t 3) (.c (.i .i64 1))), mv 5 4, gd 6 5 true (.mov (.t 0)), gd 7 5 true (.bin .leq (.t 6) (.c (.i .i64 5))),
 rg 8 (.pick (.t 5) (.t 7) (.c (.b false)))])
 (.cond (.t 8)
 (.seq
 (.reg [rg 2 (.mov (.c (.i .i64 0)))])
 (.pre (.norm false [2]) .ret))
 .skip))
 (.seq
 (.seq
 (.reg [mv 9 0, rg 10 (.bin .eql (.t 9) (.c (.i .i64 6))), mv 11 10, gd 12 11 false (.mov (.t 0)), gd 13 11 false (.bin .eql (.t 12) (.c (.i .i64 11))),
 rg 14 (.pick (.t 11) (.c (.b true)) (.t 13))])
 (.cond (.t 14)
 (.seq
 (.reg [rg 2 (.mov (.c (.i .i64 1)))])
 (.pre (.norm false [2]) .ret))
 .skip))
 (.seq
 (.seq
 (.reg [mv 15 0, rg 16 (.bin .geq (.t 15) (.c (.i .i64 7))), mv 17 16, gd 18 17 true (.mov (.t 0)), gd 19 17 true (.bin .leq (.t 18) (.c (.i .i64 10))),
 rg 20 (.pick (.t 17) (.t 19) (.c (.b false)))])
 (.cond (.t 20)
 (.seq
 (.reg [rg 2 (.mov (.c (.i .i64 2)))])
 (.pre (.norm false [2]) .ret))
 .skip))
 (.seq
 (.reg [rg 2 (.mov (.c (.i .i64 (-1))))])
 (.pre (.norm false [2]) .ret))))))
def l80_0 : AX :=
 (.note
 (.seq
 (.seq
 (.reg [mv 6 4, mv 7 0, rg 8 (.len (.t 7)), rg 9 (.bin .lss (.t 6) (.t 8))])
 (.cond (.t 9)
 .skip
 (.exit 0)))
 (.seq
 (.block 1
 (.seq
 (.reg [mv 12 0, mv 13 4, rg 14 (.iad 3 (.t 12) (.t 13)), rg 15 (.fad 0 (.t 14)), rg 16 (.load none (.t 15)), rg 17 (.call 113 [(.t 16)]), mv 5 17])
 (.seq
 (.seq
 (.reg [mv 18 5, rg 19 (.bin .lss (.t 18) (.c (.i .i64 0))), mv 20 19, gd 21 20 false (.mov (.t 3)), gd 22 20 false (.mov (.t 5)),
 gd 23 20 false (.bin .lss (.t 21) (.t 22)), rg 24 (.pick (.t 20) (.c (.b true)) (.t 23))])
 (.cond (.t 24)
 (.seq
 (.reg [mv 25 4, mv 2 25])
 (.pre (.norm false [2]) .ret))
 .skip))
 (.reg [mv 26 3, mv 27 5, rg 28 (.bin .sub (.t 26) (.t 27)), rg 29 (.bin .add (.t 28) (.c (.i .i64 1))), mv 3 29]))))
 (.reg [mv 10 4, rg 11 (.bin .add (.t 10) (.c (.i .i64 1))), mv 4 11])))
 (.norm false [0, 3, 4]))
def b80 : AX :=
 (.seq
 (.reg [rg 2 (.mov (.c (.i .i64 0)))])
 (.seq
 (.reg [rg 3 (.mov (.c (.i .i64 0)))])
 (.seq
 (.seq
 (.reg [rg 4 (.mov (.c (.i .i64 0)))])
 (.lp 0 (.norm false [0, 3, 4]) l80_0 (.norm false [0, 3])))
 (.seq
 (.seq
 (.reg [mv 30 3, rg 31 (.bin .eql (.t 30) (.c (.i .i64 1)))])
 (.cond (.t 31)
 (.seq
 (.reg [rg 2 (.mov (.c (.i .i64 (-1))))])
 (.pre (.norm false [2]) .ret))
 .skip))
 (.seq
 (.reg [mv 32 0, rg 33 (.len (.t 32)), mv 2 33])
 (.pre (.norm false [2]) .ret))))))
def l114_0 : AX :=
 (.note
 (.seq
 (.seq
 (.reg [mv 18 8, rg 19 (.bin .gtr (.t 18) (.c (.i .i64 0)))])
 (.cond (.t 19)
 .skip
 (.exit 0)))
 (.seq
 (.block 1
 (.seq
 (.reg [mv 23 0, mv 24 7, rg 25 (.bin .sub (.t 24) (.c (.i .i64 1))), rg 26 (.call 114 [(.t 23), (.t 25)]), mv 22 26, rg 27 (.ext (.t 22) 0),
 rg 28 (.ext (.t 22) 1), mv 9 27, mv 10 28])
 (.seq
 (.reg [mv 29 6, mv 30 9, rg 31 (.mm true [(.t 29), (.t 30)]), mv 6 31])
 (.reg [mv 32 10, mv 7 32]))))
 (.reg [mv 20 8, rg 21 (.bin .sub (.t 20) (.c (.i .i64 1))), mv 8 21])))
 (.norm false [0, 6, 7, 8]))
def b114 : AX :=
 (.seq
 (.reg [rg 4 (.mov (.c (.i .i64 0))), rg 5 (.mov (.c (.i .i64 0)))])
 (.seq
 (.reg [rg 6 (.mov (.c (.i .i64 0)))])
 (.seq
 (.reg [mv 11 1, mv 7 11])
 (.seq
 (.seq
 (.reg [mv 12 0, mv 13 1, rg 14 (.iad 3 (.t 12) (.t 13)), rg 15 (.fad 0 (.t 14)), rg 16 (.load none (.t 15)), rg 17 (.call 113 [(.t 16)]), mv 8 17])
 (.lp 0 (.norm false [0, 6, 7, 8]) l114_0 (.norm false [6, 7])))
 (.seq
 (.reg [mv 33 6, rg 34 (.bin .add (.t 33) (.c (.i .i64 1))), mv 35 7, mv 4 34, mv 5 35])
 (.pre (.norm false [4, 5]) .ret))))))
def b81 : AX :=
 (.seq
 (.reg [rg 2 (.mov (.c (.sl [] .nl)))])
 (.seq
 (.reg [mv 7 0, rg 8 (.len (.t 7)), rg 9 (.bin .sub (.t 8) (.c (.i .i64 1))), mv 3 9])
 (.seq
 (.reg [mv 10 0, mv 11 3, rg 12 (.iad 3 (.t 10) (.t 11)), rg 13 (.fad 0 (.t 12)), rg 14 (.load none (.t 13)), rg 15 (.call 113 [(.t 14)]), mv 4 15])
 (.seq
 (.seq
 (.reg [mv 16 4, rg 17 (.bin .eql (.t 16) (.c (.i .i64 0)))])
 (.cond (.t 17)
 (.seq
 (.reg [rg 18 (.bsl 1 [(.sl [] .nl)] 0 []), mv 2 18])
 (.pre (.norm false [2]) .ret))
 .skip))
 (.seq
 (.reg [mv 20 0, mv 21 3, rg 22 (.bin .sub (.t 21) (.c (.i .i64 1))), rg 23 (.call 114 [(.t 20), (.t 22)]), mv 19 23, rg 24 (.ext (.t 19) 0),
 rg 25 (.ext (.t 19) 1), mv 5 24, mv 6 25])
 (.seq
 (.seq
 (.reg [mv 26 4, rg 27 (.bin .eql (.t 26) (.c (.i .i64 1)))])
 (.cond (.t 27)
 (.seq
 (.reg [mv 28 0, mv 29 3, rg 30 (.slc 3 (.t 28) none (some (.t 29)) none), rg 31 (.bsl 1 [(.sl [] .nl)] 1 [(0, (.t 30))]), mv 2 31])
 (.pre (.norm false [2]) .ret))
 .skip))
 (.seq
 (.drawT [mv 32 0, mv 33 6, rg 34 (.slc 3 (.t 32) none (some (.t 33)) none), mv 35 0, mv 36 6, mv 37 3, rg 38 (.slc 3 (.t 35) (some (.t 36)) (some (.t 37)) none)]
 [rg 39 (.bsl 1 [(.sl [] .nl)] 2 [(0, (.t 34)), (1, (.t 38))]), mv 2 39])
 (.pre (.norm false [2]) .ret))))))))
def l16_0 : AX :=
 (.note
 (.seq
 (.seq
 (.reg [mv 11 5, mv 12 0, rg 13 (.len (.t 12)), rg 14 (.bin .lss (.t 11) (.t 13))])
 (.cond (.t 14)
 .skip
 (.exit 0)))
 (.seq
 (.block 1
 (.seq
 (.drawT [mv 17 0, mv 18 5, rg 19 (.iad 3 (.t 17) (.t 18)), rg 20 (.fad 0 (.t 19)), rg 21 (.load none (.t 20)), mv 22 1, mv 23 5, rg 24 (.iad 3 (.t 22) (.t 23)),
 rg 25 (.fad 0 (.t 24)), rg 26 (.load none (.t 25)), rg 27 (.bin .neq (.t 21) (.t 26)), mv 28 27, gd 29 28 false (.mov (.t 0)),
 gd 30 28 false (.mov (.t 5)), gd 31 28 false (.iad 3 (.t 29) (.t 30)), gd 32 28 false (.fad 1 (.t 31)), gd 33 28 false (.load none (.t 32)),
 gd 34 28 false (.mov (.t 1)), gd 35 28 false (.mov (.t 5)), gd 36 28 false (.iad 3 (.t 34) (.t 35)), gd 37 28 false (.fad 1 (.t 36)),
 gd 38 28 false (.load none (.t 37)), gd 39 28 false (.bin .neq (.t 33) (.t 38)), rg 40 (.pick (.t 28) (.c (.b true)) (.t 39)), mv 41 40,
 gd 42 41 false (.mov (.t 0)), gd 43 41 false (.mov (.t 5)), gd 44 41 false (.iad 3 (.t 42) (.t 43)), gd 45 41 false (.fad 2 (.t 44)),
 gd 46 41 false (.load none (.t 45)), gd 47 41 false (.mov (.t 1)), gd 48 41 false (.mov (.t 5)), gd 49 41 false (.iad 3 (.t 47) (.t 48)),
 gd 50 41 false (.fad 2 (.t 49)), gd 51 41 false (.load none (.t 50))]
 [gd 52 41 false (.call 52 [(.t 46), (.t 51)]), gd 53 41 false (.bin .neq (.t 52) (.c (.i .i64 0))), rg 54 (.pick (.t 41) (.c (.b true)) (.t 53))])
 (.cond (.t 54)
 (.seq
 (.reg [rg 4 (.mov (.c (.b false)))])
 (.pre (.norm false [4]) .ret))
 .skip)))
 (.reg [mv 15 5, rg 16 (.bin .add (.t 15) (.c (.i .i64 1))), mv 5 16])))
 (.norm false [0, 1, 5]))
def b16 : AX :=
 (.seq
 (.reg [rg 4 (.mov (.c (.b false)))])
 (.seq
 (.seq
 (.reg [mv 6 0, rg 7 (.len (.t 6)), mv 8 1, rg 9 (.len (.t 8)), rg 10 (.bin .neq (.t 7) (.t 9))])
 (.cond (.t 10)
 (.seq
 (.reg [rg 4 (.mov (.c (.b false)))])
 (.pre (.norm false [4]) .ret))
 .skip))
 (.seq
 (.seq
 (.reg [rg 5 (.mov (.c (.i .i64 0)))])
 (.lp 0 (.norm false [0, 1, 5]) l16_0 (.norm false [])))
 (.seq
 (.reg [rg 4 (.mov (.c (.b true)))])
 (.pre (.norm false [4]) .ret)))))
def l10_0 : AX :=
 (.note
 (.seq
 (.seq
 (.reg [mv 8 7, mv 9 0, rg 10 (.len (.t 9)), rg 11 (.bin .lss (.t 8) (.t 10)), mv 12 11, gd 13 12 true (.mov (.t 7)), gd 14 12 true (.mov (.t 1)),
 gd 15 12 true (.bin .lss (.t 13) (.t 14)), rg 16 (.pick (.t 12) (.t 15) (.c (.b false)))])
 (.cond (.t 16)
 .skip
 (.exit 0)))
 (.seq
 (.block 1
 (.seq
 (.reg [mv 19 0, mv 20 7, rg 21 (.iad 3 (.t 19) (.t 20)), rg 22 (.fad 2 (.t 21)), rg 23 (.load none (.t 22)), rg 24 (.len (.t 23)), mv 25 2,
 rg 26 (.bin .gtr (.t 24) (.t 25))])
 (.cond (.t 26)
 (.seq
 (.reg [rg 6 (.mov (.c (.b true)))])
 (.pre (.norm false [6]) .ret))
 .skip)))
 (.reg [mv 17 7, rg 18 (.bin .add (.t 17) (.c (.i .i64 1))), mv 7 18])))
 (.norm false [0, 1, 2, 7]))
def b10 : AX :=
 (.seq
 (.reg [rg 6 (.mov (.c (.b false)))])
 (.seq
 (.seq
 (.reg [rg 7 (.mov (.c (.i .i64 0)))])
 (.lp 0 (.norm false [0, 1, 2, 7]) l10_0 (.norm false [0, 1])))
 (.seq
 (.reg [mv 27 0, rg 28 (.len (.t 27)), mv 29 1, rg 30 (.bin .gtr (.t 28) (.t 29)), mv 6 30])
 (.pre (.norm false [6]) .ret))))
def b79 : AX :=
 (.seq
 (.reg [rg 4 (.xop (.box 3) [(.t 0)]), rg 8 (.mov (.c (.b false)))])
 (.seq
 (.seq
 (.reg [rg 9 (.fad 0 (.t 4)), rg 10 (.load none (.t 9)), rg 11 (.bin .eql (.t 10) (.c (.i .i64 1)))])
 (.cond (.t 11)
 (.seq
 (.drawT [rg 12 (.fad 1 (.t 4)), rg 13 (.load none (.t 12)), rg 14 (.bin .eql (.t 13) (.c (.i .i64 0))), mv 15 14, gd 16 15 true (.fad 2 (.t 4)),
 gd 17 15 true (.load none (.t 16)), gd 18 15 true (.call 43 [(.t 17)]), gd 19 15 true (.fad 2 (.t 4)), gd 20 15 true (.load none (.t 19))]
 [gd 21 15 true (.call 54 [(.t 18), (.t 20)]), rg 22 (.pick (.t 15) (.t 21) (.c (.b false))), mv 23 22, gd 24 23 true (.fad 2 (.t 4)),
 gd 25 23 true (.load none (.t 24)), gd 26 23 true (.call 69 [(.t 25)]), gd 27 23 true (.lens (.t 26)),
 gd 28 23 true (.bin .leq (.t 27) (.c (.i .i64 60))), rg 29 (.pick (.t 23) (.t 28) (.c (.b false))), mv 8 29])
 (.pre (.norm false [8]) .ret))
 .skip))
 (.seq
 (.seq
 (.reg [rg 30 (.fad 2 (.t 4)), rg 31 (.load none (.t 30)), rg 32 (.len (.t 31)), rg 33 (.bin .gtr (.t 32) (.c (.i .i64 0))), mv 34 33,
 gd 35 34 false (.fad 0 (.t 4)), gd 36 34 false (.load none (.t 35)), gd 37 34 false (.bin .lss (.t 36) (.c (.i .i64 1))),
 rg 38 (.pick (.t 34) (.c (.b true)) (.t 37)), mv 39 38, gd 40 39 false (.fad 0 (.t 4)), gd 41 39 false (.load none (.t 40)),
 gd 42 39 false (.bin .gtr (.t 41) (.c (.i .i64 11))), rg 43 (.pick (.t 39) (.c (.b true)) (.t 42))])
 (.cond (.t 43)
 (.seq
 (.reg [rg 8 (.mov (.c (.b false)))])
 (.pre (.norm false [8]) .ret))
 .skip))
 (.seq
 (.seq
 (.reg [rg 44 (.fad 0 (.t 4)), rg 45 (.load none (.t 44)), rg 46 (.bin .eql (.t 45) (.c (.i .i64 3)))])
 (.cond (.t 46)
 (.seq
 (.reg [rg 47 (.fad 1 (.t 4)), rg 48 (.load none (.t 47)), rg 49 (.bin .geq (.t 48) (.c (.i .i64 0))), mv 50 49, gd 51 50 true (.fad 1 (.t 4)),
 gd 52 50 true (.load none (.t 51)), gd 53 50 true (.mov (.t 1)), gd 54 50 true (.bin .lss (.t 52) (.t 53)),
 rg 55 (.pick (.t 50) (.t 54) (.c (.b false))), mv 8 55])
 (.pre (.norm false [8]) .ret))
 .skip))
 (.seq
 (.seq
 (.reg [rg 56 (.fad 0 (.t 4)), rg 57 (.load none (.t 56)), rg 58 (.bin .eql (.t 57) (.c (.i .i64 4)))])
 (.cond (.t 58)
 (.seq
 (.reg [rg 59 (.fad 1 (.t 4)), rg 60 (.load none (.t 59)), rg 61 (.bin .geq (.t 60) (.c (.i .i64 0))), mv 62 61, gd 63 62 true (.fad 1 (.t 4)),
 gd 64 62 true (.load none (.t 63)), gd 65 62 true (.mov (.t 2)), gd 66 62 true (.bin .lss (.t 64) (.t 65)),
 rg 67 (.pick (.t 62) (.t 66) (.c (.b false))), mv 8 67])
 (.pre (.norm false [8]) .ret))
 .skip))
 (.seq
 (.seq
 (.reg [rg 68 (.fad 0 (.t 4)), rg 69 (.load none (.t 68)), rg 70 (.bin .eql (.t 69) (.c (.i .i64 5)))])
 (.cond (.t 70)
 (.seq
 (.reg [rg 71 (.fad 1 (.t 4)), rg 72 (.load none (.t 71)), rg 73 (.bin .geq (.t 72) (.c (.i .i64 0))), mv 74 73, gd 75 74 true (.fad 1 (.t 4)),
 gd 76 74 true (.load none (.t 75)), gd 77 74 true (.mov (.t 3)), gd 78 74 true (.bin .lss (.t 76) (.t 77)),
 rg 79 (.pick (.t 74) (.t 78) (.c (.b false))), mv 8 79])
 (.pre (.norm false [8]) .ret))
 .skip))
 (.seq
 (.seq
 (.reg [rg 80 (.fad 0 (.t 4)), rg 81 (.load none (.t 80)), rg 82 (.bin .eql (.t 81) (.c (.i .i64 11)))])
 (.cond (.t 82)
 (.seq
 (.reg [rg 83 (.fad 1 (.t 4)), rg 84 (.load none (.t 83)), rg 85 (.bin .geq (.t 84) (.c (.i .i64 (-8)))), mv 86 85, gd 87 86 true (.fad 1 (.t 4)),
 gd 88 86 true (.load none (.t 87)), gd 89 86 true (.bin .leq (.t 88) (.c (.i .i64 8))), rg 90 (.pick (.t 86) (.t 89) (.c (.b false))), mv 8 90])
 (.pre (.norm false [8]) .ret))
 .skip))
 (.seq
 (.reg [rg 91 (.fad 1 (.t 4)), rg 92 (.load none (.t 91)), rg 93 (.bin .eql (.t 92) (.c (.i .i64 0))), mv 8 93])
 (.pre (.norm false [8]) .ret)))))))))
def l50_0 : AX :=
 (.note
 (.seq
 (.seq
 (.reg [mv 13 10, mv 14 0, rg 15 (.len (.t 14)), rg 16 (.bin .lss (.t 13) (.t 15))])
 (.cond (.t 16)
 .skip
 (.exit 0)))
 (.seq
 (.block 1
 (.seq
 (.reg [mv 19 10, mv 20 9, rg 21 (.bin .eql (.t 19) (.t 20)), mv 22 21, gd 23 22 false (.mov (.t 0)), gd 24 22 false (.mov (.t 10)),
 gd 25 22 false (.iad 3 (.t 23) (.t 24)), gd 26 22 false (.load (some 3) (.t 25)), gd 27 22 false (.mov (.t 1)), gd 28 22 false (.mov (.t 2)),
 gd 29 22 false (.mov (.t 3)), gd 30 22 false (.call 79 [(.t 26), (.t 27), (.t 28), (.t 29)]), gd 31 22 false (.un .not (.t 30)),
 rg 32 (.pick (.t 22) (.c (.b true)) (.t 31))])
 (.cond (.t 32)
 (.seq
 (.reg [mv 33 10, mv 8 33])
 (.pre (.norm false [8]) .ret))
 .skip)))
 (.reg [mv 17 10, rg 18 (.bin .add (.t 17) (.c (.i .i64 1))), mv 10 18])))
 (.norm false [0, 1, 2, 3, 9, 10]))
def b50 : AX :=
 (.seq
 (.reg [rg 8 (.mov (.c (.i .i64 0)))])
 (.seq
 (.reg [mv 11 0, rg 12 (.call 80 [(.t 11)]), mv 9 12])
 (.seq
 (.seq
 (.reg [rg 10 (.mov (.c (.i .i64 0)))])
 (.lp 0 (.norm false [0, 1, 2, 3, 9, 10]) l50_0 (.norm false [9])))
 (.seq
 (.reg [mv 34 9, mv 8 34])
 (.pre (.norm false [8]) .ret)))))
class CRef17 (T : Tbl) : Prop where
 h113 : T 113 = some ⟨1, 21, [.t 2], b113, none, false⟩
 h80 : T 80 = some ⟨1, 34, [.t 2], b80, none, false⟩
 h114 : T 114 = some ⟨2, 36, [.t 4, .t 5], b114, none, false⟩
 h81 : T 81 = some ⟨1, 40, [.t 2], b81, none, false⟩
 h16 : T 16 = some ⟨2, 55, [.t 4], b16, none, false⟩
 h10 : T 10 = some ⟨3, 31, [.t 6], b10, none, false⟩
 h79 : T 79 = some ⟨4, 94, [.t 8], b79, none, false⟩
 h50 : T 50 = some ⟨4, 35, [.t 8], b50, none, false⟩
section
variable {T : Tbl} [CRef17 T] {d : Option Nat} {st : St} {xs : List AV} {ps : List Opd} {e : Env} {h : Heap} {ol : List Heap}
@[simp] theorem x113 : callX (orc T) T 113 xs d st = cP T 113 false xs d st := callX_pure CRef17.h113
theorem f113 (xs : List AV) (hn : xs.length = 1) : callF T 113 xs = retF [.t 2] false (evX (orc T) T 0 b113 ⟨argEnv xs, [], 1⟩) := callF_eq CRef17.h113 hn
@[simp] theorem x80 : callX (orc T) T 80 xs d st = cP T 80 false xs d st := callX_pure CRef17.h80
theorem f80 (xs : List AV) (hn : xs.length = 1) : callF T 80 xs = retF [.t 2] false (evX (orc T) T 0 b80 ⟨argEnv xs, [], 1⟩) := callF_eq CRef17.h80 hn
@[simp] theorem x114 : callX (orc T) T 114 xs d st = cP T 114 false xs d st := callX_pure CRef17.h114
theorem f114 (xs : List AV) (hn : xs.length = 2) : callF T 114 xs = retF [.t 4, .t 5] false (evX (orc T) T 0 b114 ⟨argEnv xs, [], 1⟩) := callF_eq CRef17.h114 hn
@[simp] theorem x81 : callX (orc T) T 81 xs d st = cP T 81 false xs d st := callX_pure CRef17.h81
theorem f81 (xs : List AV) (hn : xs.length = 1) : callF T 81 xs = retF [.t 2] false (evX (orc T) T 0 b81 ⟨argEnv xs, [], 1⟩) := callF_eq CRef17.h81 hn
@[simp] theorem x16 : callX (orc T) T 16 xs d st = cP T 16 false xs d st := callX_pure CRef17.h16
@[simp] theorem y16 : opD (orc T) T (.call 16 ps) e h ol = dP T 16 false ps e := opD_call CRef17.h16
theorem f16 (xs : List AV) (hn : xs.length = 2) : callF T 16 xs = retF [.t 4] false (evX (orc T) T 0 b16 ⟨argEnv xs, [], 1⟩) := callF_eq CRef17.h16 hn
@[simp] theorem x10 : callX (orc T) T 10 xs d st = cP T 10 false xs d st := callX_pure CRef17.h10
theorem f10 (xs : List AV) (hn : xs.length = 3) : callF T 10 xs = retF [.t 6] false (evX (orc T) T 0 b10 ⟨argEnv xs, [], 1⟩) := callF_eq CRef17.h10 hn
@[simp] theorem x79 : callX (orc T) T 79 xs d st = cP T 79 false xs d st := callX_pure CRef17.h79
theorem f79 (xs : List AV) (hn : xs.length = 4) : callF T 79 xs = retF [.t 8] false (evX (orc T) T 0 b79 ⟨argEnv xs, [], 1⟩) := callF_eq CRef17.h79 hn
@[simp] theorem x50 : callX (orc T) T 50 xs d st = cP T 50 false xs d st := callX_pure CRef17.h50
theorem f50 (xs : List AV) (hn : xs.length = 4) : callF T 50 xs = retF [.t 8] false (evX (orc T) T 0 b50 ⟨argEnv xs, [], 1⟩) := callF_eq CRef17.h50 hn
end
end Go.Ab
end

section
namespace Go.Ab
def b83 : AX :=
 (.seq
 (.reg [rg 8 (.mov (.c (.sl [] .nl)))])
 (.seq
 (.reg [rg 10 (.bsl 3 [(.i .i64 0), (.i .i64 0), (.sl [] .nl)] 0 []), mv 11 0, rg 12 (.app 3 (.t 10) (.t 11)), mv 13 1, rg 14 (.app 3 (.t 12) (.t 13)), mv 9 14])
 (.seq
 (.reg [mv 15 9, mv 16 2, mv 17 3, rg 18 (.build [(.i .i64 0), (.i .i64 0), (.sl [] .nl)] [(0, 1, (.t 16)), (1, 1, (.t 17))]),
 rg 19 (.bsl 3 [(.i .i64 0), (.i .i64 0), (.sl [] .nl)] 1 [(0, (.t 18))]), rg 20 (.app 3 (.t 15) (.t 19)), mv 8 20])
 (.pre (.norm false [8]) .ret))))
def b82 : AX :=
 (.seq
 (.reg [rg 2 (.mov (.c (.sl [] .nl)))])
 (.seq
 (.reg [mv 3 0, rg 4 (.conv .u32 (.t 3)), rg 5 (.bsl 1 [(u32 0)] 1 [(0, (.t 4))]),
 rg 6 (.build [(.i .i64 0), (.i .i64 0), (.sl [] .nl)] [(0, 1, (.c (.i .i64 1))), (2, 1, (.t 5))]),
 rg 7 (.bsl 3 [(.i .i64 0), (.i .i64 0), (.sl [] .nl)] 1 [(0, (.t 6))]), mv 2 7])
 (.pre (.norm false [2]) .ret)))
def b51 : AX :=
 (.seq
 (.reg [rg 3 (.xop (.box 3) [(.t 1)]), rg 4 (.mov (.c (.sl [] .nl)))])
 (.seq
 (.reg [rg 17 (.bsl 3 [(.i .i64 0), (.i .i64 0), (.sl [] .nl)] 0 []), mv 5 17])
 (.seq
 (.reg [mv 18 0, mv 19 0, rg 20 (.len (.t 19)), rg 21 (.bin .sub (.t 20) (.c (.i .i64 1))), rg 22 (.iad 3 (.t 18) (.t 21)), rg 23 (.load (some 3) (.t 22)),
 rg 6 (.alloc [(.i .i64 0), (.i .i64 0), (.sl [] .nl)]), so (.store 3 (.t 6) (.t 23))])
 (.seq
 (.reg [mv 24 0, rg 25 (.call 81 [(.t 24)]), mv 7 25])
 (.seq
 (.seq
 (.reg [mv 26 7, rg 27 (.len (.t 26)), rg 28 (.bin .eql (.t 27) (.c (.i .i64 0)))])
 (.cond (.t 28)
 (.seq
 (.seq
 (.reg [rg 29 (.fad 0 (.t 6)), rg 30 (.load none (.t 29)), rg 31 (.fad 0 (.t 3)), rg 32 (.load none (.t 31)), rg 33 (.bin .eql (.t 30) (.t 32)), mv 34 33,
 gd 35 34 true (.fad 1 (.t 6)), gd 36 34 true (.load none (.t 35)), gd 37 34 true (.fad 1 (.t 3)), gd 38 34 true (.load none (.t 37)),
 gd 39 34 true (.bin .eql (.t 36) (.t 38)), rg 40 (.pick (.t 34) (.t 39) (.c (.b false)))])
 (.cond (.t 40)
 (.seq
 (.reg [rg 41 (.call 82 [(.c (.i .i64 1))]), mv 4 41])
 (.pre (.norm false [4]) .ret))
 .skip))
 (.seq
 (.reg [mv 42 5, mv 4 42])
 (.pre (.norm false [4]) .ret)))
 .skip))
 (.seq
 (.reg [mv 43 7, rg 44 (.iad 1 (.t 43) (.c (.i .i64 0))), rg 45 (.load none (.t 44)), mv 8 45])
 (.seq
 (.reg [mv 46 8, rg 47 (.load (some 3) (.t 3)), rg 48 (.call 51 [(.t 46), (.t 47)]), mv 9 48])
 (.seq
 (.seq
 (.reg [rg 49 (.fad 0 (.t 6)), rg 50 (.load none (.t 49)), rg 51 (.bin .eql (.t 50) (.c (.i .i64 6))), mv 52 51, gd 53 52 true (.mov (.t 9)),
 gd 54 52 true (.len (.t 53)), gd 55 52 true (.bin .gtr (.t 54) (.c (.i .i64 0))), rg 56 (.pick (.t 52) (.t 55) (.c (.b false)))])
 (.cond (.t 56)
 (.seq
 (.reg [mv 57 9, mv 58 5, rg 59 (.call 83 [(.t 57), (.t 58), (.c (.i .i64 6)), (.c (.i .i64 0))]), mv 4 59])
 (.pre (.norm false [4]) .ret))
 .skip))
 (.seq
 (.seq
 (.reg [rg 60 (.fad 0 (.t 6)), rg 61 (.load none (.t 60)), rg 62 (.bin .eql (.t 61) (.c (.i .i64 11))), mv 63 62, gd 64 63 true (.mov (.t 9)),
 gd 65 63 true (.len (.t 64)), gd 66 63 true (.bin .gtr (.t 65) (.c (.i .i64 0))), rg 67 (.pick (.t 63) (.t 66) (.c (.b false))), mv 68 67,
 gd 69 68 true (.fad 1 (.t 6)), gd 70 68 true (.load none (.t 69)), gd 71 68 true (.bin .gtr (.t 70) (.c (.i .i64 0))),
 rg 72 (.pick (.t 68) (.t 71) (.c (.b false)))])
 (.cond (.t 72)
 (.seq
 (.drawT [rg 73 (.fad 1 (.t 6)), rg 74 (.load none (.t 73)), rg 75 (.call 82 [(.t 74)]), mv 76 8, mv 77 5, rg 78 (.fad 1 (.t 6)), rg 79 (.load none (.t 78)),
 rg 80 (.bin .sub (.t 79) (.c (.i .i64 1)))]
 [rg 81 (.call 83 [(.t 76), (.t 77), (.c (.i .i64 11)), (.t 80)]), rg 82 (.call 83 [(.t 75), (.t 81), (.c (.i .i64 9)), (.c (.i .i64 0))]), mv 10 82])
 (.seq
 (.reg [mv 83 10, mv 84 9, rg 85 (.call 83 [(.t 83), (.t 84), (.c (.i .i64 9)), (.c (.i .i64 0))]), mv 4 85])
 (.pre (.norm false [4]) .ret)))
 .skip))
 (.seq
 (.seq
 (.reg [rg 86 (.fad 0 (.t 6)), rg 87 (.load none (.t 86)), rg 88 (.bin .eql (.t 87) (.c (.i .i64 11))), mv 89 88, gd 90 89 true (.mov (.t 9)),
 gd 91 89 true (.len (.t 90)), gd 92 89 true (.bin .gtr (.t 91) (.c (.i .i64 0))), rg 93 (.pick (.t 89) (.t 92) (.c (.b false))), mv 94 93,
 gd 95 94 true (.fad 1 (.t 6)), gd 96 94 true (.load none (.t 95)), gd 97 94 true (.bin .lss (.t 96) (.c (.i .i64 0))),
 rg 98 (.pick (.t 94) (.t 97) (.c (.b false)))])
 (.cond (.t 98)
 (.seq
 (.drawT [rg 99 (.fad 1 (.t 6)), rg 100 (.load none (.t 99)), rg 101 (.un .neg (.t 100)), rg 102 (.call 82 [(.t 101)]), mv 103 8, mv 104 5, rg 105 (.fad 1 (.t 6)),
 rg 106 (.load none (.t 105)), rg 107 (.call 83 [(.t 103), (.t 104), (.c (.i .i64 11)), (.t 106)]),
 rg 108 (.call 83 [(.t 102), (.t 107), (.c (.i .i64 9)), (.c (.i .i64 0))]), mv 109 9]
 [rg 110 (.call 83 [(.t 108), (.t 109), (.c (.i .i64 9)), (.c (.i .i64 0))]), mv 11 110])
 (.seq
 (.reg [mv 111 11, mv 112 8, rg 113 (.call 83 [(.t 111), (.t 112), (.c (.i .i64 10)), (.c (.i .i64 0))]), mv 114 5,
 rg 115 (.call 83 [(.t 113), (.t 114), (.c (.i .i64 6)), (.c (.i .i64 0))]), mv 4 115])
 (.pre (.norm false [4]) .ret)))
 .skip))
 (.seq
 (.seq
 (.reg [mv 116 7, rg 117 (.len (.t 116)), rg 118 (.bin .eql (.t 117) (.c (.i .i64 1)))])
 (.cond (.t 118)
 (.seq
 (.reg [mv 119 5, mv 4 119])
 (.pre (.norm false [4]) .ret))
 .skip))
 (.seq
 (.reg [mv 120 7, rg 121 (.iad 1 (.t 120) (.c (.i .i64 1))), rg 122 (.load none (.t 121)), mv 12 122])
 (.seq
 (.reg [mv 123 12, rg 124 (.load (some 3) (.t 3)), rg 125 (.call 51 [(.t 123), (.t 124)]), mv 13 125])
 (.seq
 (.reg [mv 126 9, mv 14 126])
 (.seq
 (.reg [mv 127 13, mv 15 127])
 (.seq
 (.reg [rg 128 (.fad 0 (.t 6)), rg 129 (.load none (.t 128)), mv 16 129])
 (.seq
 (.seq
 (.reg [rg 130 (.fad 0 (.t 6)), rg 131 (.load none (.t 130)), rg 132 (.bin .eql (.t 131) (.c (.i .i64 9)))])
 (.cond (.t 132)
 (.seq
 (.reg [mv 133 9, mv 134 12, rg 135 (.call 83 [(.t 133), (.t 134), (.c (.i .i64 9)), (.c (.i .i64 0))]), mv 14 135])
 (.seq
 (.reg [mv 136 8, mv 137 13, rg 138 (.call 83 [(.t 136), (.t 137), (.c (.i .i64 9)), (.c (.i .i64 0))]), mv 15 138])
 (.reg [rg 16 (.mov (.c (.i .i64 7)))])))
 .skip))
 (.seq
 (.seq
 (.reg [rg 139 (.fad 0 (.t 6)), rg 140 (.load none (.t 139)), rg 141 (.bin .eql (.t 140) (.c (.i .i64 10)))])
 (.cond (.t 141)
 (.seq
 (.reg [mv 142 9, mv 143 12, rg 144 (.call 83 [(.t 142), (.t 143), (.c (.i .i64 10)), (.c (.i .i64 0))]), mv 14 144])
 (.seq
 (.reg [mv 145 8, mv 146 13, rg 147 (.call 83 [(.t 145), (.t 146), (.c (.i .i64 9)), (.c (.i .i64 0))]), mv 148 12, mv 149 12,
 rg 150 (.call 83 [(.t 148), (.t 149), (.c (.i .i64 9)), (.c (.i .i64 0))]), rg 151 (.call 83 [(.t 147), (.t 150), (.c (.i .i64 10)), (.c (.i .i64 0))]),
 mv 15 151])
 (.reg [rg 16 (.mov (.c (.i .i64 8)))])))
 .skip))
 (.seq
 (.seq
 (.reg [mv 152 9, rg 153 (.len (.t 152)), rg 154 (.bin .gtr (.t 153) (.c (.i .i64 0))), mv 155 154, gd 156 155 true (.mov (.t 13)),
 gd 157 155 true (.len (.t 156)), gd 158 155 true (.bin .gtr (.t 157) (.c (.i .i64 0))), rg 159 (.pick (.t 155) (.t 158) (.c (.b false)))])
 (.cond (.t 159)
 (.seq
 (.reg [mv 160 14, mv 161 15, mv 162 16, rg 163 (.call 83 [(.t 160), (.t 161), (.t 162), (.c (.i .i64 0))]), mv 4 163])
 (.pre (.norm false [4]) .ret))
 .skip))
 (.seq
 (.seq
 (.reg [mv 164 9, rg 165 (.len (.t 164)), rg 166 (.bin .gtr (.t 165) (.c (.i .i64 0)))])
 (.cond (.t 166)
 (.seq
 (.reg [mv 167 14, mv 4 167])
 (.pre (.norm false [4]) .ret))
 .skip))
 (.seq
 (.seq
 (.reg [mv 168 13, rg 169 (.len (.t 168)), rg 170 (.bin .gtr (.t 169) (.c (.i .i64 0))), mv 171 170, gd 172 171 true (.mov (.t 16)),
 gd 173 171 true (.bin .eql (.t 172) (.c (.i .i64 8))), rg 174 (.pick (.t 171) (.t 173) (.c (.b false)))])
 (.cond (.t 174)
 (.seq
 (.reg [mv 175 15, mv 176 5, rg 177 (.call 83 [(.t 175), (.t 176), (.c (.i .i64 6)), (.c (.i .i64 0))]), mv 4 177])
 (.pre (.norm false [4]) .ret))
 .skip))
 (.seq
 (.seq
 (.reg [mv 178 13, rg 179 (.len (.t 178)), rg 180 (.bin .gtr (.t 179) (.c (.i .i64 0)))])
 (.cond (.t 180)
 (.seq
 (.reg [mv 181 15, mv 4 181])
 (.pre (.norm false [4]) .ret))
 .skip))
 (.seq
 (.reg [mv 182 5, mv 4 182])
 (.pre (.norm false [4]) .ret))))))))))))))))))))))))
def b49 : AX :=
 (.seq
 (.reg [rg 1 (.xop (.box 3) [(.t 0)]), rg 2 (.mov (.c (.b false)))])
 (.seq
 (.reg [rg 3 (.fad 0 (.t 1)), rg 4 (.load none (.t 3)), rg 5 (.bin .geq (.t 4) (.c (.i .i64 2))), mv 6 5, gd 7 6 true (.fad 0 (.t 1)),
 gd 8 6 true (.load none (.t 7)), gd 9 6 true (.bin .leq (.t 8) (.c (.i .i64 4))), rg 10 (.pick (.t 6) (.t 9) (.c (.b false))), mv 11 10,
 gd 12 11 true (.load (some 3) (.t 1)), gd 13 11 true (.call 79 [(.t 12), (.c (.i .i64 6)), (.c (.i .i64 6)), (.c (.i .i64 0))]),
 rg 14 (.pick (.t 11) (.t 13) (.c (.b false))), mv 2 14])
 (.pre (.norm false [2]) .ret)))
def b15 : AX :=
 (.seq
 (.reg [rg 3 (.xop (.box 3) [(.t 1)]), rg 4 (.mov (.c (.sl [] .nl))), rg 5 (.mov (.c (.b false)))])
 (.seq
 (.seq
 (.reg [rg 7 (.load (some 3) (.t 3)), rg 8 (.call 49 [(.t 7)]), rg 9 (.un .not (.t 8)), mv 10 9, gd 11 10 false (.mov (.t 0)), gd 12 10 false (.len (.t 11)),
 gd 13 10 false (.bin .gtr (.t 12) (.c (.i .i64 300))), rg 14 (.pick (.t 10) (.c (.b true)) (.t 13)), mv 15 14, gd 16 15 false (.mov (.t 0)),
 gd 17 15 false (.call 50 [(.t 16), (.c (.i .i64 6)), (.c (.i .i64 6)), (.c (.i .i64 0))]), gd 18 15 false (.bin .geq (.t 17) (.c (.i .i64 0))),
 rg 19 (.pick (.t 15) (.c (.b true)) (.t 18))])
 (.cond (.t 19)
 (.seq
 (.reg [rg 20 (.bsl 3 [(.i .i64 0), (.i .i64 0), (.sl [] .nl)] 0 []), mv 4 20, rg 5 (.mov (.c (.b false)))])
 (.pre (.norm false [4, 5]) .ret))
 .skip))
 (.seq
 (.reg [mv 21 0, rg 22 (.load (some 3) (.t 3)), rg 23 (.call 51 [(.t 21), (.t 22)]), mv 6 23])
 (.seq
 (.seq
 (.reg [mv 24 6, rg 25 (.len (.t 24)), rg 26 (.bin .eql (.t 25) (.c (.i .i64 0)))])
 (.cond (.t 26)
 (.reg [rg 27 (.build [(.i .i64 0), (.i .i64 0), (.sl [] .nl)] [(0, 1, (.c (.i .i64 1)))]),
 rg 28 (.bsl 3 [(.i .i64 0), (.i .i64 0), (.sl [] .nl)] 1 [(0, (.t 27))]), mv 6 28])
 .skip))
 (.seq
 (.reg [mv 29 6, mv 4 29, rg 5 (.mov (.c (.b true)))])
 (.pre (.norm false [4, 5]) .ret))))))
class CRef23 (T : Tbl) : Prop where
 h83 : T 83 = some ⟨4, 21, [.t 8], b83, none, false⟩
 h82 : T 82 = some ⟨1, 8, [.t 2], b82, none, false⟩
 h51 : T 51 = some ⟨2, 183, [.t 4], b51, none, false⟩
 h49 : T 49 = some ⟨1, 15, [.t 2], b49, none, false⟩
 h15 : T 15 = some ⟨2, 30, [.t 4, .t 5], b15, none, false⟩
section
variable {T : Tbl} [CRef23 T] {d : Option Nat} {st : St} {xs : List AV} {ps : List Opd} {e : Env} {h : Heap} {ol : List Heap}
@[simp] theorem x83 : callX (orc T) T 83 xs d st = cP T 83 false xs d st := callX_pure CRef23.h83
@[simp] theorem y83 : opD (orc T) T (.call 83 ps) e h ol = dP T 83 false ps e := opD_call CRef23.h83
theorem f83 (xs : List AV) (hn : xs.length = 4) : callF T 83 xs = retF [.t 8] false (evX (orc T) T 0 b83 ⟨argEnv xs, [], 1⟩) := callF_eq CRef23.h83 hn
@[simp] theorem x82 : callX (orc T) T 82 xs d st = cP T 82 false xs d st := callX_pure CRef23.h82
@[simp] theorem y82 : opD (orc T) T (.call 82 ps) e h ol = dP T 82 false ps e := opD_call CRef23.h82
theorem f82 (xs : List AV) (hn : xs.length = 1) : callF T 82 xs = retF [.t 2] false (evX (orc T) T 0 b82 ⟨argEnv xs, [], 1⟩) := callF_eq CRef23.h82 hn
@[simp] theorem x51 : callX (orc T) T 51 xs d st = cP T 51 false xs d st := callX_pure CRef23.h51
theorem f51 (xs : List AV) (hn : xs.length = 2) : callF T 51 xs = retF [.t 4] false (evX (orc T) T 0 b51 ⟨argEnv xs, [], 1⟩) := callF_eq CRef23.h51 hn
@[simp] theorem x49 : callX (orc T) T 49 xs d st = cP T 49 false xs d st := callX_pure CRef23.h49
theorem f49 (xs : List AV) (hn : xs.length = 1) : callF T 49 xs = retF [.t 2] false (evX (orc T) T 0 b49 ⟨argEnv xs, [], 1⟩) := callF_eq CRef23.h49 hn
@[simp] theorem x15 : callX (orc T) T 15 xs d st = cP T 15 false xs d st := callX_pure CRef23.h15
theorem f15 (xs : List AV) (hn : xs.length = 2) : callF T 15 xs = retF [.t 4, .t 5] false (evX (orc T) T 0 b15 ⟨argEnv xs, [], 1⟩) := callF_eq CRef23.h15 hn
end
end Go.Ab
end

section
namespace Go.Ab
def l13_0 : AX :=
 (.note
 (.seq
 (.seq
 (.reg [mv 5 4, mv 6 0, rg 7 (.len (.t 6)), rg 8 (.bin .lss (.t 5) (.t 7))])
 (.cond (.t 8)
 .skip
 (.exit 0)))
 (.seq
 (.block 1
 (.drawT [mv 11 3, mv 12 0, mv 13 4, rg 14 (.iad 3 (.t 12) (.t 13)), rg 15 (.fad 0 (.t 14)), rg 16 (.load none (.t 15)), mv 17 0, mv 18 4,
 rg 19 (.iad 3 (.t 17) (.t 18)), rg 20 (.fad 1 (.t 19)), rg 21 (.load none (.t 20)), mv 22 0, mv 23 4, rg 24 (.iad 3 (.t 22) (.t 23)),
 rg 25 (.fad 2 (.t 24)), rg 26 (.load none (.t 25)),
 rg 27 (.build [(.i .i64 0), (.i .i64 0), (.sl [] .nl)] [(0, 1, (.t 16)), (1, 1, (.t 21)), (2, 1, (.t 26))]),
 rg 28 (.bsl 3 [(.i .i64 0), (.i .i64 0), (.sl [] .nl)] 1 [(0, (.t 27))])]
 [rg 29 (.app 3 (.t 11) (.t 28)), mv 3 29]))
 (.reg [mv 9 4, rg 10 (.bin .add (.t 9) (.c (.i .i64 1))), mv 4 10])))
 (.norm false [0, 3, 4]))
def b13 : AX :=
 (.seq
 (.reg [rg 2 (.mov (.c (.sl [] .nl)))])
 (.seq
 (.note (.reg [rg 3 (.mov (.c (.sl [] .nl)))]) (.nil 3 3))
 (.seq
 (.seq
 (.reg [rg 4 (.mov (.c (.i .i64 0)))])
 (.lp 0 (.norm false [0, 3, 4]) l13_0 (.norm false [3])))
 (.seq
 (.reg [mv 30 3, mv 2 30])
 (.pre (.norm false [2]) .ret)))))
def l17_0 : AX :=
 (.note
 (.seq
 (.seq
 (.reg [mv 5 4, mv 6 0, rg 7 (.len (.t 6)), rg 8 (.bin .lss (.t 5) (.t 7))])
 (.cond (.t 8)
 .skip
 (.exit 0)))
 (.seq
 (.block 1
 (.drawT [mv 11 3, mv 12 0, mv 13 4, rg 14 (.iad 3 (.t 12) (.t 13)), rg 15 (.fad 0 (.t 14)), rg 16 (.load none (.t 15)), mv 17 0, mv 18 4,
 rg 19 (.iad 3 (.t 17) (.t 18)), rg 20 (.fad 1 (.t 19)), rg 21 (.load none (.t 20)), mv 22 0, mv 23 4, rg 24 (.iad 3 (.t 22) (.t 23)),
 rg 25 (.fad 2 (.t 24)), rg 26 (.load none (.t 25)),
 rg 27 (.build [(.i .i64 0), (.i .i64 0), (.sl [] .nl)] [(0, 1, (.t 16)), (1, 1, (.t 21)), (2, 1, (.t 26))]),
 rg 28 (.bsl 3 [(.i .i64 0), (.i .i64 0), (.sl [] .nl)] 1 [(0, (.t 27))])]
 [rg 29 (.app 3 (.t 11) (.t 28)), mv 3 29]))
 (.reg [mv 9 4, rg 10 (.bin .add (.t 9) (.c (.i .i64 1))), mv 4 10])))
 (.norm false [0, 3, 4]))
def b17 : AX :=
 (.seq
 (.reg [rg 2 (.mov (.c (.sl [] .nl)))])
 (.seq
 (.note (.reg [rg 3 (.mov (.c (.sl [] .nl)))]) (.nil 3 3))
 (.seq
 (.seq
 (.reg [rg 4 (.mov (.c (.i .i64 0)))])
 (.lp 0 (.norm false [0, 3, 4]) l17_0 (.norm false [3])))
 (.seq
 (.reg [mv 30 3, mv 2 30])
 (.pre (.norm false [2]) .ret)))))
class CLaw17 (T : Tbl) : Prop where
 h13 : T 13 = some ⟨1, 31, [.t 2], b13, none, false⟩
 h17 : T 17 = some ⟨1, 31, [.t 2], b17, none, false⟩
section
variable {T : Tbl} [CLaw17 T] {d : Option Nat} {st : St} {xs : List AV} {ps : List Opd} {e : Env} {h : Heap} {ol : List Heap}
@[simp] theorem x13 : callX (orc T) T 13 xs d st = cP T 13 false xs d st := callX_pure CLaw17.h13
@[simp] theorem y13 : opD (orc T) T (.call 13 ps) e h ol = dP T 13 false ps e := opD_call CLaw17.h13
theorem f13 (xs : List AV) (hn : xs.length = 1) : callF T 13 xs = retF [.t 2] false (evX (orc T) T 0 b13 ⟨argEnv xs, [], 1⟩) := callF_eq CLaw17.h13 hn
@[simp] theorem x17 : callX (orc T) T 17 xs d st = cP T 17 false xs d st := callX_pure CLaw17.h17
@[simp] theorem y17 : opD (orc T) T (.call 17 ps) e h ol = dP T 17 false ps e := opD_call CLaw17.h17
theorem f17 (xs : List AV) (hn : xs.length = 1) : callF T 17 xs = retF [.t 2] false (evX (orc T) T 0 b17 ⟨argEnv xs, [], 1⟩) := callF_eq CLaw17.h17 hn
end
end Go.Ab
end

section
namespace Go.Ab
def b14 : AX :=
 (.seq
 (.reg [rg 1 (.xop (.box 3) [(.t 0)]), rg 2 (.alloc [(.i .i64 0), (.i .i64 0), (.sl [] .nl)])])
 (.seq
 (.reg [rg 3 (.fad 0 (.t 1)), rg 4 (.load none (.t 3)), rg 5 (.fad 1 (.t 1)), rg 6 (.load none (.t 5)), rg 7 (.fad 2 (.t 1)), rg 8 (.load none (.t 7)),
 rg 9 (.build [(.i .i64 0), (.i .i64 0), (.sl [] .nl)] [(0, 1, (.t 4)), (1, 1, (.t 6)), (2, 1, (.t 8))]), so (.store 3 (.t 2) (.t 9))])
 (.pre (.norm false [2]) .ret)))
def l4_0 : AX :=
 (.note
 (.seq
 (.seq
 (.reg [mv 34 10, mv 35 0, rg 36 (.len (.t 35)), rg 37 (.bin .lss (.t 34) (.t 36))])
 (.cond (.t 37)
 .skip
 (.exit 0)))
 (.seq
 (.block 1
 (.drawT [mv 40 9, mv 41 40, gd 42 41 true (.mov (.t 0)), gd 43 41 true (.mov (.t 10)), gd 44 41 true (.iad 3 (.t 42) (.t 43)), gd 45 41 true (.fad 0 (.t 44)),
 gd 46 41 true (.load none (.t 45)), gd 47 41 true (.fad 0 (.t 3)), gd 48 41 true (.load none (.t 47)), gd 49 41 true (.bin .neq (.t 46) (.t 48)),
 gd 50 41 true (.mov (.t 49)), gd 51 50 false (.mov (.t 0)), gd 52 50 false (.mov (.t 10)), gd 53 50 false (.iad 3 (.t 51) (.t 52)),
 gd 54 50 false (.fad 1 (.t 53)), gd 55 50 false (.load none (.t 54)), gd 56 50 false (.fad 1 (.t 3)), gd 57 50 false (.load none (.t 56))]
 [gd 58 50 false (.bin .neq (.t 55) (.t 57)), gd 59 41 true (.pick (.t 50) (.c (.b true)) (.t 58)), rg 60 (.pick (.t 41) (.t 59) (.c (.b false))), mv 9 60]))
 (.reg [mv 38 10, rg 39 (.bin .add (.t 38) (.c (.i .i64 1))), mv 10 39])))
 (.norm false [0, 3, 5, 6, 7, 8, 9, 10]))
def b4 : AX :=
 (.seq
 (.reg [rg 3 (.xop (.box 3) [(.t 1)]), rg 4 (.mov (.c (.b false)))])
 (.seq
 (.seq
 (.reg [mv 11 0, rg 12 (.call 10 [(.t 11), (.c (.i .i64 40)), (.c (.i .i64 9))]), mv 13 12, gd 14 13 false (.fad 2 (.t 3)), gd 15 13 false (.load none (.t 14)),
 gd 16 13 false (.len (.t 15)), gd 17 13 false (.bin .gtr (.t 16) (.c (.i .i64 9))), rg 18 (.pick (.t 13) (.c (.b true)) (.t 17))])
 (.cond (.t 18)
 (.seq
 (.reg [rg 19 (.call 11 []), mv 4 19])
 (.pre (.norm false [4]) .ret))
 .skip))
 (.seq
 (.drawT [mv 21 0, rg 22 (.call 13 [(.t 21)]), rg 23 (.load (some 3) (.t 3)), rg 24 (.call 14 [(.t 23)]), rg 25 (.call 12 [(.t 22), (.t 24)]), mv 20 25,
 rg 26 (.ext (.t 20) 0), rg 27 (.ext (.t 20) 1), mv 5 26]
 [mv 6 27])
 (.seq
 (.reg [mv 29 0, rg 30 (.load (some 3) (.t 3)), rg 31 (.call 15 [(.t 29), (.t 30)]), mv 28 31, rg 32 (.ext (.t 28) 0), rg 33 (.ext (.t 28) 1), mv 7 32, mv 8 33])
 (.seq
 (.reg [rg 9 (.mov (.c (.b true)))])
 (.seq
 (.seq
 (.reg [rg 10 (.mov (.c (.i .i64 0)))])
 (.lp 0 (.norm false [0, 3, 5, 6, 7, 8, 9, 10]) l4_0 (.norm false [0, 3, 5, 6, 7, 8, 9])))
 (.seq
 (.drawT [mv 61 5, rg 62 (.call 17 [(.t 61)]), mv 63 7, rg 64 (.call 16 [(.t 62), (.t 63)]), mv 65 64, gd 66 65 true (.mov (.t 6)), gd 67 65 true (.mov (.t 8)),
 gd 68 65 true (.eqb false (.t 66) (.t 67)), rg 69 (.pick (.t 65) (.t 68) (.c (.b false))), mv 70 69, gd 71 70 true (.mov (.t 0)),
 gd 72 70 true (.call 13 [(.t 71)]), gd 73 70 true (.load (some 3) (.t 3)), gd 74 70 true (.call 14 [(.t 73)]),
 gd 75 70 true (.call 18 [(.t 72), (.t 74)]), gd 76 70 true (.mov (.t 9))]
 [gd 77 70 true (.eqb false (.t 75) (.t 76)), rg 78 (.pick (.t 70) (.t 77) (.c (.b false))), mv 79 78, gd 80 79 true (.call 11 []),
 rg 81 (.pick (.t 79) (.t 80) (.c (.b false))), mv 4 81])
 (.pre (.norm false [4]) .ret))))))))
def b11 : AX :=
 (.seq
 (.reg [rg 0 (.mov (.c (.b false)))])
 (.seq
 (.reg [rg 6 (.build [(.i .i64 0), (.i .i64 0), (.sl [] .nl)] [(0, 1, (.c (.i .i64 2)))]), rg 1 (.alloc [(.i .i64 0), (.i .i64 0), (.sl [] .nl)]),
 so (.store 3 (.t 1) (.t 6))])
 (.seq
 (.reg [rg 8 (.load (some 3) (.t 1)), rg 9 (.build [(.i .i64 0), (.i .i64 0), (.sl [] .nl)] [(0, 1, (.c (.i .i64 11))), (1, 1, (.c (.i .i64 2)))]),
 rg 10 (.bsl 3 [(.i .i64 0), (.i .i64 0), (.sl [] .nl)] 2 [(0, (.t 8)), (1, (.t 9))]), rg 11 (.load (some 3) (.t 1)), rg 12 (.call 12 [(.t 10), (.t 11)]),
 mv 7 12, rg 13 (.ext (.t 7) 0), rg 14 (.ext (.t 7) 1), mv 2 13, mv 3 14])
 (.seq
 (.reg [rg 16 (.build [(.i .i64 0), (.i .i64 0), (.sl [] .nl)] [(0, 1, (.c (.i .i64 3)))]),
 rg 17 (.bsl 3 [(.i .i64 0), (.i .i64 0), (.sl [] .nl)] 1 [(0, (.t 16))]), rg 18 (.load (some 3) (.t 1)), rg 19 (.call 12 [(.t 17), (.t 18)]), mv 15 19,
 rg 20 (.ext (.t 15) 0), rg 21 (.ext (.t 15) 1), mv 4 20, mv 5 21])
 (.seq
 (.reg [mv 22 3, mv 23 22, gd 24 23 true (.mov (.t 5)), rg 25 (.pick (.t 23) (.t 24) (.c (.b false))), mv 26 25, gd 27 26 true (.mov (.t 2)),
 gd 28 26 true (.len (.t 27)), gd 29 26 true (.bin .eql (.t 28) (.c (.i .i64 6))), rg 30 (.pick (.t 26) (.t 29) (.c (.b false))), mv 31 30,
 gd 32 31 true (.mov (.t 4)), gd 33 31 true (.len (.t 32)), gd 34 31 true (.bin .eql (.t 33) (.c (.i .i64 1))),
 rg 35 (.pick (.t 31) (.t 34) (.c (.b false))), mv 36 35, gd 37 36 true (.mov (.t 4)), gd 38 36 true (.iad 3 (.t 37) (.c (.i .i64 0))),
 gd 39 36 true (.fad 0 (.t 38)), gd 40 36 true (.load none (.t 39)), gd 41 36 true (.bin .eql (.t 40) (.c (.i .i64 1))),
 rg 42 (.pick (.t 36) (.t 41) (.c (.b false))), mv 43 42, gd 44 43 true (.mov (.t 2)), gd 45 43 true (.call 44 [(.t 44)]),
 rg 46 (.pick (.t 43) (.t 45) (.c (.b false))), mv 0 46])
 (.pre (.norm false [0]) .ret))))))
class CLaw23 (T : Tbl) : Prop where
 h14 : T 14 = some ⟨1, 10, [.cell 2 (some 3)], b14, none, false⟩
 h4 : T 4 = some ⟨2, 82, [.t 4], b4, none, false⟩
 h11 : T 11 = some ⟨0, 47, [.t 0], b11, none, false⟩
section
variable {T : Tbl} [CLaw23 T] {d : Option Nat} {st : St} {xs : List AV} {ps : List Opd} {e : Env} {h : Heap} {ol : List Heap}
@[simp] theorem x14 : callX (orc T) T 14 xs d st = cP T 14 false xs d st := callX_pure CLaw23.h14
@[simp] theorem y14 : opD (orc T) T (.call 14 ps) e h ol = dP T 14 false ps e := opD_call CLaw23.h14
theorem f14 (xs : List AV) (hn : xs.length = 1) : callF T 14 xs = retF [.cell 2 (some 3)] false (evX (orc T) T 0 b14 ⟨argEnv xs, [], 1⟩) := callF_eq CLaw23.h14 hn
@[simp] theorem x4 : callX (orc T) T 4 xs d st = cP T 4 false xs d st := callX_pure CLaw23.h4
theorem f4 (xs : List AV) (hn : xs.length = 2) : callF T 4 xs = retF [.t 4] false (evX (orc T) T 0 b4 ⟨argEnv xs, [], 1⟩) := callF_eq CLaw23.h4 hn
@[simp] theorem x11 : callX (orc T) T 11 xs d st = cP T 11 false xs d st := callX_pure CLaw23.h11
theorem f11 (xs : List AV) (hn : xs.length = 0) : callF T 11 xs = retF [.t 0] false (evX (orc T) T 0 b11 ⟨argEnv xs, [], 1⟩) := callF_eq CLaw23.h11 hn
end
end Go.Ab
end

section
namespace Go.Ab
open Go.RowKit
def opU : AOp → List Nat
 | .call u _ => [u]
 | .ifc k _ => [1000000 + k]
 | .inv _ k u _ _ => [1000000 + k, u]
 | _ => []
def cXs : AX → List Nat
 | .reg l => l.flatMap fun o => opU o.op
 | .draw l => l.flatMap fun o => opU o.ao.op
 | .drawT hd tl => (hd.flatMap fun o => opU o.op) ++ tl.flatMap fun o => opU o.op
 | .drawM hd tl => (hd.flatMap fun o => opU o.op) ++ tl.flatMap fun o => opU o.op
 | .seq a b => cXs a ++ cXs b
 | .cond _ x y => cXs x ++ cXs y
 | .block _ c | .loop c | .note c _ | .pre _ c | .scope c | .lp _ _ c _ => cXs c
 | _ => []
structure Agr (R : Nat → Bool) (T T' : Tbl) (O O' : Orc) : Prop where
 tbl : ∀ u, R u = true → T u = T' u
 call : ∀ u xs hb, R u = true → O.call u xs hb = O'.call u xs hb
 loop : ∀ k c st, (∀ u ∈ cXs c, R u = true) → O.loop k c st = O'.loop k c st
section
variable {R : Nat → Bool} {T T' : Tbl} {O O' : Orc}
theorem callX_agr (h : Agr R T T' O O') {u : Nat} (hu : R u = true) {xs : List AV} {d : Option Nat} {st : St} : callX O T u xs d st = callX O' T' u xs d st := by
 unfold callX
 rw [h.tbl u hu]
 simp only [h.call u _ _ hu]
theorem opX_agr (h : Agr R T T' O O') {op : AOp} (hu : ∀ u ∈ opU op, R u = true) {d : Option Nat} {st : St} : opX O T op d st = opX O' T' op d st := by
 cases op <;> simp only [opX]
 case call u args => exact callX_agr h (hu _ (by simp [opU]))
 case ifc k x => unfold tyNum; rw [h.tbl _ (hu _ (by simp [opU]))]
 case inv nm k u r args =>
  have e1 : tyNum T k = tyNum T' k := by unfold tyNum; rw [h.tbl _ (hu _ (by simp [opU]))]
  have e2 : methsT T k = methsT T' k := by unfold methsT; rw [h.tbl _ (hu _ (by simp [opU]))]
  rw [e1, e2]
  simp only [callX_agr h (hu u (by simp [opU]))]
theorem stepX_agr (h : Agr R T T' O O') {o : AO} (hu : ∀ u ∈ opU o.op, R u = true) {st : St} : stepX O T o st = stepX O' T' o st := by
 unfold stepX gX
 simp only [opX_agr h hu]
theorem runX_agr (h : Agr R T T' O O') : ∀ (l : List AO), (∀ o ∈ l, ∀ u ∈ opU o.op, R u = true) → ∀ st, runX O T l st = runX O' T' l st
 | [], _, st => rfl
 | o :: l, hu, st => by
  simp only [runX]
  rw [stepX_agr h (hu o List.mem_cons_self)]
  congr 1
  funext s
  exact runX_agr h l (fun o ho => hu o (List.mem_cons_of_mem _ ho)) s
theorem opD_agr (h : Agr R T T' O O') {op : AOp} (hu : ∀ u ∈ opU op, R u = true) {e : Env} {hp : Heap} {older : List Heap} : opD O T op e hp older = opD O' T' op e hp older := by
 by_cases hap : ∃ z x0 y, op = .app z x0 y
 ·obtain ⟨z, x0, y, rfl⟩ := hap
  by_cases hc : x0 = .c (.sl [] .nl)
  ·subst hc; rfl
  ·rw [opD_app hc, opD_app hc]
 cases op <;> (try exact absurd ⟨_, _, _, rfl⟩ hap) <;> simp only [opD]
 case call u args =>
  rw [h.tbl _ (hu _ (by simp [opU]))]
  simp only [h.call _ _ _ (hu _ (show u ∈ _ by simp [opU]))]
 case ifc k x => unfold tyNum; rw [h.tbl _ (hu _ (by simp [opU]))]
 case inv nm k u r args =>
  have e1 : tyNum T k = tyNum T' k := by unfold tyNum; rw [h.tbl _ (hu _ (by simp [opU]))]
  have e2 : methsT T k = methsT T' k := by unfold methsT; rw [h.tbl _ (hu _ (by simp [opU]))]
  rw [e1, e2, h.tbl u (hu u (by simp [opU]))]
  simp only [h.call u _ _ (hu u (by simp [opU]))]
theorem qX_agr (h : Agr R T T' O O') {o : AO} (hu : ∀ u ∈ opU o.op, R u = true) {e : Env} {hp : Heap} {older : List Heap} : qX O T o e hp older = qX O' T' o e hp older := by
 unfold qX
 simp only [opD_agr h hu]
theorem drawX_agr (h : Agr R T T' O O') : ∀ (l : List DO), (∀ o ∈ l, ∀ u ∈ opU o.ao.op, R u = true) → ∀ e hp clk older pend, drawX O T l e hp clk older pend = drawX O' T' l e hp clk older pend
 | [], _, e, hp, clk, older, pend => rfl
 | o :: l, hu, e, hp, clk, older, pend => by
  have ih := drawX_agr h l (fun o ho => hu o (List.mem_cons_of_mem _ ho))
  simp only [drawX]
  rw [qX_agr h (hu o List.mem_cons_self)]
  simp only [ih]
theorem headX_agr (h : Agr R T T' O O') (tl : List AO) (ht : ∀ o ∈ tl, ∀ u ∈ opU o.op, R u = true) : ∀ (l : List AO), (∀ o ∈ l, ∀ u ∈ opU o.op, R u = true) → ∀ e hp clk, headX O T tl l e hp clk = headX O' T' tl l e hp clk
 | [], _, e, hp, clk => runX_agr h tl ht _
 | o :: l, hu, e, hp, clk => by
  have ih := headX_agr h tl ht l (fun o ho => hu o (List.mem_cons_of_mem _ ho))
  simp only [headX]
  rw [qX_agr h (hu o List.mem_cons_self)]
  simp only [ih]
theorem callM_agr (h : Agr R T T' O O') {u : Nat} (hu : R u = true) {xs : List AV} {d clk : Nat} : callM O T u xs d clk = callM O' T' u xs d clk := by
 unfold callM
 rw [h.tbl u hu]
 simp only [h.call u _ _ hu]
theorem headM_agr (h : Agr R T T' O O') (tl : List AO) (ht : ∀ o ∈ tl, ∀ u ∈ opU o.op, R u = true) (h0 : Heap) (c0 : Nat) : ∀ (l : List AO), (∀ o ∈ l, ∀ u ∈ opU o.op, R u = true) → ∀ e hp clk, headM O T tl h0 c0 l e hp clk = headM O' T' tl h0 c0 l e hp clk
 | [], _, e, hp, clk => runX_agr h tl ht _
 | o :: l, hu, e, hp, clk => by
  have ih := headM_agr h tl ht h0 c0 l (fun o ho => hu o (List.mem_cons_of_mem _ ho))
  simp only [headM]
  rw [qX_agr h (hu o List.mem_cons_self)]
  simp only [ih]
  cases hm : o.op.maker with
  | true => rfl
  | false =>
   cases hst : o.op.isStore with
   | true => rfl
   | false =>
   cases hl : o.op.lentN with
   | none => rfl
   | some ua =>
    have hua : R ua.1 = true := hu o List.mem_cons_self _ (by rw [lentN_spec hl]; simp [opU])
    simp only [callM_agr h hua]
theorem evX_agr (h : Agr R T T' O O') (k : Nat) : ∀ (c : AX), (∀ u ∈ cXs c, R u = true) → ∀ st, evX O T k c st = evX O' T' k c st
 | .skip, _, st => rfl
 | .reg l, hu, st => by
  simp only [evX]
  rw [runX_agr h l fun o ho u hou => hu u (List.mem_flatMap.2 ⟨o, ho, hou⟩)]
 | .draw l, hu, st => by
  simp only [evX]
  rw [drawX_agr h l fun o ho u hou => hu u (List.mem_flatMap.2 ⟨o, ho, hou⟩)]
 | .drawT hd tl, hu, st => by
  simp only [evX]
  rw [headX_agr h tl (fun o ho u hou => hu u (List.mem_append_right _ (List.mem_flatMap.2 ⟨o, ho, hou⟩))) hd (fun o ho u hou => hu u (List.mem_append_left _ (List.mem_flatMap.2 ⟨o, ho, hou⟩)))]
 | .drawM hd tl, hu, st => by
  simp only [evX]
  rw [headM_agr h tl (fun o ho u hou => hu u (List.mem_append_right _ (List.mem_flatMap.2 ⟨o, ho, hou⟩))) _ _ hd (fun o ho u hou => hu u (List.mem_append_left _ (List.mem_flatMap.2 ⟨o, ho, hou⟩)))]
 | .bad, _, st => rfl
 | .prim f, _, st => rfl
 | .seq a b, hu, st => by
  simp only [evX]
  rw [evX_agr h k a fun u hm => hu u (List.mem_append_left _ hm)]
  congr 1
  funext r
  rw [evX_agr h k b fun u hm => hu u (List.mem_append_right _ hm)]
 | .cond c x y, hu, st => by
  simp only [evX]
  rw [evX_agr h k x fun u hm => hu u (List.mem_append_left _ hm), evX_agr h k y fun u hm => hu u (List.mem_append_right _ hm)]
 | .block id c, hu, st => by
  simp only [evX]
  rw [evX_agr h k c hu]
 | .loop c, hu, st => h.loop k c st hu
 | .exit id, _, st => rfl
 | .ret, _, st => rfl
 | .note c g, hu, st => by
  simp only [evX]
  rw [evX_agr h k c hu]
 | .pre g c, hu, st => by
  simp only [evX]
  congr 1
  funext s
  exact evX_agr h k c hu s
 | .scope c, hu, st => by
  simp only [evX]
  exact evX_agr h k c hu st
 | .lp id g c g2, hu, st => by
  simp only [evX, h.loop k c _ hu]
theorem nextO_agr (hc : ∀ u af, R u = true → T u = some af → ∀ v ∈ cXs af.body, R v = true) (h : Agr R T T' O O') : Agr R T T' (nextO T O) (nextO T' O') where
 tbl := h.tbl
 call u xs hb hu := by
  simp only [nextO]
  rw [← h.tbl u hu]
  cases ht : T u with
  | none => rfl
  | some af =>
   simp only
   rw [evX_agr h hb.length af.body (hc u af hu ht)]
 loop k c st hu := by
  simp only [nextO]
  rw [evX_agr h k c hu]
  congr 1
  funext r
  rw [h.loop k c _ hu]
theorem orcN_agr (ht : ∀ u, R u = true → T u = T' u) (hc : ∀ u af, R u = true → T u = some af → ∀ v ∈ cXs af.body, R v = true) : ∀ n, Agr R T T' (orcN T n) (orcN T' n)
 | 0 => ⟨ht, fun _ _ _ _ => rfl, fun _ _ _ _ => rfl⟩
 | n + 1 => nextO_agr hc (orcN_agr ht hc n)
theorem orc_agr (ht : ∀ u, R u = true → T u = T' u) (hc : ∀ u af, R u = true → T u = some af → ∀ v ∈ cXs af.body, R v = true) : Agr R T T' (orc T) (orc T') := by
 refine ⟨ht, fun u xs hb hu => ?_, fun k c st hu => ?_⟩
 ·simp only [orc]
  congr 1
  funext n
  exact (orcN_agr ht hc n).call u xs hb hu
 ·simp only [orc]
  congr 1
  funext n
  exact (orcN_agr ht hc n).loop k c st hu
end
theorem mem_of_lookup {l : List (Nat × AFx)} {u : Nat} {af : AFx} (h : l.lookup u = some af) : (u, af) ∈ l := by
 induction l with
 | nil => cases h
 | cons q l ih =>
  obtain ⟨q1, q2⟩ := q
  simp only [List.lookup_cons] at h
  split at h
  ·rename_i he
   have := eq_of_beq he
   subst this
   cases h
   exact List.mem_cons_self
  ·exact List.mem_cons_of_mem _ (ih h)
structure Part (l l' : List (Nat × AFx)) : Prop where
 sub : ∀ p ∈ l', l.lookup p.1 = some p.2
 clo : (l'.all fun p => (cXs p.2.body).all fun v => (l'.lookup v).isSome || (l.lookup v).isNone) = true
theorem Part.agr {l l' : List (Nat × AFx)} (h : Part l l') : Agr (fun u => (l'.lookup u).isSome || (l.lookup u).isNone) (fun u => l.lookup u) (fun u => l'.lookup u) (orc fun u => l.lookup u) (orc fun u => l'.lookup u) := by
 refine orc_agr (fun v hv => ?_) (fun v a hv hva w hw => ?_)
 ·cases hv2 : l'.lookup v with
  | none =>
   simp only [hv2] at hv
   cases hv3 : l.lookup v with
   | none => rfl
   | some a => rw [hv3] at hv; cases hv
  | some a => exact h.sub _ (mem_of_lookup hv2)
 ·cases hv2 : l'.lookup v with
  | none => simp only [hv2, hva] at hv; cases hv
  | some b =>
   have hb := mem_of_lookup hv2
   have h1 := h.sub _ hb
   simp only at hva h1
   rw [hva] at h1
   cases h1
   exact List.all_eq_true.1 (List.all_eq_true.1 h.clo _ hb) w hw
theorem Part.ev {l l' : List (Nat × AFx)} (h : Part l l') {c : AX} (hc : ((cXs c).all fun v => (l'.lookup v).isSome) = true) {st : St} {r : Option (Ex × St)}
  (he : evX (orc fun u => l.lookup u) (fun u => l.lookup u) 0 c st = r) : evX (orc fun u => l'.lookup u) (fun u => l'.lookup u) 0 c st = r := by
 rw [← evX_agr h.agr 0 c (fun v hv => by rw [List.all_eq_true.1 hc v hv]; rfl) st]
 exact he
theorem Part.call {l l' : List (Nat × AFx)} (h : Part l l') {u : Nat} (hu : (l'.lookup u).isSome = true) {xs : List AV} {r : Option AV} (he : callF (fun u => l.lookup u) u xs = r) : callF (fun u => l'.lookup u) u xs = r := by
 rw [← he]
 unfold callF
 rw [h.agr.call u xs [] (by rw [hu]; rfl)]
end Go.Ab
end
