/-
  A calculus of values, boxes and code, and what functions of the program compute, proved in it.
  Conditions: none beyond those that the theorems state. (Part 5.)
-/
import Derived.Test.YtebcadckeepbdaaGreatDoorPart4

set_option linter.unusedSectionVars false
set_option linter.unusedVariables false
set_option linter.unusedSimpArgs false
set_option linter.unnecessarySimpa false

namespace Go.Ab
def isD (c : UInt8) : Bool := decide (48 ≤ c.toNat) && decide (c.toNat ≤ 57)
def isL (c : UInt8) : Bool := decide (97 ≤ c.toNat) && decide (c.toNat ≤ 122) || decide (65 ≤ c.toNat) && decide (c.toNat ≤ 90) || decide (c.toNat = 95)
def signB : List UInt8 := [43, 45, 42, 47, 94, 40, 41, 91, 93, 44, 59, 61]
def isS (c : UInt8) : Bool := signB.contains c
def kindN (c : UInt8) : Nat := if isD c then 1 else if isL c then 2 else if isS c then 3 else 0
def moreN (k : Nat) (c : UInt8) : Bool := decide (k = 1) && isD c || decide (k = 2) && (isL c || isD c)
def mostN (k : Nat) : Nat := if k = 1 then 60 else if k = 2 then 12 else 1
def isB (c : UInt8) : Bool := decide (c = 32) || decide (c = 9) || decide (c = 10) || decide (c = 13)
abbrev Wd := Nat × List UInt8 × Nat
def skipC : Bool → List UInt8 → Nat
 | _, [] => 0
 | note, c :: r =>
  let note' := if c = 35 then true else if c = 10 then false else note
  if (note' || isB c) = true then 1 + skipC note' r else 0
def firstN (k : Nat) (r : List UInt8) : Nat := 1 + (r.takeWhile (moreN k)).length
def scanL (l : List UInt8) (i : Nat) (acc : List Wd) : Except Nat (List Wd) :=
 match l with
 | [] => .ok acc
 | c :: r =>
  if kindN c = 0 then .error i
  else if mostN (kindN c) < firstN (kindN c) r then .error (i + mostN (kindN c))
  else scanL ((r.drop (firstN (kindN c) r - 1)).drop (skipC false (r.drop (firstN (kindN c) r - 1)))) (i + firstN (kindN c) r + skipC false (r.drop (firstN (kindN c) r - 1)))
   (acc ++ [(kindN c, (c :: r).take (firstN (kindN c) r), i)])
termination_by l.length
decreasing_by simp; omega
def stepWd (c : UInt8) (i : Nat) (acc : List Wd) : List Wd :=
 match acc.getLast? with
 | some (k, t, a) => if a + t.length = i ∧ moreN k c = true then acc.dropLast ++ [(k, t ++ [c], a)] else acc ++ [(kindN c, [c], i)]
 | none => acc ++ [(kindN c, [c], i)]
def badWd (acc : List Wd) : Bool :=
 match acc.getLast? with
 | some (k, t, _) => decide (k = 0) || decide (mostN k < t.length)
 | none => false
def refL : List UInt8 → Nat → Bool → List Wd → Except Nat (List Wd)
 | [], _, _, acc => .ok acc
 | c :: r, i, note, acc =>
  let note' := if c = 35 then true else if c = 10 then false else note
  if (note' || isB c) = true then refL r (i + 1) note' acc
  else if badWd (stepWd c i acc) = true then .error i
  else refL r (i + 1) note' (stepWd c i acc)
def Fresh (acc : List Wd) (i : Nat) (l : List UInt8) : Prop := ∀ k t a, acc.getLast? = some (k, t, a) → a + t.length = i → ∀ c r, l = c :: r → moreN k c = false
def prim187 : List AV → Option AV
 | [.i .u8 n] => if 0 ≤ n ∧ n < 256 then some (.b (isS (UInt8.ofNat n.toNat))) else none
 | _ => none
def prim184 : List AV → Option AV
 | [.s l, .s [10]] => if l.length ≤ 1000000 then some (.tup [.s (l.takeWhile (· != 10)), .s ((l.dropWhile (· != 10)).drop 1), .b (l.contains 10)]) else none
 | _ => none
def textOf : List AV → Option (List UInt8)
 | [.s l] => if l.length ≤ 10000 then some l else none
 | _ => none
def prim183 : List AV → Option AV
 | [.sl els .an, .s sep] => if els.length ≤ 1000 ∧ sep.length ≤ 100 then (els.mapM textOf).map fun ts => .s (List.intercalate sep ts) else none
 | _ => none
def rowsT (l : List (List UInt8)) : List (List AV) := l.map fun s => [.s s]
@[simp] theorem rowsT_length (l : List (List UInt8)) : (rowsT l).length = l.length := by simp [rowsT]
@[simp] theorem rowsT_wk (l : List (List UInt8)) : wkL (rowsT l) = rowsT l := by
 induction l with
 | nil => rfl
 | cons x l ih => simpa [rowsT, wkL, wkR] using ih
theorem rowsT_take (l : List (List UInt8)) (s : List UInt8) : wkL (List.take l.length (rowsT l) ++ [[AV.s s]]) = rowsT (l ++ [s]) := by
 rw [List.take_of_length_le (by simp), show rowsT l ++ [[AV.s s]] = rowsT (l ++ [s]) by simp [rowsT], rowsT_wk]
theorem rowsT_texts (l : List (List UInt8)) (h : ∀ s ∈ l, s.length ≤ 10000) : (rowsT l).mapM textOf = some l := by
 induction l with
 | nil => rfl
 | cons x l ih =>
  have e : textOf [.s x] = some x := by simp [textOf, h x List.mem_cons_self]
  rw [show rowsT (x :: l) = [.s x] :: rowsT l from rfl, List.mapM_cons, e, ih fun s hs => h s (List.mem_cons_of_mem _ hs)]
  rfl
theorem texts_rows : ∀ {els : List (List AV)} {ts : List (List UInt8)}, els.mapM textOf = some ts → els = rowsT ts ∧ ∀ t ∈ ts, t.length ≤ 10000
 | [], ts, h => by cases h; exact ⟨rfl, by simp⟩
 | r :: els, ts, h => by
  rw [List.mapM_cons] at h
  obtain ⟨x, hx, h1⟩ := bind_some h
  obtain ⟨y, hy, h2⟩ := bind_some h1
  cases h2
  obtain ⟨e1, e2⟩ := texts_rows hy
  unfold textOf at hx
  split at hx
  ·split at hx
   ·cases hx
    rename_i hl
    subst e1
    exact ⟨rfl, fun t ht => (List.mem_cons.1 ht).elim (fun h => h ▸ hl) (e2 t)⟩
   ·cases hx
  ·cases hx
theorem prim183_eq (l : List (List UInt8)) (sep : List UInt8) (h : ∀ s ∈ l, s.length ≤ 10000) (hl : l.length ≤ 1000) (hs : sep.length ≤ 100) : prim183 [.sl (rowsT l) .an, .s sep] = some (.s (List.intercalate sep l)) := by
 simp only [prim183, rowsT_length, hl, hs, and_self, if_true, rowsT_texts l h, Option.map_some]
class CJoin (T : Tbl) : Prop where
 h183 : T 183 = some ⟨0, 0, [], .prim prim183, none, false⟩
section
variable {T : Tbl} [CJoin T] {d : Option Nat} {st : St} {xs : List AV} {ps : List Opd} {e : Env} {h : Heap} {ol : List Heap}
@[simp] theorem x183 : callX (orc T) T 183 xs d st = cP T 183 false xs d st := callX_pure CJoin.h183
theorem p183 (xs : List AV) : callF T 183 xs = prim183 xs := callF_prim CJoin.h183
end
def b251 : AX :=
 (.seq
 (.reg [rg 1 (.xop (.box 3) [(.t 0)]), rg 2 (.mov (.c (.s [])))])
 (.seq
 (.reg [rg 4 (.load (some 3) (.t 1)), rg 5 (.call 207 [(.t 4)]), so (.store 3 (.t 1) (.t 5))])
 (.seq
 (.reg [rg 6 (.fad 0 (.t 1)), rg 7 (.load (some 2) (.t 6)), rg 8 (.call 34 [(.t 7)]), mv 3 8])
 (.seq
 (.seq
 (.drawT [rg 9 (.fad 2 (.t 1)), rg 10 (.load none (.t 9)), rg 11 (.call 72 [(.c (u64 1))])]
 [rg 12 (.call 87 [(.t 10), (.t 11)]), rg 13 (.bin .neq (.t 12) (.c (.i .i64 0)))])
 (.cond (.t 13)
 (.reg [mv 14 3, rg 15 (.fad 2 (.t 1)), rg 16 (.load none (.t 15)), rg 17 (.call 68 [(.t 16)]), rg 18 (.bin .add (.c (.s [47])) (.t 17)),
 rg 19 (.bin .add (.t 14) (.t 18)), mv 3 19])
 .skip))
 (.seq
 (.reg [mv 20 3, mv 2 20])
 (.pre (.norm false [2]) .ret))))))
def l263_0 : AX :=
 (.note
 (.seq
 (.reg [rg 12 (.bin .lss (.t 11) (.t 10))])
 (.seq
 (.cond (.t 12)
 .skip
 (.exit 0))
 (.seq
 (.block 1
 (.seq
 (.reg [mv 13 11, mv 4 13])
 (.reg [mv 14 3, mv 15 4, rg 16 (.call 205 [(.c (.i .i64 0))]), rg 17 (.iad 3 (.t 14) (.t 15)), so (.store 3 (.t 17) (.t 16))])))
 (.reg [rg 18 (.bin .add (.t 11) (.c (.i .i64 1))), mv 11 18]))))
 (.norm false [3, 10, 11]))
def b263 : AX :=
 (.seq
 (.reg [rg 2 (.mov (.c (.sl [] .nl)))])
 (.seq
 (.reg [mv 5 0, rg 6 (.mm true [(.t 5), (.c (.i .i64 0))]), rg 7 (.mm false [(.t 6), (.c (.i .i64 300))]), mv 0 7])
 (.seq
 (.reg [mv 8 0, rg 9 (.mks 3 [(.b false), (.sl [] .nl), (.sl [] .nl)] (.t 8) (.t 8)), mv 3 9])
 (.seq
 (.seq
 (.reg [mv 10 0, rg 11 (.mov (.c (.i .i64 0)))])
 (.lp 0 (.norm false [3, 10, 11]) l263_0 (.norm false [3])))
 (.seq
 (.reg [mv 19 3, mv 2 19])
 (.pre (.norm false [2]) .ret))))))
def l265_0 : AX :=
 (.note
 (.seq
 (.reg [rg 14 (.bin .lss (.t 13) (.t 12))])
 (.seq
 (.cond (.t 14)
 .skip
 (.exit 0))
 (.seq
 (.block 1
 (.seq
 (.reg [mv 15 13, mv 5 15])
 (.seq
 (.drawT [mv 16 0, mv 17 5, rg 18 (.iad 3 (.t 16) (.t 17)), rg 19 (.load (some 3) (.t 18)), mv 20 1, mv 21 5, rg 22 (.iad 3 (.t 20) (.t 21)),
 rg 23 (.load (some 3) (.t 22))]
 [rg 24 (.call 212 [(.t 19), (.t 23)]), rg 25 (.un .not (.t 24))])
 (.cond (.t 25)
 (.seq
 (.reg [rg 4 (.mov (.c (.b false)))])
 (.pre (.norm false [4]) .ret))
 .skip))))
 (.reg [rg 26 (.bin .add (.t 13) (.c (.i .i64 1))), mv 13 26]))))
 (.norm false [0, 1, 12, 13]))
def b265 : AX :=
 (.seq
 (.reg [rg 4 (.mov (.c (.b false)))])
 (.seq
 (.seq
 (.reg [mv 6 0, rg 7 (.len (.t 6)), mv 8 1, rg 9 (.len (.t 8)), rg 10 (.bin .neq (.t 7) (.t 9))])
 (.cond (.t 10)
 (.seq
 (.reg [rg 4 (.mov (.c (.b false)))])
 (.pre (.norm false [4]) .ret))
 .skip))
 (.seq
 (.seq
 (.reg [mv 11 0, rg 12 (.len (.t 11)), rg 13 (.mov (.c (.i .i64 0)))])
 (.lp 0 (.norm false [0, 1, 12, 13]) l265_0 (.norm false [])))
 (.seq
 (.reg [rg 4 (.mov (.c (.b true)))])
 (.pre (.norm false [4]) .ret)))))
def l266_0 : AX :=
 (.note
 (.seq
 (.reg [rg 9 (.bin .lss (.t 8) (.t 7))])
 (.seq
 (.cond (.t 9)
 .skip
 (.exit 0))
 (.seq
 (.block 1
 (.seq
 (.reg [rg 10 (.iad 3 (.t 6) (.t 8)), rg 11 (.load (some 3) (.t 10)), rg 5 (.alloc [(.b false), (.sl [] .nl), (.sl [] .nl)]), so (.store 3 (.t 5) (.t 11))])
 (.reg [mv 12 3, rg 13 (.load (some 3) (.t 5)), rg 14 (.call 207 [(.t 13)]), rg 15 (.bsl 3 [(.b false), (.sl [] .nl), (.sl [] .nl)] 1 [(0, (.t 14))]),
 rg 16 (.app 3 (.t 12) (.t 15)), mv 3 16])))
 (.reg [rg 17 (.bin .add (.t 8) (.c (.i .i64 1))), mv 8 17]))))
 (.norm false [3, 6, 7, 8]))
def b266 : AX :=
 (.seq
 (.reg [rg 2 (.mov (.c (.sl [] .nl)))])
 (.seq
 (.note (.reg [rg 3 (.mov (.c (.sl [] .nl)))]) (.nil 3 3))
 (.seq
 (.seq
 (.reg [mv 6 0, rg 7 (.len (.t 6)), rg 8 (.mov (.c (.i .i64 0)))])
 (.lp 0 (.norm false [3, 6, 7, 8]) l266_0 (.norm false [3])))
 (.seq
 (.reg [mv 18 3, mv 2 18])
 (.pre (.norm false [2]) .ret)))))
def l267_0 : AX :=
 (.note
 (.seq
 (.reg [rg 31 (.bin .lss (.t 30) (.t 29))])
 (.seq
 (.cond (.t 31)
 .skip
 (.exit 2))
 (.seq
 (.block 3
 (.seq
 (.reg [mv 32 30, rg 33 (.iad 3 (.t 28) (.t 30)), rg 34 (.load (some 3) (.t 33)), rg 8 (.alloc [(.b false), (.sl [] .nl), (.sl [] .nl)]), mv 7 32,
 so (.store 3 (.t 8) (.t 34))])
 (.drawT [mv 35 4, mv 36 7, mv 37 4, mv 38 7, rg 39 (.iad 3 (.t 37) (.t 38)), rg 40 (.load (some 3) (.t 39)), rg 41 (.load (some 3) (.t 8)),
 rg 42 (.call 215 [(.t 40), (.t 41)])]
 [rg 43 (.iad 3 (.t 35) (.t 36)), so (.store 3 (.t 43) (.t 42))])))
 (.reg [rg 44 (.bin .add (.t 30) (.c (.i .i64 1))), mv 30 44]))))
 (.norm false [4, 17, 18, 19, 28, 29, 30]))
def l267_1 : AX :=
 (.note
 (.seq
 (.reg [rg 20 (.bin .lss (.t 19) (.t 18))])
 (.seq
 (.cond (.t 20)
 .skip
 (.exit 0))
 (.seq
 (.block 1
 (.seq
 (.reg [rg 21 (.iad 1 (.t 17) (.t 19)), rg 22 (.load none (.t 21)), mv 6 22])
 (.seq
 (.seq
 (.reg [mv 23 6, rg 24 (.len (.t 23)), mv 25 4, rg 26 (.len (.t 25)), rg 27 (.bin .neq (.t 24) (.t 26))])
 (.cond (.t 27)
 (.seq
 (.reg [rg 2 (.mov (.c (.sl [] .nl))), rg 3 (.mov (.c (.b false)))])
 (.pre (.norm false [2, 3]) .ret))
 .skip))
 (.seq
 (.reg [mv 28 6, rg 29 (.len (.t 28)), rg 30 (.mov (.c (.i .i64 0)))])
 (.lp 2 (.norm false [4, 17, 18, 19, 28, 29, 30]) l267_0 (.norm false [4, 17, 18, 19]))))))
 (.reg [rg 45 (.bin .add (.t 19) (.c (.i .i64 1))), mv 19 45]))))
 (.norm false [4, 17, 18, 19]))
def b267 : AX :=
 (.seq
 (.reg [rg 2 (.mov (.c (.sl [] .nl))), rg 3 (.mov (.c (.b false)))])
 (.seq
 (.seq
 (.reg [mv 9 0, rg 10 (.len (.t 9)), rg 11 (.bin .eql (.t 10) (.c (.i .i64 0)))])
 (.cond (.t 11)
 (.seq
 (.reg [rg 2 (.mov (.c (.sl [] .nl))), rg 3 (.mov (.c (.b true)))])
 (.pre (.norm false [2, 3]) .ret))
 .skip))
 (.seq
 (.reg [mv 12 0, rg 13 (.iad 1 (.t 12) (.c (.i .i64 0))), rg 14 (.load none (.t 13)), rg 15 (.call 2266 [(.t 14)]), mv 4 15])
 (.seq
 (.seq
 (.reg [mv 16 0, rg 17 (.slc 1 (.t 16) (some (.c (.i .i64 1))) none none), rg 18 (.len (.t 17)), rg 19 (.mov (.c (.i .i64 0)))])
 (.lp 0 (.norm false [4, 17, 18, 19]) l267_1 (.norm false [4])))
 (.seq
 (.reg [mv 46 4, mv 2 46, rg 3 (.mov (.c (.b true)))])
 (.pre (.norm false [2, 3]) .ret))))))
def l274_0 : AX :=
 (.note
 (.seq
 (.reg [rg 9 (.bin .lss (.t 8) (.t 7))])
 (.seq
 (.cond (.t 9)
 .skip
 (.exit 0))
 (.seq
 (.block 1
 (.seq
 (.reg [rg 10 (.iad 3 (.t 6) (.t 8)), rg 11 (.load (some 3) (.t 10)), rg 5 (.alloc [(.b false), (.sl [] .nl), (.sl [] .nl)]), so (.store 3 (.t 5) (.t 11))])
 (.reg [mv 12 3, rg 13 (.load (some 3) (.t 5)), rg 14 (.call 251 [(.t 13)]), rg 15 (.bsl 1 [(.s [])] 1 [(0, (.t 14))]), rg 16 (.app 1 (.t 12) (.t 15)), mv 3 16])))
 (.reg [rg 17 (.bin .add (.t 8) (.c (.i .i64 1))), mv 8 17]))))
 (.norm false [3, 6, 7, 8]))
def b274 : AX :=
 (.seq
 (.reg [rg 2 (.mov (.c (.s [])))])
 (.seq
 (.note (.reg [rg 3 (.mov (.c (.sl [] .nl)))]) (.nil 3 1))
 (.seq
 (.seq
 (.reg [mv 6 0, rg 7 (.len (.t 6)), rg 8 (.mov (.c (.i .i64 0)))])
 (.lp 0 (.norm false [3, 6, 7, 8]) l274_0 (.norm false [3])))
 (.seq
 (.reg [mv 18 3, rg 19 (.call 183 [(.t 18), (.c (.s [44]))]), mv 2 19])
 (.pre (.norm false [2]) .ret)))))
def l2263_0 : AX :=
 (.note
 (.seq
 (.reg [rg 12 (.bin .lss (.t 11) (.t 10))])
 (.seq
 (.cond (.t 12)
 .skip
 (.exit 0))
 (.seq
 (.block 1
 (.seq
 (.reg [mv 13 11, mv 4 13])
 (.reg [mv 14 3, mv 15 4, rg 16 (.call 205 [(.c (.i .i64 0))]), rg 17 (.iad 3 (.t 14) (.t 15)), so (.store 3 (.t 17) (.t 16))])))
 (.reg [rg 18 (.bin .add (.t 11) (.c (.i .i64 1))), mv 11 18]))))
 (.norm false [3, 10, 11]))
def b2263 : AX :=
 (.seq
 (.reg [rg 2 (.mov (.c (.sl [] .nl)))])
 (.seq
 (.reg [mv 5 0, rg 6 (.mm true [(.t 5), (.c (.i .i64 0))]), rg 7 (.mm false [(.t 6), (.c (.i .i64 300))]), mv 0 7])
 (.seq
 (.reg [mv 8 0, rg 9 (.mks 3 [(.b false), (.sl [] .nl), (.sl [] .nl)] (.t 8) (.t 8)), mv 3 9])
 (.seq
 (.seq
 (.reg [mv 10 0, rg 11 (.mov (.c (.i .i64 0)))])
 (.lp 0 (.norm false [3, 10, 11]) l2263_0 (.norm false [3])))
 (.seq
 (.reg [mv 19 3, mv 2 19])
 (.pre (.norm false [2]) .ret))))))
def l2266_0 : AX :=
 (.note
 (.seq
 (.reg [rg 9 (.bin .lss (.t 8) (.t 7))])
 (.seq
 (.cond (.t 9)
 .skip
 (.exit 0))
 (.seq
 (.block 1
 (.seq
 (.reg [rg 10 (.iad 3 (.t 6) (.t 8)), rg 11 (.load (some 3) (.t 10)), rg 5 (.alloc [(.b false), (.sl [] .nl), (.sl [] .nl)]), so (.store 3 (.t 5) (.t 11))])
 (.reg [mv 12 3, rg 13 (.load (some 3) (.t 5)), rg 14 (.call 207 [(.t 13)]), rg 15 (.bsl 3 [(.b false), (.sl [] .nl), (.sl [] .nl)] 1 [(0, (.t 14))]),
 rg 16 (.app 3 (.t 12) (.t 15)), mv 3 16])))
 (.reg [rg 17 (.bin .add (.t 8) (.c (.i .i64 1))), mv 8 17]))))
 (.norm false [3, 6, 7, 8]))
def b2266 : AX :=
 (.seq
 (.reg [rg 2 (.mov (.c (.sl [] .nl)))])
 (.seq
 (.note (.reg [rg 3 (.mov (.c (.sl [] .nl)))]) (.nil 3 3))
 (.seq
 (.seq
 (.reg [mv 6 0, rg 7 (.len (.t 6)), rg 8 (.mov (.c (.i .i64 0)))])
 (.lp 0 (.norm false [3, 6, 7, 8]) l2266_0 (.norm false [3])))
 (.seq
 (.reg [mv 18 3, mv 2 18])
 (.pre (.norm false [2]) .ret)))))
class CRow (T : Tbl) : Prop where
 h251 : T 251 = some ⟨1, 21, [.t 2], b251, none, false⟩
 h263 : T 263 = some ⟨1, 20, [.t 2], b263, none, false⟩
 h265 : T 265 = some ⟨2, 27, [.t 4], b265, none, false⟩
 h266 : T 266 = some ⟨1, 19, [.t 2], b266, none, false⟩
 h267 : T 267 = some ⟨1, 47, [.t 2, .t 3], b267, none, false⟩
 h274 : T 274 = some ⟨1, 20, [.t 2], b274, none, false⟩
 h2263 : T 2263 = some ⟨1, 20, [.t 2], b2263, (some [false]), false⟩
 h2266 : T 2266 = some ⟨1, 19, [.t 2], b2266, (some [false]), false⟩
section
variable {T : Tbl} [CRow T] {d : Option Nat} {st : St} {xs : List AV} {ps : List Opd} {e : Env} {h : Heap} {ol : List Heap}
@[simp] theorem x251 : callX (orc T) T 251 xs d st = cP T 251 false xs d st := callX_pure CRow.h251
theorem f251 (xs : List AV) (hn : xs.length = 1) : callF T 251 xs = retF [.t 2] false (evX (orc T) T 0 b251 ⟨argEnv xs, [], 1⟩) := callF_eq CRow.h251 hn
@[simp] theorem x263 : callX (orc T) T 263 xs d st = cP T 263 false xs d st := callX_pure CRow.h263
theorem f263 (xs : List AV) (hn : xs.length = 1) : callF T 263 xs = retF [.t 2] false (evX (orc T) T 0 b263 ⟨argEnv xs, [], 1⟩) := callF_eq CRow.h263 hn
@[simp] theorem x265 : callX (orc T) T 265 xs d st = cP T 265 false xs d st := callX_pure CRow.h265
theorem f265 (xs : List AV) (hn : xs.length = 2) : callF T 265 xs = retF [.t 4] false (evX (orc T) T 0 b265 ⟨argEnv xs, [], 1⟩) := callF_eq CRow.h265 hn
@[simp] theorem x267 : callX (orc T) T 267 xs d st = cP T 267 false xs d st := callX_pure CRow.h267
theorem f267 (xs : List AV) (hn : xs.length = 1) : callF T 267 xs = retF [.t 2, .t 3] false (evX (orc T) T 0 b267 ⟨argEnv xs, [], 1⟩) := callF_eq CRow.h267 hn
@[simp] theorem x274 : callX (orc T) T 274 xs d st = cP T 274 false xs d st := callX_pure CRow.h274
theorem f274 (xs : List AV) (hn : xs.length = 1) : callF T 274 xs = retF [.t 2] false (evX (orc T) T 0 b274 ⟨argEnv xs, [], 1⟩) := callF_eq CRow.h274 hn
@[simp] theorem x2263 : callX (orc T) T 2263 xs d st = cL T 2263 false [false] xs d st := callX_lent CRow.h2263
theorem f2263 (xs : List AV) (hb : Heap) (hn : xs.length = 1) : callH T 2263 xs hb = retH [.t 2] false hb.length (evX (orc T) T hb.length b2263 ⟨argEnv xs, hb, hb.length + 1⟩) := callH_eq CRow.h2263 hn
@[simp] theorem x2266 : callX (orc T) T 2266 xs d st = cL T 2266 false [false] xs d st := callX_lent CRow.h2266
theorem f2266 (xs : List AV) (hb : Heap) (hn : xs.length = 1) : callH T 2266 xs hb = retH [.t 2] false hb.length (evX (orc T) T hb.length b2266 ⟨argEnv xs, hb, hb.length + 1⟩) := callH_eq CRow.h2266 hn
end
class CRow2 (T : Tbl) : Prop where
class CRow5 (T : Tbl) : Prop where
class CRef02 (T : Tbl) : Prop where
section
variable {T : Tbl} [CRef02 T]
def atW (a : List UInt32) (i : Nat) : Nat := (a[i]?.map UInt32.toNat).getD 0
end
section
variable {T : Tbl} [CRef02 T]
def stAdd2 (a b : List UInt32) (n : Nat) (y : Nat × Nat × List UInt32) : St :=
 ⟨[(0, .sl (u32s a) .an), (1, .sl (u32s b) .an), (5, .i .i64 n), (6, .bs (.loc 16) 1 1 0 n), (7, u64 y.2.1), (8, .i .i64 y.1)], [(.loc 16, ⟨1, .own, 1, u32s y.2.2⟩)], 3⟩
def stSub2 (a b : List UInt32) (n : Nat) (y : Nat × Nat × List UInt32) : St :=
 ⟨[(0, .sl (u32s a) .an), (1, .sl (u32s b) .an), (5, .i .i64 n), (6, .bs (.loc 17) 1 1 0 n), (7, u64 y.2.1), (8, .i .i64 y.1)], [(.loc 17, ⟨1, .own, 1, u32s y.2.2⟩)], 3⟩
end
class CRef04 (T : Tbl) : Prop extends CRef02 T where
section
variable {T : Tbl} [CRef04 T]
def stIn4 (P S a b : List UInt32) (y : Nat × Nat × List UInt32) : St :=
 ⟨[(0, .sl (u32s a) .an), (1, .sl (u32s b) .an), (5, .bs (.loc 14) 1 1 0 (P.length + S.length)), (6, .i .i64 P.length), (7, u64 y.2.1), (8, .i .i64 y.1)], [(.loc 14, ⟨1, .own, 1, u32s (P ++ (y.2.2 ++ S.drop y.1))⟩)], 3⟩
end
section
variable {T : Tbl} [CRef04 T]
def stMul4 (a b : List UInt32) (y : Nat × List UInt32) : St :=
 ⟨[(0, .sl (u32s a) .an), (1, .sl (u32s b) .an), (5, .bs (.loc 14) 1 1 0 (a.length + b.length)), (6, .i .i64 y.1)], [(.loc 14, ⟨1, .own, 1, u32s (y.2 ++ List.replicate (a.length - y.1) 0)⟩)], 3⟩
end
class CRef05 (T : Tbl) : Prop extends CRef04 T where
class CRef06 (T : Tbl) : Prop where
section
variable {T : Tbl} [CRef05 T]
def stDb (a : List UInt32) (y : Nat × Nat × List UInt32) : St :=
 ⟨[(0, .bs (.bor 0) 0 1 0 a.length), (4, u32 y.2.1), (5, .i .i64 y.1)], [(.bor 0, ⟨0, .own, 1, u32s (y.2.2 ++ a.drop y.1)⟩)], 4⟩
end
section
variable {T : Tbl} [CRef05 T]
def stLs (a b : List UInt32) (y : Nat × Nat × List UInt32) : St :=
 ⟨[(0, .bs (.bor 0) 0 1 0 a.length), (1, .sl (u32s b) .an), (4, u64 y.2.1), (5, .i .i64 y.1)], [(.bor 0, ⟨0, .own, 1, u32s (y.2.2 ++ a.drop y.1)⟩)], 4⟩
def stHs (x i : Nat) (y : Nat) : St := ⟨[(1, .i .i64 i), (5, u32 (x / 2 ^ y)), (6, .i .i64 y)], [], 2⟩
end
section
variable {T : Tbl} [CRef05 T]
def stLn (a : List UInt32) (y : Nat) : St := ⟨[(0, .sl (u32s a) .an), (3, .i .i64 y)], [], 2⟩
end
section
variable {T : Tbl} [CRef05 T]
def stDv (a b : List UInt32) (y : Nat × List UInt32 × List UInt32) : St :=
  ⟨[(0, .sl (u32s a) .an), (1, .sl (u32s b) .an), (6, .bs (.loc 11) 1 1 0 a.length), (7, .bs (.loc 15) 2 1 0 (b.length + 1)), (8, .i .i64 ((y.1 : Int) - 1))], [(.loc 11, ⟨1, .own, 1, u32s y.2.1⟩), (.loc 15, ⟨2, .own, 1, u32s y.2.2⟩)], 4⟩
end
class CRef07 (T : Tbl) : Prop extends CRef05 T where
section
variable {T : Tbl} [CRef07 T]
def stTen (N : Nat) (y : Nat × Nat × List UInt32) (P : List UInt32) : St :=
 ⟨[(0, .bs (.bor 0) 0 1 0 N), (3, u64 y.2.1), (4, .i .i64 ((y.1 : Int) - 1))], [(.bor 0, ⟨0, .own, 1, u32s (P.take y.1 ++ y.2.2)⟩)], 4⟩
end
section
variable {T : Tbl} [CRef07 T]
def stTx (b : BId) (x : List UInt32) (s : List UInt8) : St := ⟨[(3, .bs b 1 1 0 x.length), (4, .s s)], [(b, ⟨1, .own, 1, u32s x⟩)], 3⟩
end
class CRef08 (T : Tbl) : Prop extends CRef07 T where
def b247 : AX :=
 (.seq
 (.reg [rg 2 (.xop (.box 3) [(.t 0)]), rg 4 (.mov (.c (.b false)))])
 (.seq
 (.reg [rg 5 (.fad 1 (.t 2)), rg 6 (.load none (.t 5)), rg 7 (.len (.t 6)), mv 8 1, rg 9 (.bin .gtr (.t 7) (.t 8)), mv 10 9, gd 11 10 false (.fad 2 (.t 2)),
 gd 12 10 false (.load none (.t 11)), gd 13 10 false (.len (.t 12)), gd 14 10 false (.mov (.t 1)), gd 15 10 false (.bin .gtr (.t 13) (.t 14)),
 rg 16 (.pick (.t 10) (.c (.b true)) (.t 15)), mv 4 16])
 (.pre (.norm false [4]) .ret)))
class CRef09 (T : Tbl) : Prop where
 h247 : T 247 = some ⟨2, 17, [.t 4], b247, none, false⟩
section
variable {T : Tbl} [CRef09 T] {d : Option Nat} {st : St} {xs : List AV} {ps : List Opd} {e : Env} {h : Heap} {ol : List Heap}
@[simp] theorem x247 : callX (orc T) T 247 xs d st = cP T 247 false xs d st := callX_pure CRef09.h247
theorem f247 (xs : List AV) (hn : xs.length = 2) : callF T 247 xs = retF [.t 4] false (evX (orc T) T 0 b247 ⟨argEnv xs, [], 1⟩) := callF_eq CRef09.h247 hn
end
def l286_0 : AX :=
 (.note
 (.seq
 (.seq
 (.reg [mv 8 7, mv 9 0, rg 10 (.len (.t 9)), rg 11 (.bin .lss (.t 8) (.t 10)), mv 12 11, gd 13 12 true (.mov (.t 7)), gd 14 12 true (.mov (.t 1)),
 gd 15 12 true (.bin .lss (.t 13) (.t 14)), rg 16 (.pick (.t 12) (.t 15) (.c (.b false)))])
 (.cond (.t 16)
 .skip
 (.exit 0)))
 (.seq
 (.block 1
 (.seq
 (.reg [mv 19 0, mv 20 7, rg 21 (.iad 3 (.t 19) (.t 20)), rg 22 (.load (some 3) (.t 21)), mv 23 2, rg 24 (.call 247 [(.t 22), (.t 23)])])
 (.cond (.t 24)
 (.seq
 (.reg [rg 6 (.mov (.c (.b true)))])
 (.pre (.norm false [6]) .ret))
 .skip)))
 (.reg [mv 17 7, rg 18 (.bin .add (.t 17) (.c (.i .i64 1))), mv 7 18])))
 (.norm false [0, 1, 2, 7]))
def b286 : AX :=
 (.seq
 (.reg [rg 6 (.mov (.c (.b false)))])
 (.seq
 (.seq
 (.reg [rg 7 (.mov (.c (.i .i64 0)))])
 (.lp 0 (.norm false [0, 1, 2, 7]) l286_0 (.norm false [0, 1])))
 (.seq
 (.reg [mv 25 0, rg 26 (.len (.t 25)), mv 27 1, rg 28 (.bin .gtr (.t 26) (.t 27)), mv 6 28])
 (.pre (.norm false [6]) .ret))))
class CRef11 (T : Tbl) : Prop where
 h286 : T 286 = some ⟨3, 29, [.t 6], b286, none, false⟩
section
variable {T : Tbl} [CRef11 T] {d : Option Nat} {st : St} {xs : List AV} {ps : List Opd} {e : Env} {h : Heap} {ol : List Heap}
@[simp] theorem x286 : callX (orc T) T 286 xs d st = cP T 286 false xs d st := callX_pure CRef11.h286
theorem f286 (xs : List AV) (hn : xs.length = 3) : callF T 286 xs = retF [.t 6] false (evX (orc T) T 0 b286 ⟨argEnv xs, [], 1⟩) := callF_eq CRef11.h286 hn
end
def b248 : AX :=
 (.seq
 (.reg [rg 1 (.xop (.box 3) [(.t 0)]), rg 2 (.alloc [(.b false), (.sl [] .nl), (.sl [] .nl)])])
 (.seq
 (.reg [rg 3 (.fad 0 (.t 1)), rg 4 (.load none (.t 3)), rg 5 (.fad 1 (.t 1)), rg 6 (.load none (.t 5)),
 rg 7 (.build [(.b false), (.sl [] .nl)] [(0, 1, (.t 4)), (1, 1, (.t 6))]), rg 8 (.fad 2 (.t 1)), rg 9 (.load none (.t 8)),
 rg 10 (.build [(.b false), (.sl [] .nl), (.sl [] .nl)] [(0, 2, (.t 7)), (2, 1, (.t 9))]), so (.store 3 (.t 2) (.t 10))])
 (.pre (.norm false [2]) .ret)))
class CLaw09 (T : Tbl) : Prop where
 h248 : T 248 = some ⟨1, 11, [.cell 2 (some 3)], b248, none, false⟩
section
variable {T : Tbl} [CLaw09 T] {d : Option Nat} {st : St} {xs : List AV} {ps : List Opd} {e : Env} {h : Heap} {ol : List Heap}
@[simp] theorem x248 : callX (orc T) T 248 xs d st = cP T 248 false xs d st := callX_pure CLaw09.h248
@[simp] theorem y248 : opD (orc T) T (.call 248 ps) e h ol = dP T 248 false ps e := opD_call CLaw09.h248
theorem f248 (xs : List AV) (hn : xs.length = 1) : callF T 248 xs = retF [.cell 2 (some 3)] false (evX (orc T) T 0 b248 ⟨argEnv xs, [], 1⟩) := callF_eq CLaw09.h248 hn
end
def l287_0 : AX :=
 (.note
 (.seq
 (.seq
 (.reg [mv 5 4, mv 6 0, rg 7 (.len (.t 6)), rg 8 (.bin .lss (.t 5) (.t 7))])
 (.cond (.t 8)
 .skip
 (.exit 0)))
 (.seq
 (.block 1
 (.reg [mv 11 3, mv 12 0, mv 13 4, rg 14 (.iad 3 (.t 12) (.t 13)), rg 15 (.load (some 3) (.t 14)), rg 16 (.call 248 [(.t 15)]),
 rg 17 (.bsl 3 [(.b false), (.sl [] .nl), (.sl [] .nl)] 1 [(0, (.t 16))]), rg 18 (.app 3 (.t 11) (.t 17)), mv 3 18]))
 (.reg [mv 9 4, rg 10 (.bin .add (.t 9) (.c (.i .i64 1))), mv 4 10])))
 (.norm false [0, 3, 4]))
def b287 : AX :=
 (.seq
 (.reg [rg 2 (.mov (.c (.sl [] .nl)))])
 (.seq
 (.note (.reg [rg 3 (.mov (.c (.sl [] .nl)))]) (.nil 3 3))
 (.seq
 (.seq
 (.reg [rg 4 (.mov (.c (.i .i64 0)))])
 (.lp 0 (.norm false [0, 3, 4]) l287_0 (.norm false [3])))
 (.seq
 (.reg [mv 19 3, mv 2 19])
 (.pre (.norm false [2]) .ret)))))
class CLaw11 (T : Tbl) : Prop where
 h287 : T 287 = some ⟨1, 20, [.t 2], b287, none, false⟩
section
variable {T : Tbl} [CLaw11 T] {d : Option Nat} {st : St} {xs : List AV} {ps : List Opd} {e : Env} {h : Heap} {ol : List Heap}
@[simp] theorem x287 : callX (orc T) T 287 xs d st = cP T 287 false xs d st := callX_pure CLaw11.h287
@[simp] theorem y287 : opD (orc T) T (.call 287 ps) e h ol = dP T 287 false ps e := opD_call CLaw11.h287
theorem f287 (xs : List AV) (hn : xs.length = 1) : callF T 287 xs = retF [.t 2] false (evX (orc T) T 0 b287 ⟨argEnv xs, [], 1⟩) := callF_eq CLaw11.h287 hn
end
def b421 : AX :=
 (.seq
 (.reg [rg 1 (.xop (.box 4) [(.t 0)]), rg 2 (.mov (.c (.b false)))])
 (.seq
 (.reg [rg 3 (.load (some 4) (.t 1)), rg 4 (.call 430 [(.t 3)]), rg 5 (.bin .eql (.t 4) (.c (.i .i64 (-1)))), mv 2 5])
 (.pre (.norm false [2]) .ret)))
def l430_0 : AX :=
 (.note
 (.seq
 (.reg [rg 13 (.bin .lss (.t 12) (.t 11))])
 (.seq
 (.cond (.t 13)
 .skip
 (.exit 0))
 (.seq
 (.block 1
 (.seq
 (.reg [mv 14 12, mv 3 14])
 (.seq
 (.reg [rg 15 (.load (some 4) (.t 1)), mv 16 3, rg 17 (.call 434 [(.t 15), (.t 16)]), rg 18 (.un .not (.t 17))])
 (.cond (.t 18)
 (.seq
 (.reg [mv 19 3, mv 2 19])
 (.pre (.norm false [2]) .ret))
 .skip))))
 (.reg [rg 20 (.bin .add (.t 12) (.c (.i .i64 1))), mv 12 20]))))
 (.norm false [1, 11, 12]))
def l430_1 : AX :=
 (.note
 (.seq
 (.reg [rg 25 (.bin .lss (.t 24) (.t 23))])
 (.seq
 (.cond (.t 25)
 .skip
 (.exit 2))
 (.seq
 (.block 3
 (.seq
 (.reg [rg 26 (.iad 1 (.t 22) (.t 24)), rg 27 (.load none (.t 26)), mv 5 27])
 (.seq
 (.reg [mv 28 5, rg 29 (.fad 0 (.t 1)), rg 30 (.load none (.t 29)), rg 31 (.len (.t 30)), rg 32 (.call 435 [(.t 28), (.t 31)]), rg 33 (.un .not (.t 32))])
 (.cond (.t 33)
 (.seq
 (.reg [rg 34 (.fad 0 (.t 1)), rg 35 (.load none (.t 34)), rg 36 (.len (.t 35)), mv 2 36])
 (.pre (.norm false [2]) .ret))
 .skip))))
 (.reg [rg 37 (.bin .add (.t 24) (.c (.i .i64 1))), mv 24 37]))))
 (.norm false [1, 22, 23, 24]))
def b430 : AX :=
 (.seq
 (.reg [rg 1 (.xop (.box 4) [(.t 0)]), rg 2 (.mov (.c (.i .i64 0)))])
 (.seq
 (.seq
 (.reg [rg 6 (.load (some 4) (.t 1)), rg 7 (.call 433 [(.t 6)]), rg 8 (.un .not (.t 7))])
 (.cond (.t 8)
 (.seq
 (.reg [rg 2 (.mov (.c (.i .i64 (-2))))])
 (.pre (.norm false [2]) .ret))
 .skip))
 (.seq
 (.seq
 (.reg [rg 9 (.fad 0 (.t 1)), rg 10 (.load none (.t 9)), rg 11 (.len (.t 10)), rg 12 (.mov (.c (.i .i64 0)))])
 (.lp 0 (.norm false [1, 11, 12]) l430_0 (.norm false [1])))
 (.seq
 (.seq
 (.reg [rg 21 (.fad 1 (.t 1)), rg 22 (.load none (.t 21)), rg 23 (.len (.t 22)), rg 24 (.mov (.c (.i .i64 0)))])
 (.lp 2 (.norm false [1, 22, 23, 24]) l430_1 (.norm false [])))
 (.seq
 (.reg [rg 2 (.mov (.c (.i .i64 (-1))))])
 (.pre (.norm false [2]) .ret))))))
def b433 : AX :=
 (.seq
 (.reg [rg 1 (.xop (.box 4) [(.t 0)]), rg 2 (.mov (.c (.b false)))])
 (.seq
 (.reg [rg 3 (.fad 2 (.t 1)), rg 4 (.load none (.t 3)), rg 5 (.bin .sub (.t 4) (.c (.i .i64 1))), rg 6 (.call 435 [(.t 5), (.c (.i .i64 6))]), mv 7 6,
 gd 8 7 true (.fad 3 (.t 1)), gd 9 7 true (.load none (.t 8)), gd 10 7 true (.call 435 [(.t 9), (.c (.i .i64 7))]),
 rg 11 (.pick (.t 7) (.t 10) (.c (.b false))), mv 12 11, gd 13 12 true (.fad 1 (.t 1)), gd 14 12 true (.load none (.t 13)), gd 15 12 true (.len (.t 14)),
 gd 16 12 true (.fad 2 (.t 1)), gd 17 12 true (.load none (.t 16)), gd 18 12 true (.bin .eql (.t 15) (.t 17)),
 rg 19 (.pick (.t 12) (.t 18) (.c (.b false))), mv 20 19, gd 21 20 true (.fad 0 (.t 1)), gd 22 20 true (.load none (.t 21)), gd 23 20 true (.len (.t 22)),
 gd 24 20 true (.bin .leq (.t 23) (.c (.i .i64 300))), rg 25 (.pick (.t 20) (.t 24) (.c (.b false))), mv 2 25])
 (.pre (.norm false [2]) .ret)))
def l434_0 : AX :=
 (.note
 (.seq
 (.reg [rg 33 (.bin .lss (.t 32) (.t 31))])
 (.seq
 (.cond (.t 33)
 .skip
 (.exit 0))
 (.seq
 (.block 1
 (.seq
 (.reg [rg 34 (.iad 1 (.t 30) (.t 32)), rg 35 (.load none (.t 34)), mv 7 35])
 (.seq
 (.reg [mv 36 7, mv 37 1, rg 38 (.call 435 [(.t 36), (.t 37)]), rg 39 (.un .not (.t 38))])
 (.cond (.t 39)
 (.seq
 (.reg [rg 4 (.mov (.c (.b false)))])
 (.pre (.norm false [4]) .ret))
 .skip))))
 (.reg [rg 40 (.bin .add (.t 32) (.c (.i .i64 1))), mv 32 40]))))
 (.norm false [1, 2, 5, 30, 31, 32]))
def b434 : AX :=
 (.seq
 (.reg [rg 2 (.xop (.box 4) [(.t 0)]), rg 4 (.mov (.c (.b false)))])
 (.seq
 (.reg [rg 8 (.fad 0 (.t 2)), rg 9 (.load none (.t 8)), mv 10 1, rg 11 (.iad 6 (.t 9) (.t 10)), rg 12 (.load (some 6) (.t 11)),
 rg 5 (.alloc [(.i .i64 0), (.i .i64 0), (.i .i64 0), (.b false), (.sl [] .nl), (.sl [] .nl)]), so (.store 6 (.t 5) (.t 12))])
 (.seq
 (.seq
 (.reg [rg 13 (.fad 0 (.t 5)), rg 14 (.load none (.t 13)), rg 15 (.bin .eql (.t 14) (.c (.i .i64 1)))])
 (.cond (.t 15)
 (.seq
 (.reg [rg 16 (.load (some 6) (.t 5)), rg 17 (.call 437 [(.t 16)]), rg 18 (.build [(.i .i64 0), (.i .i64 0), (.i .i64 0)] [(0, 1, (.c (.i .i64 1)))]),
 rg 19 (.eqs false [(0, .int), (1, .int), (2, .int)] (.t 17) (.t 18)), mv 20 19, gd 21 20 true (.fad 3 (.t 5)), gd 22 20 true (.load (some 3) (.t 21)),
 gd 23 20 true (.call 208 [(.t 22)]), rg 24 (.pick (.t 20) (.t 23) (.c (.b false))), mv 4 24])
 (.pre (.norm false [4]) .ret))
 .skip))
 (.seq
 (.seq
 (.reg [rg 25 (.fad 3 (.t 5)), rg 26 (.load (some 3) (.t 25)), rg 27 (.call 438 [(.t 26)]), rg 28 (.un .not (.t 27))])
 (.cond (.t 28)
 (.seq
 (.reg [rg 4 (.mov (.c (.b false)))])
 (.pre (.norm false [4]) .ret))
 .skip))
 (.seq
 (.seq
 (.reg [rg 29 (.load (some 6) (.t 5)), rg 30 (.call 439 [(.t 29)]), rg 31 (.len (.t 30)), rg 32 (.mov (.c (.i .i64 0)))])
 (.lp 0 (.norm false [1, 2, 5, 30, 31, 32]) l434_0 (.norm false [2, 5])))
 (.seq
 (.seq
 (.reg [rg 41 (.fad 0 (.t 5)), rg 42 (.load none (.t 41))])
 (.block 2
 (.seq
 (.reg [rg 44 (.bin .eql (.t 42) (.c (.i .i64 2))), mv 43 44])
 (.cond (.t 43)
 (.seq
 (.reg [rg 45 (.load (some 6) (.t 5)), rg 46 (.call 437 [(.t 45)]), rg 47 (.build [(.i .i64 0), (.i .i64 0), (.i .i64 0)] [(0, 1, (.c (.i .i64 2)))]),
 rg 48 (.eqs false [(0, .int), (1, .int), (2, .int)] (.t 46) (.t 47)), mv 4 48])
 (.pre (.norm false [4]) .ret))
 (.seq
 (.reg [rg 50 (.bin .eql (.t 42) (.c (.i .i64 3))), mv 49 50])
 (.cond (.t 49)
 (.seq
 (.reg [rg 51 (.fad 1 (.t 5)), rg 52 (.load none (.t 51)), rg 53 (.fad 2 (.t 2)), rg 54 (.load none (.t 53)), rg 55 (.call 435 [(.t 52), (.t 54)]), mv 56 55,
 gd 57 56 true (.fad 2 (.t 5)), gd 58 56 true (.load none (.t 57)), gd 59 56 true (.bin .eql (.t 58) (.c (.i .i64 0))),
 rg 60 (.pick (.t 56) (.t 59) (.c (.b false))), mv 4 60])
 (.pre (.norm false [4]) .ret))
 (.seq
 (.reg [rg 62 (.bin .eql (.t 42) (.c (.i .i64 4))), mv 61 62])
 (.cond (.t 61)
 (.seq
 (.reg [rg 63 (.fad 1 (.t 5)), rg 64 (.load none (.t 63)), rg 65 (.fad 3 (.t 2)), rg 66 (.load none (.t 65)), rg 67 (.call 435 [(.t 64), (.t 66)]), mv 68 67,
 gd 69 68 true (.fad 2 (.t 5)), gd 70 68 true (.load none (.t 69)), gd 71 68 true (.bin .eql (.t 70) (.c (.i .i64 0))),
 rg 72 (.pick (.t 68) (.t 71) (.c (.b false))), mv 4 72])
 (.pre (.norm false [4]) .ret))
 (.seq
 (.reg [rg 74 (.bin .eql (.t 42) (.c (.i .i64 6))), mv 73 74])
 (.cond (.t 73)
 (.seq
 (.reg [rg 75 (.fad 2 (.t 5)), rg 76 (.load none (.t 75)), rg 77 (.bin .eql (.t 76) (.c (.i .i64 0))), mv 4 77])
 (.pre (.norm false [4]) .ret))
 (.seq
 (.reg [rg 79 (.bin .eql (.t 42) (.c (.i .i64 11))), mv 78 79])
 (.cond (.t 78)
 (.seq
 (.reg [rg 80 (.fad 2 (.t 5)), rg 81 (.load none (.t 80)), rg 82 (.bin .geq (.t 81) (.c (.i .i64 (-8)))), mv 83 82, gd 84 83 true (.fad 2 (.t 5)),
 gd 85 83 true (.load none (.t 84)), gd 86 83 true (.bin .leq (.t 85) (.c (.i .i64 8))), rg 87 (.pick (.t 83) (.t 86) (.c (.b false))), mv 4 87])
 (.pre (.norm false [4]) .ret))
 .skip))))))))))))
 (.seq
 (.reg [rg 88 (.load (some 6) (.t 5)), rg 89 (.call 439 [(.t 88)]), rg 90 (.len (.t 89)), rg 91 (.bin .eql (.t 90) (.c (.i .i64 2))), mv 4 91])
 (.pre (.norm false [4]) .ret))))))))
def b435 : AX :=
 (.seq
 (.reg [rg 4 (.mov (.c (.b false)))])
 (.seq
 (.reg [mv 5 0, rg 6 (.bin .geq (.t 5) (.c (.i .i64 0))), mv 7 6, gd 8 7 true (.mov (.t 0)), gd 9 7 true (.mov (.t 1)), gd 10 7 true (.bin .lss (.t 8) (.t 9)),
 rg 11 (.pick (.t 7) (.t 10) (.c (.b false))), mv 4 11])
 (.pre (.norm false [4]) .ret)))
def b437 : AX :=
 (.seq
 (.reg [rg 1 (.xop (.box 6) [(.t 0)]), rg 2 (.alloc [(.i .i64 0), (.i .i64 0), (.i .i64 0)])])
 (.seq
 (.reg [rg 3 (.fad 0 (.t 1)), rg 4 (.load none (.t 3)), rg 5 (.fad 1 (.t 1)), rg 6 (.load none (.t 5)), rg 7 (.fad 2 (.t 1)), rg 8 (.load none (.t 7)),
 rg 9 (.build [(.i .i64 0), (.i .i64 0), (.i .i64 0)] [(0, 1, (.t 4)), (1, 1, (.t 6)), (2, 1, (.t 8))]), so (.store 3 (.t 2) (.t 9))])
 (.pre (.norm false [2]) .ret)))
def b438 : AX :=
 (.seq
 (.reg [rg 1 (.xop (.box 3) [(.t 0)]), rg 2 (.mov (.c (.b false)))])
 (.seq
 (.reg [rg 3 (.fad 0 (.t 1)), rg 4 (.fad 0 (.t 3)), rg 5 (.load none (.t 4)), rg 6 (.un .not (.t 5)), mv 7 6, gd 8 7 true (.fad 0 (.t 1)),
 gd 9 7 true (.fad 1 (.t 8)), gd 10 7 true (.load none (.t 9)), gd 11 7 true (.len (.t 10)), gd 12 7 true (.bin .eql (.t 11) (.c (.i .i64 0))),
 rg 13 (.pick (.t 7) (.t 12) (.c (.b false))), mv 14 13, gd 15 14 true (.fad 2 (.t 1)), gd 16 14 true (.load none (.t 15)), gd 17 14 true (.len (.t 16)),
 gd 18 14 true (.bin .eql (.t 17) (.c (.i .i64 0))), rg 19 (.pick (.t 14) (.t 18) (.c (.b false))), mv 2 19])
 (.pre (.norm false [2]) .ret)))
def b439 : AX :=
 (.seq
 (.reg [rg 1 (.xop (.box 6) [(.t 0)]), rg 2 (.mov (.c (.sl [] .nl)))])
 (.seq
 (.seq
 (.reg [rg 3 (.fad 0 (.t 1)), rg 4 (.load none (.t 3))])
 (.block 0
 (.seq
 (.seq
 (.reg [rg 6 (.bin .eql (.t 4) (.c (.i .i64 6))), mv 5 6])
 (.cond (.t 5)
 .skip
 (.reg [rg 7 (.bin .eql (.t 4) (.c (.i .i64 11))), mv 5 7])))
 (.cond (.t 5)
 (.seq
 (.reg [rg 8 (.fad 1 (.t 1)), rg 9 (.load none (.t 8)), rg 10 (.bsl 1 [(.i .i64 0)] 1 [(0, (.t 9))]), mv 2 10])
 (.pre (.norm false [2]) .ret))
 (.seq
 (.seq
 (.reg [rg 12 (.bin .eql (.t 4) (.c (.i .i64 7))), mv 11 12])
 (.cond (.t 11)
 .skip
 (.seq
 (.reg [rg 13 (.bin .eql (.t 4) (.c (.i .i64 8))), mv 11 13])
 (.cond (.t 11)
 .skip
 (.seq
 (.reg [rg 14 (.bin .eql (.t 4) (.c (.i .i64 9))), mv 11 14])
 (.cond (.t 11)
 .skip
 (.reg [rg 15 (.bin .eql (.t 4) (.c (.i .i64 10))), mv 11 15])))))))
 (.cond (.t 11)
 (.seq
 (.reg [rg 16 (.fad 1 (.t 1)), rg 17 (.load none (.t 16)), rg 18 (.fad 2 (.t 1)), rg 19 (.load none (.t 18)),
 rg 20 (.bsl 1 [(.i .i64 0)] 2 [(0, (.t 17)), (1, (.t 19))]), mv 2 20])
 (.pre (.norm false [2]) .ret))
 .skip))))))
 (.seq
 (.reg [rg 2 (.mov (.c (.sl [] .nl)))])
 (.pre (.norm false [2]) .ret))))
class CTape (T : Tbl) : Prop where
 h421 : T 421 = some ⟨1, 6, [.t 2], b421, none, false⟩
 h430 : T 430 = some ⟨1, 38, [.t 2], b430, none, false⟩
 h433 : T 433 = some ⟨1, 26, [.t 2], b433, none, false⟩
 h434 : T 434 = some ⟨2, 92, [.t 4], b434, none, false⟩
 h435 : T 435 = some ⟨2, 12, [.t 4], b435, none, false⟩
 h437 : T 437 = some ⟨1, 10, [.cell 2 (some 3)], b437, none, false⟩
 h438 : T 438 = some ⟨1, 20, [.t 2], b438, none, false⟩
 h439 : T 439 = some ⟨1, 21, [.t 2], b439, none, false⟩
section
variable {T : Tbl} [CTape T] {d : Option Nat} {st : St} {xs : List AV} {ps : List Opd} {e : Env} {h : Heap} {ol : List Heap}
@[simp] theorem x421 : callX (orc T) T 421 xs d st = cP T 421 false xs d st := callX_pure CTape.h421
theorem f421 (xs : List AV) (hn : xs.length = 1) : callF T 421 xs = retF [.t 2] false (evX (orc T) T 0 b421 ⟨argEnv xs, [], 1⟩) := callF_eq CTape.h421 hn
@[simp] theorem x430 : callX (orc T) T 430 xs d st = cP T 430 false xs d st := callX_pure CTape.h430
theorem f430 (xs : List AV) (hn : xs.length = 1) : callF T 430 xs = retF [.t 2] false (evX (orc T) T 0 b430 ⟨argEnv xs, [], 1⟩) := callF_eq CTape.h430 hn
@[simp] theorem x433 : callX (orc T) T 433 xs d st = cP T 433 false xs d st := callX_pure CTape.h433
theorem f433 (xs : List AV) (hn : xs.length = 1) : callF T 433 xs = retF [.t 2] false (evX (orc T) T 0 b433 ⟨argEnv xs, [], 1⟩) := callF_eq CTape.h433 hn
@[simp] theorem x434 : callX (orc T) T 434 xs d st = cP T 434 false xs d st := callX_pure CTape.h434
theorem f434 (xs : List AV) (hn : xs.length = 2) : callF T 434 xs = retF [.t 4] false (evX (orc T) T 0 b434 ⟨argEnv xs, [], 1⟩) := callF_eq CTape.h434 hn
@[simp] theorem x435 : callX (orc T) T 435 xs d st = cP T 435 false xs d st := callX_pure CTape.h435
theorem f435 (xs : List AV) (hn : xs.length = 2) : callF T 435 xs = retF [.t 4] false (evX (orc T) T 0 b435 ⟨argEnv xs, [], 1⟩) := callF_eq CTape.h435 hn
@[simp] theorem x437 : callX (orc T) T 437 xs d st = cP T 437 false xs d st := callX_pure CTape.h437
theorem f437 (xs : List AV) (hn : xs.length = 1) : callF T 437 xs = retF [.cell 2 (some 3)] false (evX (orc T) T 0 b437 ⟨argEnv xs, [], 1⟩) := callF_eq CTape.h437 hn
@[simp] theorem x438 : callX (orc T) T 438 xs d st = cP T 438 false xs d st := callX_pure CTape.h438
theorem f438 (xs : List AV) (hn : xs.length = 1) : callF T 438 xs = retF [.t 2] false (evX (orc T) T 0 b438 ⟨argEnv xs, [], 1⟩) := callF_eq CTape.h438 hn
@[simp] theorem x439 : callX (orc T) T 439 xs d st = cP T 439 false xs d st := callX_pure CTape.h439
theorem f439 (xs : List AV) (hn : xs.length = 1) : callF T 439 xs = retF [.t 2] false (evX (orc T) T 0 b439 ⟨argEnv xs, [], 1⟩) := callF_eq CTape.h439 hn
end
def b406 : AX :=
 (.seq
 (.reg [rg 2 (.mov (.c (.raw (.pointer none))))])
 (.seq
 (.reg [mv 3 0, rg 4 (.mm true [(.t 3), (.c (.i .i64 0))]), rg 5 (.mm false [(.t 4), (.c (.i .i64 4096))]),
 rg 6 (.build [(.i .i64 0), (.i .i64 0), (.i .i64 0)] [(2, 1, (.t 5))]), rg 7 (.xop (.box 3) [(.t 6)]), mv 2 7])
 (.pre (.norm false [2]) .ret)))
def b411 : AX :=
 (.seq
 (.reg [rg 3 (.xop (.box 3) [(.t 1)]), rg 4 (.mov (.c (.b false)))])
 (.seq
 (.reg [rg 6 (.load (some 3) (.t 3)), rg 7 (.call 223 [(.t 6)]), mv 5 7])
 (.seq
 (.reg [mv 8 0, rg 9 (.nilc (.t 8)), rg 10 (.fad 0 (.t 9)), mv 11 5, rg 12 (.call 426 [(.t 10), (.t 11)])])
 (.seq
 (.reg [mv 13 5, mv 14 0, rg 15 (.nilc (.t 14)), rg 16 (.fad 2 (.t 15)), rg 17 (.load none (.t 16)), rg 18 (.bin .leq (.t 13) (.t 17)), mv 4 18])
 (.pre (.norm false [4]) .ret)))))
def b426 : AX :=
 (.seq
 (.reg [mv 4 0, rg 5 (.nilc (.t 4)), rg 6 (.fad 0 (.t 5)), rg 7 (.load none (.t 6)), rg 8 (.bin .add (.t 7) (.c (.i .i64 1))), rg 9 (.nilc (.t 4)),
 rg 10 (.fad 0 (.t 9)), so (.store 1 (.t 10) (.t 8))])
 (.reg [mv 11 0, mv 12 0, rg 13 (.nilc (.t 12)), rg 14 (.fad 1 (.t 13)), rg 15 (.load none (.t 14)), mv 16 1, rg 17 (.mm true [(.t 15), (.t 16)]),
 rg 18 (.nilc (.t 11)), rg 19 (.fad 1 (.t 18)), so (.store 1 (.t 19) (.t 17))]))
def l413_0 : AX :=
 (.note
 (.seq
 (.reg [rg 11 (.bin .lss (.t 10) (.t 9))])
 (.seq
 (.cond (.t 11)
 .skip
 (.exit 0))
 (.seq
 (.block 1
 (.seq
 (.reg [mv 12 10, rg 13 (.iad 3 (.t 8) (.t 10)), rg 14 (.load (some 3) (.t 13)), rg 7 (.alloc [(.b false), (.sl [] .nl), (.sl [] .nl)]), mv 6 12,
 so (.store 3 (.t 7) (.t 14))])
 (.seq
 (.reg [mv 15 0, rg 16 (.load (some 3) (.t 7)), rg 17 (.call 411 [(.t 15), (.t 16)]), rg 18 (.un .not (.t 17))])
 (.cond (.t 18)
 (.seq
 (.reg [mv 19 6, mv 4 19, rg 5 (.mov (.c (.b false)))])
 (.pre (.norm false [4, 5]) .ret))
 .skip))))
 (.reg [rg 20 (.bin .add (.t 10) (.c (.i .i64 1))), mv 10 20]))))
 (.norm false [0, 1, 8, 9, 10]))
def b413 : AX :=
 (.seq
 (.reg [rg 4 (.mov (.c (.i .i64 0))), rg 5 (.mov (.c (.b false)))])
 (.seq
 (.seq
 (.reg [mv 8 1, rg 9 (.len (.t 8)), rg 10 (.mov (.c (.i .i64 0)))])
 (.lp 0 (.norm false [0, 1, 8, 9, 10]) l413_0 (.norm false [1])))
 (.seq
 (.reg [mv 21 1, rg 22 (.len (.t 21)), mv 4 22, rg 5 (.mov (.c (.b true)))])
 (.pre (.norm false [4, 5]) .ret))))
class CGauge (T : Tbl) : Prop where
 h406 : T 406 = some ⟨1, 8, [.t 2], b406, (some [false]), false⟩
 h411 : T 411 = some ⟨2, 19, [.t 4], b411, (some [true, false]), false⟩
 h426 : T 426 = some ⟨2, 20, [], b426, (some [true, false]), false⟩
 h413 : T 413 = some ⟨2, 23, [.t 4, .t 5], b413, (some [true, false]), false⟩
section
variable {T : Tbl} [CGauge T] {d : Option Nat} {st : St} {xs : List AV} {ps : List Opd} {e : Env} {h : Heap} {ol : List Heap}
@[simp] theorem x406 : callX (orc T) T 406 xs d st = cL T 406 false [false] xs d st := callX_lent CGauge.h406
theorem f406 (xs : List AV) (hb : Heap) (hn : xs.length = 1) : callH T 406 xs hb = retH [.t 2] false hb.length (evX (orc T) T hb.length b406 ⟨argEnv xs, hb, hb.length + 1⟩) := callH_eq CGauge.h406 hn
@[simp] theorem x411 : callX (orc T) T 411 xs d st = cL T 411 false [true, false] xs d st := callX_lent CGauge.h411
theorem f411 (xs : List AV) (hb : Heap) (hn : xs.length = 2) : callH T 411 xs hb = retH [.t 4] false hb.length (evX (orc T) T hb.length b411 ⟨argEnv xs, hb, hb.length + 1⟩) := callH_eq CGauge.h411 hn
@[simp] theorem x426 : callX (orc T) T 426 xs d st = cL T 426 false [true, false] xs d st := callX_lent CGauge.h426
theorem f426 (xs : List AV) (hb : Heap) (hn : xs.length = 2) : callH T 426 xs hb = retH [] false hb.length (evX (orc T) T hb.length b426 ⟨argEnv xs, hb, hb.length + 1⟩) := callH_eq CGauge.h426 hn
@[simp] theorem x413 : callX (orc T) T 413 xs d st = cL T 413 false [true, false] xs d st := callX_lent CGauge.h413
theorem f413 (xs : List AV) (hb : Heap) (hn : xs.length = 2) : callH T 413 xs hb = retH [.t 4, .t 5] false hb.length (evX (orc T) T hb.length b413 ⟨argEnv xs, hb, hb.length + 1⟩) := callH_eq CGauge.h413 hn
end
def b405 : AX :=
 (.seq
 (.reg [rg 1 (.xop (.box 5) [(.t 0)]), rg 2 (.alloc [(.b false), (.sl [] .nl), (.sl [] .nl), (.sl [] .nl), (.sl [] .nl)])])
 (.seq
 (.drawT [rg 3 (.fad 0 (.t 1)), rg 4 (.load (some 3) (.t 3)), rg 5 (.call 207 [(.t 4)]), rg 6 (.fad 3 (.t 1)), rg 7 (.load none (.t 6)), rg 8 (.call 420 [(.t 7)]),
 rg 9 (.fad 4 (.t 1)), rg 10 (.load none (.t 9))]
 [rg 11 (.call 420 [(.t 10)]),
 rg 12 (.build [(.b false), (.sl [] .nl), (.sl [] .nl), (.sl [] .nl), (.sl [] .nl)] [(0, 3, (.t 5)), (3, 1, (.t 8)), (4, 1, (.t 11))]),
 so (.store 5 (.t 2) (.t 12))])
 (.pre (.norm false [2]) .ret)))
def l420_0 : AX :=
 (.note
 (.seq
 (.reg [rg 9 (.bin .lss (.t 8) (.t 7))])
 (.seq
 (.cond (.t 9)
 .skip
 (.exit 0))
 (.seq
 (.block 1
 (.seq
 (.reg [rg 10 (.iad 3 (.t 6) (.t 8)), rg 11 (.load (some 3) (.t 10)), rg 5 (.alloc [(.b false), (.sl [] .nl), (.sl [] .nl)]), so (.store 3 (.t 5) (.t 11))])
 (.reg [mv 12 3, rg 13 (.load (some 3) (.t 5)), rg 14 (.call 207 [(.t 13)]), rg 15 (.bsl 3 [(.b false), (.sl [] .nl), (.sl [] .nl)] 1 [(0, (.t 14))]),
 rg 16 (.app 3 (.t 12) (.t 15)), mv 3 16])))
 (.reg [rg 17 (.bin .add (.t 8) (.c (.i .i64 1))), mv 8 17]))))
 (.norm false [3, 6, 7, 8]))
def b420 : AX :=
 (.seq
 (.reg [rg 2 (.mov (.c (.sl [] .nl)))])
 (.seq
 (.note (.reg [rg 3 (.mov (.c (.sl [] .nl)))]) (.nil 3 3))
 (.seq
 (.seq
 (.reg [mv 6 0, rg 7 (.len (.t 6)), rg 8 (.mov (.c (.i .i64 0)))])
 (.lp 0 (.norm false [3, 6, 7, 8]) l420_0 (.norm false [3])))
 (.seq
 (.reg [mv 18 3, mv 2 18])
 (.pre (.norm false [2]) .ret)))))
class CEval (T : Tbl) : Prop where
 h405 : T 405 = some ⟨1, 13, [.cell 2 (some 5)], b405, none, false⟩
 h420 : T 420 = some ⟨1, 19, [.t 2], b420, none, false⟩
section
variable {T : Tbl} [CEval T] {d : Option Nat} {st : St} {xs : List AV} {ps : List Opd} {e : Env} {h : Heap} {ol : List Heap}
@[simp] theorem x405 : callX (orc T) T 405 xs d st = cP T 405 false xs d st := callX_pure CEval.h405
theorem f405 (xs : List AV) (hn : xs.length = 1) : callF T 405 xs = retF [.cell 2 (some 5)] false (evX (orc T) T 0 b405 ⟨argEnv xs, [], 1⟩) := callF_eq CEval.h405 hn
@[simp] theorem x420 : callX (orc T) T 420 xs d st = cP T 420 false xs d st := callX_pure CEval.h420
@[simp] theorem y420 : opD (orc T) T (.call 420 ps) e h ol = dP T 420 false ps e := opD_call CEval.h420
theorem f420 (xs : List AV) (hn : xs.length = 1) : callF T 420 xs = retF [.t 2] false (evX (orc T) T 0 b420 ⟨argEnv xs, [], 1⟩) := callF_eq CEval.h420 hn
end
def b384 : AX :=
 (.seq
 (.reg [rg 3 (.xop (.box 4) [(.t 0)]), rg 4 (.xop (.box 5) [(.t 1)]), rg 6 (.mov (.c (.sl [] .nl))),
 rg 7 (.alloc [(.i .i64 0), (.i .i64 0), (.i .i64 0), (.i .i64 0)])])
 (.seq
 (.reg [rg 9 (.load (some 5) (.t 4)), rg 10 (.call 405 [(.t 9)]), so (.store 5 (.t 4) (.t 10))])
 (.seq
 (.reg [mv 11 2, rg 12 (.call 406 [(.t 11)]), rg 13 (.build [(.raw (.pointer none))] [(0, 1, (.t 12))]),
 rg 14 (.build [(.raw (.pointer none))] [(0, 1, (.t 13))]), rg 8 (.alloc [(.raw (.pointer none))]), so (.store 1 (.t 8) (.t 14))])
 (.seq
 (.reg [rg 15 (.load (some 1) (.t 8)), rg 16 (.load (some 4) (.t 3)), rg 17 (.fad 0 (.t 4)), rg 18 (.load (some 3) (.t 17)), rg 19 (.fad 3 (.t 4)),
 rg 20 (.load none (.t 19)), rg 21 (.fad 4 (.t 4)), rg 22 (.load none (.t 21)),
 rg 23 (.build [(.b false), (.sl [] .nl), (.sl [] .nl), (.sl [] .nl), (.sl [] .nl)] [(0, 3, (.t 18)), (3, 1, (.t 20)), (4, 1, (.t 22))]),
 rg 24 (.call 407 [(.t 15), (.t 16), (.t 23)]), rg 25 (.ext (.t 24) 0), rg 26 (.ext (.t 24) 1), mv 6 25, so (.store 4 (.t 7) (.t 26))])
 (.pre (.norm false [6, 7]) .ret)))))
def l407_0 : AX :=
 (.note
 (.seq
 (.reg [rg 37 (.bin .lss (.t 36) (.t 35))])
 (.seq
 (.cond (.t 37)
 .skip
 (.exit 0))
 (.seq
 (.block 1
 (.seq
 (.reg [mv 38 36, rg 39 (.iad 6 (.t 34) (.t 36)), rg 40 (.load (some 6) (.t 39)),
 rg 10 (.alloc [(.i .i64 0), (.i .i64 0), (.i .i64 0), (.b false), (.sl [] .nl), (.sl [] .nl)]), mv 9 38, so (.store 6 (.t 10) (.t 40))])
 (.seq
 (.reg [rg 42 (.load (some 1) (.t 3)), rg 43 (.load (some 6) (.t 10)), rg 44 (.load (some 5) (.t 5)), mv 45 8,
 rg 46 (.call 422 [(.t 42), (.t 43), (.t 44), (.t 45)]), mv 41 46, rg 47 (.ext (.t 41) 0), rg 48 (.ext (.t 41) 1),
 rg 11 (.alloc [(.b false), (.sl [] .nl), (.sl [] .nl)]), so (.store 3 (.t 11) (.t 47)), mv 12 48])
 (.seq
 (.block 2
 (.seq
 (.reg [mv 50 12, rg 51 (.un .not (.t 50)), mv 49 51])
 (.cond (.t 49)
 (.seq
 (.reg [mv 52 9, rg 53 (.build [(.i .i64 0), (.i .i64 0), (.i .i64 0), (.i .i64 0)] [(0, 1, (.c (.i .i64 3))), (3, 1, (.t 52))]), rg 6 (.mov (.c (.sl [] .nl))),
 so (.store 4 (.t 7) (.t 53))])
 (.pre (.norm false [6, 7]) .ret))
 (.seq
 (.reg [rg 55 (.fad 0 (.t 3)), rg 56 (.load (some 1) (.t 55)), rg 57 (.ifc 1 (.t 56)), rg 58 (.load (some 3) (.t 11)),
 rg 59 (.inv "Fits" 1 442 (.t 57) [(.t 58)]), rg 60 (.un .not (.t 59)), mv 54 60])
 (.cond (.t 54)
 (.seq
 (.reg [mv 61 9, rg 62 (.build [(.i .i64 0), (.i .i64 0), (.i .i64 0), (.i .i64 0)] [(0, 1, (.c (.i .i64 6))), (3, 1, (.t 61))]), rg 6 (.mov (.c (.sl [] .nl))),
 so (.store 4 (.t 7) (.t 62))])
 (.pre (.norm false [6, 7]) .ret))
 .skip)))))
 (.reg [mv 63 8, rg 64 (.load (some 3) (.t 11)), rg 65 (.bsl 3 [(.b false), (.sl [] .nl), (.sl [] .nl)] 1 [(0, (.t 64))]), rg 66 (.app 3 (.t 63) (.t 65)),
 mv 8 66])))))
 (.reg [rg 67 (.bin .add (.t 36) (.c (.i .i64 1))), mv 36 67]))))
 (.norm false [3, 5, 7, 8, 34, 35, 36]))
def b407 : AX :=
 (.seq
 (.reg [rg 3 (.xop (.box 1) [(.t 0)]), rg 4 (.xop (.box 4) [(.t 1)]), rg 5 (.xop (.box 5) [(.t 2)]), rg 6 (.mov (.c (.sl [] .nl))),
 rg 7 (.alloc [(.i .i64 0), (.i .i64 0), (.i .i64 0), (.i .i64 0)])])
 (.seq
 (.seq
 (.reg [rg 13 (.load (some 4) (.t 4)), rg 14 (.call 421 [(.t 13)]), rg 15 (.un .not (.t 14)), mv 16 15, gd 17 16 false (.fad 3 (.t 5)),
 gd 18 16 false (.load none (.t 17)), gd 19 16 false (.len (.t 18)), gd 20 16 false (.fad 2 (.t 4)), gd 21 16 false (.load none (.t 20)),
 gd 22 16 false (.bin .neq (.t 19) (.t 21)), rg 23 (.pick (.t 16) (.c (.b true)) (.t 22)), mv 24 23, gd 25 24 false (.fad 4 (.t 5)),
 gd 26 24 false (.load none (.t 25)), gd 27 24 false (.len (.t 26)), gd 28 24 false (.fad 3 (.t 4)), gd 29 24 false (.load none (.t 28)),
 gd 30 24 false (.bin .neq (.t 27) (.t 29)), rg 31 (.pick (.t 24) (.c (.b true)) (.t 30))])
 (.cond (.t 31)
 (.seq
 (.reg [rg 32 (.build [(.i .i64 0), (.i .i64 0), (.i .i64 0), (.i .i64 0)] [(0, 1, (.c (.i .i64 2)))]), rg 6 (.mov (.c (.sl [] .nl))),
 so (.store 4 (.t 7) (.t 32))])
 (.pre (.norm false [6, 7]) .ret))
 .skip))
 (.seq
 (.note (.reg [rg 8 (.mov (.c (.sl [] .nl)))]) (.nil 8 3))
 (.seq
 (.seq
 (.reg [rg 33 (.fad 0 (.t 4)), rg 34 (.load none (.t 33)), rg 35 (.len (.t 34)), rg 36 (.mov (.c (.i .i64 0)))])
 (.lp 0 (.norm false [3, 5, 7, 8, 34, 35, 36]) l407_0 (.norm false [7, 8])))
 (.seq
 (.reg [mv 68 8, rg 69 (.build [(.i .i64 0), (.i .i64 0), (.i .i64 0), (.i .i64 0)] []), mv 6 68, so (.store 4 (.t 7) (.t 69))])
 (.pre (.norm false [6, 7]) .ret))))))
def b422 : AX :=
 (.seq
 (.reg [rg 4 (.xop (.box 1) [(.t 0)]), rg 5 (.xop (.box 6) [(.t 1)]), rg 6 (.xop (.box 5) [(.t 2)]), rg 8 (.alloc [(.b false), (.sl [] .nl), (.sl [] .nl)]),
 rg 9 (.mov (.c (.b false)))])
 (.seq
 (.seq
 (.reg [rg 10 (.fad 0 (.t 5)), rg 11 (.load none (.t 10))])
 (.block 0
 (.seq
 (.reg [rg 13 (.bin .eql (.t 11) (.c (.i .i64 6))), mv 12 13])
 (.cond (.t 12)
 (.seq
 (.drawT [rg 14 (.fad 0 (.t 4)), rg 15 (.load (some 1) (.t 14)), rg 16 (.ifc 1 (.t 15)), mv 17 3, rg 18 (.fad 1 (.t 5)), rg 19 (.load none (.t 18)),
 rg 20 (.iad 3 (.t 17) (.t 19)), rg 21 (.load (some 3) (.t 20))]
 [rg 22 (.inv "Neg" 1 444 (.t 16) [(.t 21)]), so (.store 3 (.t 8) (.t 22)), rg 9 (.mov (.c (.b true)))])
 (.pre (.norm false [8, 9]) .ret))
 (.seq
 (.reg [rg 24 (.bin .eql (.t 11) (.c (.i .i64 11))), mv 23 24])
 (.cond (.t 23)
 (.seq
 (.drawT [rg 25 (.fad 0 (.t 4)), rg 26 (.load (some 1) (.t 25)), rg 27 (.ifc 1 (.t 26)), mv 28 3, rg 29 (.fad 1 (.t 5)), rg 30 (.load none (.t 29)),
 rg 31 (.iad 3 (.t 28) (.t 30)), rg 32 (.load (some 3) (.t 31)), rg 33 (.fad 2 (.t 5)), rg 34 (.load none (.t 33)),
 rg 35 (.inv "Pow" 1 446 (.t 27) [(.t 32), (.t 34)]), rg 36 (.ext (.t 35) 0), rg 37 (.ext (.t 35) 1)]
 [so (.store 3 (.t 8) (.t 36)), mv 9 37])
 (.pre (.norm false [8, 9]) .ret))
 (.seq
 (.reg [rg 39 (.bin .eql (.t 11) (.c (.i .i64 7))), mv 38 39])
 (.cond (.t 38)
 (.seq
 (.drawT [rg 40 (.fad 0 (.t 4)), rg 41 (.load (some 1) (.t 40)), rg 42 (.ifc 1 (.t 41)), mv 43 3, rg 44 (.fad 1 (.t 5)), rg 45 (.load none (.t 44)),
 rg 46 (.iad 3 (.t 43) (.t 45)), rg 47 (.load (some 3) (.t 46)), mv 48 3, rg 49 (.fad 2 (.t 5)), rg 50 (.load none (.t 49)),
 rg 51 (.iad 3 (.t 48) (.t 50)), rg 52 (.load (some 3) (.t 51))]
 [rg 53 (.inv "Add" 1 441 (.t 42) [(.t 47), (.t 52)]), so (.store 3 (.t 8) (.t 53)), rg 9 (.mov (.c (.b true)))])
 (.pre (.norm false [8, 9]) .ret))
 (.seq
 (.reg [rg 55 (.bin .eql (.t 11) (.c (.i .i64 8))), mv 54 55])
 (.cond (.t 54)
 (.seq
 (.drawT [rg 56 (.fad 0 (.t 4)), rg 57 (.load (some 1) (.t 56)), rg 58 (.ifc 1 (.t 57)), mv 59 3, rg 60 (.fad 1 (.t 5)), rg 61 (.load none (.t 60)),
 rg 62 (.iad 3 (.t 59) (.t 61)), rg 63 (.load (some 3) (.t 62)), mv 64 3, rg 65 (.fad 2 (.t 5)), rg 66 (.load none (.t 65)),
 rg 67 (.iad 3 (.t 64) (.t 66)), rg 68 (.load (some 3) (.t 67))]
 [rg 69 (.inv "Sub" 1 448 (.t 58) [(.t 63), (.t 68)]), so (.store 3 (.t 8) (.t 69)), rg 9 (.mov (.c (.b true)))])
 (.pre (.norm false [8, 9]) .ret))
 (.seq
 (.reg [rg 71 (.bin .eql (.t 11) (.c (.i .i64 9))), mv 70 71])
 (.cond (.t 70)
 (.seq
 (.drawT [rg 72 (.fad 0 (.t 4)), rg 73 (.load (some 1) (.t 72)), rg 74 (.ifc 1 (.t 73)), mv 75 3, rg 76 (.fad 1 (.t 5)), rg 77 (.load none (.t 76)),
 rg 78 (.iad 3 (.t 75) (.t 77)), rg 79 (.load (some 3) (.t 78)), mv 80 3, rg 81 (.fad 2 (.t 5)), rg 82 (.load none (.t 81)),
 rg 83 (.iad 3 (.t 80) (.t 82)), rg 84 (.load (some 3) (.t 83))]
 [rg 85 (.inv "Mul" 1 443 (.t 74) [(.t 79), (.t 84)]), so (.store 3 (.t 8) (.t 85)), rg 9 (.mov (.c (.b true)))])
 (.pre (.norm false [8, 9]) .ret))
 (.seq
 (.reg [rg 87 (.bin .eql (.t 11) (.c (.i .i64 10))), mv 86 87])
 (.cond (.t 86)
 (.seq
 (.drawT [rg 88 (.fad 0 (.t 4)), rg 89 (.load (some 1) (.t 88)), rg 90 (.ifc 1 (.t 89)), mv 91 3, rg 92 (.fad 1 (.t 5)), rg 93 (.load none (.t 92)),
 rg 94 (.iad 3 (.t 91) (.t 93)), rg 95 (.load (some 3) (.t 94)), mv 96 3, rg 97 (.fad 2 (.t 5)), rg 98 (.load none (.t 97)),
 rg 99 (.iad 3 (.t 96) (.t 98)), rg 100 (.load (some 3) (.t 99)), rg 101 (.inv "Quo" 1 447 (.t 90) [(.t 95), (.t 100)]), rg 102 (.ext (.t 101) 0),
 rg 103 (.ext (.t 101) 1)]
 [so (.store 3 (.t 8) (.t 102)), mv 9 103])
 (.pre (.norm false [8, 9]) .ret))
 .skip))))))))))))))
 (.seq
 (.reg [rg 104 (.load (some 1) (.t 4)), rg 105 (.load (some 6) (.t 5)), rg 106 (.load (some 5) (.t 6)), rg 107 (.call 431 [(.t 104), (.t 105), (.t 106)]),
 so (.store 3 (.t 8) (.t 107)), rg 9 (.mov (.c (.b true)))])
 (.pre (.norm false [8, 9]) .ret))))
def b431 : AX :=
 (.seq
 (.reg [rg 3 (.xop (.box 1) [(.t 0)]), rg 4 (.xop (.box 6) [(.t 1)]), rg 5 (.xop (.box 5) [(.t 2)]), rg 6 (.alloc [(.b false), (.sl [] .nl), (.sl [] .nl)])])
 (.seq
 (.seq
 (.reg [rg 7 (.fad 0 (.t 4)), rg 8 (.load none (.t 7))])
 (.block 0
 (.seq
 (.reg [rg 10 (.bin .eql (.t 8) (.c (.i .i64 1))), mv 9 10])
 (.cond (.t 9)
 (.seq
 (.reg [rg 11 (.fad 0 (.t 3)), rg 12 (.load (some 1) (.t 11)), rg 13 (.ifc 1 (.t 12)), rg 14 (.fad 3 (.t 4)), rg 15 (.load (some 3) (.t 14)),
 rg 16 (.inv "Of" 1 445 (.t 13) [(.t 15)]), so (.store 3 (.t 6) (.t 16))])
 (.pre (.norm false [6]) .ret))
 (.seq
 (.reg [rg 18 (.bin .eql (.t 8) (.c (.i .i64 3))), mv 17 18])
 (.cond (.t 17)
 (.seq
 (.reg [rg 19 (.fad 3 (.t 5)), rg 20 (.load none (.t 19)), rg 21 (.fad 1 (.t 4)), rg 22 (.load none (.t 21)), rg 23 (.iad 3 (.t 20) (.t 22)),
 rg 24 (.load (some 3) (.t 23)), so (.store 3 (.t 6) (.t 24))])
 (.pre (.norm false [6]) .ret))
 (.seq
 (.reg [rg 26 (.bin .eql (.t 8) (.c (.i .i64 4))), mv 25 26])
 (.cond (.t 25)
 (.seq
 (.reg [rg 27 (.fad 4 (.t 5)), rg 28 (.load none (.t 27)), rg 29 (.fad 1 (.t 4)), rg 30 (.load none (.t 29)), rg 31 (.iad 3 (.t 28) (.t 30)),
 rg 32 (.load (some 3) (.t 31)), so (.store 3 (.t 6) (.t 32))])
 (.pre (.norm false [6]) .ret))
 .skip))))))))
 (.seq
 (.reg [rg 33 (.fad 0 (.t 5)), rg 34 (.load (some 3) (.t 33)), so (.store 3 (.t 6) (.t 34))])
 (.pre (.norm false [6]) .ret))))
def b441 : AX :=
 (.seq
 (.reg [rg 3 (.xop (.box 1) [(.t 0)]), rg 4 (.xop (.box 3) [(.t 1)]), rg 5 (.xop (.box 3) [(.t 2)]), rg 6 (.alloc [(.b false), (.sl [] .nl), (.sl [] .nl)])])
 (.seq
 (.reg [rg 7 (.load (some 3) (.t 4)), rg 8 (.load (some 3) (.t 5)), rg 9 (.call 215 [(.t 7), (.t 8)]), so (.store 3 (.t 6) (.t 9))])
 (.pre (.norm false [6]) .ret)))
def b442 : AX :=
 (.seq
 (.reg [rg 2 (.xop (.box 1) [(.t 0)]), rg 3 (.xop (.box 3) [(.t 1)]), rg 4 (.mov (.c (.b false)))])
 (.seq
 (.reg [rg 5 (.fad 0 (.t 2)), rg 6 (.load none (.t 5)), rg 7 (.load (some 3) (.t 3)), rg 8 (.call 411 [(.t 6), (.t 7)]), mv 4 8])
 (.pre (.norm false [4]) .ret)))
def b443 : AX :=
 (.seq
 (.reg [rg 3 (.xop (.box 1) [(.t 0)]), rg 4 (.xop (.box 3) [(.t 1)]), rg 5 (.xop (.box 3) [(.t 2)]), rg 6 (.alloc [(.b false), (.sl [] .nl), (.sl [] .nl)])])
 (.seq
 (.reg [rg 7 (.load (some 3) (.t 4)), rg 8 (.load (some 3) (.t 5)), rg 9 (.call 217 [(.t 7), (.t 8)]), so (.store 3 (.t 6) (.t 9))])
 (.pre (.norm false [6]) .ret)))
def b444 : AX :=
 (.seq
 (.reg [rg 2 (.xop (.box 1) [(.t 0)]), rg 3 (.xop (.box 3) [(.t 1)]), rg 4 (.alloc [(.b false), (.sl [] .nl), (.sl [] .nl)])])
 (.seq
 (.reg [rg 5 (.load (some 3) (.t 3)), rg 6 (.call 213 [(.t 5)]), so (.store 3 (.t 4) (.t 6))])
 (.pre (.norm false [4]) .ret)))
def b445 : AX :=
 (.seq
 (.reg [rg 2 (.xop (.box 1) [(.t 0)]), rg 3 (.xop (.box 3) [(.t 1)]), rg 4 (.alloc [(.b false), (.sl [] .nl), (.sl [] .nl)])])
 (.seq
 (.reg [rg 5 (.load (some 3) (.t 3)), rg 6 (.call 207 [(.t 5)]), so (.store 3 (.t 4) (.t 6))])
 (.pre (.norm false [4]) .ret)))
def b446 : AX :=
 (.seq
 (.reg [rg 3 (.xop (.box 1) [(.t 0)]), rg 4 (.xop (.box 3) [(.t 1)]), rg 6 (.alloc [(.b false), (.sl [] .nl), (.sl [] .nl)]), rg 7 (.mov (.c (.b false)))])
 (.seq
 (.reg [rg 8 (.load (some 3) (.t 4)), mv 9 2, rg 10 (.call 220 [(.t 8), (.t 9)]), rg 11 (.ext (.t 10) 0), rg 12 (.ext (.t 10) 1), so (.store 3 (.t 6) (.t 11)),
 mv 7 12])
 (.pre (.norm false [6, 7]) .ret)))
def b447 : AX :=
 (.seq
 (.reg [rg 3 (.xop (.box 1) [(.t 0)]), rg 4 (.xop (.box 3) [(.t 1)]), rg 5 (.xop (.box 3) [(.t 2)]), rg 6 (.alloc [(.b false), (.sl [] .nl), (.sl [] .nl)]),
 rg 7 (.mov (.c (.b false)))])
 (.seq
 (.reg [rg 8 (.load (some 3) (.t 4)), rg 9 (.load (some 3) (.t 5)), rg 10 (.call 218 [(.t 8), (.t 9)]), rg 11 (.ext (.t 10) 0), rg 12 (.ext (.t 10) 1),
 so (.store 3 (.t 6) (.t 11)), mv 7 12])
 (.pre (.norm false [6, 7]) .ret)))
def b448 : AX :=
 (.seq
 (.reg [rg 3 (.xop (.box 1) [(.t 0)]), rg 4 (.xop (.box 3) [(.t 1)]), rg 5 (.xop (.box 3) [(.t 2)]), rg 6 (.alloc [(.b false), (.sl [] .nl), (.sl [] .nl)])])
 (.seq
 (.reg [rg 7 (.load (some 3) (.t 4)), rg 8 (.load (some 3) (.t 5)), rg 9 (.call 216 [(.t 7), (.t 8)]), so (.store 3 (.t 6) (.t 9))])
 (.pre (.norm false [6]) .ret)))
class CRun (T : Tbl) : Prop where
 h384 : T 384 = some ⟨3, 27, [.t 6, .cell 7 (some 4)], b384, none, false⟩
 h407 : T 407 = some ⟨3, 70, [.t 6, .cell 7 (some 4)], b407, (some [true, false, false]), false⟩
 h422 : T 422 = some ⟨4, 108, [.cell 8 (some 3), .t 9], b422, none, false⟩
 h431 : T 431 = some ⟨3, 35, [.cell 6 (some 3)], b431, none, false⟩
 h441 : T 441 = some ⟨3, 10, [.cell 6 (some 3)], b441, none, false⟩
 h442 : T 442 = some ⟨2, 9, [.t 4], b442, (some [true, false]), false⟩
 h443 : T 443 = some ⟨3, 10, [.cell 6 (some 3)], b443, none, false⟩
 h444 : T 444 = some ⟨2, 7, [.cell 4 (some 3)], b444, none, false⟩
 h445 : T 445 = some ⟨2, 7, [.cell 4 (some 3)], b445, none, false⟩
 h446 : T 446 = some ⟨3, 13, [.cell 6 (some 3), .t 7], b446, none, false⟩
 h447 : T 447 = some ⟨3, 13, [.cell 6 (some 3), .t 7], b447, none, false⟩
 h448 : T 448 = some ⟨3, 10, [.cell 6 (some 3)], b448, none, false⟩
section
variable {T : Tbl} [CRun T] {d : Option Nat} {st : St} {xs : List AV} {ps : List Opd} {e : Env} {h : Heap} {ol : List Heap}
@[simp] theorem x384 : callX (orc T) T 384 xs d st = cP T 384 false xs d st := callX_pure CRun.h384
theorem f384 (xs : List AV) (hn : xs.length = 3) : callF T 384 xs = retF [.t 6, .cell 7 (some 4)] false (evX (orc T) T 0 b384 ⟨argEnv xs, [], 1⟩) := callF_eq CRun.h384 hn
@[simp] theorem x407 : callX (orc T) T 407 xs d st = cL T 407 false [true, false, false] xs d st := callX_lent CRun.h407
theorem f407 (xs : List AV) (hb : Heap) (hn : xs.length = 3) : callH T 407 xs hb = retH [.t 6, .cell 7 (some 4)] false hb.length (evX (orc T) T hb.length b407 ⟨argEnv xs, hb, hb.length + 1⟩) := callH_eq CRun.h407 hn
@[simp] theorem x422 : callX (orc T) T 422 xs d st = cP T 422 false xs d st := callX_pure CRun.h422
theorem f422 (xs : List AV) (hn : xs.length = 4) : callF T 422 xs = retF [.cell 8 (some 3), .t 9] false (evX (orc T) T 0 b422 ⟨argEnv xs, [], 1⟩) := callF_eq CRun.h422 hn
@[simp] theorem x431 : callX (orc T) T 431 xs d st = cP T 431 false xs d st := callX_pure CRun.h431
theorem f431 (xs : List AV) (hn : xs.length = 3) : callF T 431 xs = retF [.cell 6 (some 3)] false (evX (orc T) T 0 b431 ⟨argEnv xs, [], 1⟩) := callF_eq CRun.h431 hn
@[simp] theorem x441 : callX (orc T) T 441 xs d st = cP T 441 false xs d st := callX_pure CRun.h441
theorem f441 (xs : List AV) (hn : xs.length = 3) : callF T 441 xs = retF [.cell 6 (some 3)] false (evX (orc T) T 0 b441 ⟨argEnv xs, [], 1⟩) := callF_eq CRun.h441 hn
@[simp] theorem x442 : callX (orc T) T 442 xs d st = cL T 442 false [true, false] xs d st := callX_lent CRun.h442
theorem f442 (xs : List AV) (hb : Heap) (hn : xs.length = 2) : callH T 442 xs hb = retH [.t 4] false hb.length (evX (orc T) T hb.length b442 ⟨argEnv xs, hb, hb.length + 1⟩) := callH_eq CRun.h442 hn
@[simp] theorem x443 : callX (orc T) T 443 xs d st = cP T 443 false xs d st := callX_pure CRun.h443
theorem f443 (xs : List AV) (hn : xs.length = 3) : callF T 443 xs = retF [.cell 6 (some 3)] false (evX (orc T) T 0 b443 ⟨argEnv xs, [], 1⟩) := callF_eq CRun.h443 hn
@[simp] theorem x444 : callX (orc T) T 444 xs d st = cP T 444 false xs d st := callX_pure CRun.h444
theorem f444 (xs : List AV) (hn : xs.length = 2) : callF T 444 xs = retF [.cell 4 (some 3)] false (evX (orc T) T 0 b444 ⟨argEnv xs, [], 1⟩) := callF_eq CRun.h444 hn
@[simp] theorem x445 : callX (orc T) T 445 xs d st = cP T 445 false xs d st := callX_pure CRun.h445
theorem f445 (xs : List AV) (hn : xs.length = 2) : callF T 445 xs = retF [.cell 4 (some 3)] false (evX (orc T) T 0 b445 ⟨argEnv xs, [], 1⟩) := callF_eq CRun.h445 hn
@[simp] theorem z446 (xs : List AV) : dI T 446 xs = dR (callF T 446 (xs.map (wkIf false))) xs := dI_eq CRun.h446
theorem f446 (xs : List AV) (hn : xs.length = 3) : callF T 446 xs = retF [.cell 6 (some 3), .t 7] false (evX (orc T) T 0 b446 ⟨argEnv xs, [], 1⟩) := callF_eq CRun.h446 hn
@[simp] theorem z447 (xs : List AV) : dI T 447 xs = dR (callF T 447 (xs.map (wkIf false))) xs := dI_eq CRun.h447
theorem f447 (xs : List AV) (hn : xs.length = 3) : callF T 447 xs = retF [.cell 6 (some 3), .t 7] false (evX (orc T) T 0 b447 ⟨argEnv xs, [], 1⟩) := callF_eq CRun.h447 hn
@[simp] theorem x448 : callX (orc T) T 448 xs d st = cP T 448 false xs d st := callX_pure CRun.h448
theorem f448 (xs : List AV) (hn : xs.length = 3) : callF T 448 xs = retF [.cell 6 (some 3)] false (evX (orc T) T 0 b448 ⟨argEnv xs, [], 1⟩) := callF_eq CRun.h448 hn
end
def meths1 : List RV := [.cell 1 (some 445), .cell 2 (some 444), .cell 3 (some 441), .cell 4 (some 448), .cell 5 (some 443), .cell 6 (some 447), .cell 7 (some 446), .cell 8 (some 442)]
class CIfc (T : Tbl) : Prop where
 h1 : ∃ t, T 1000001 = some ⟨t, 0, meths1, .bad, none, false⟩
section
variable {T : Tbl} [CIfc T]
theorem meths_1 (x : String × Nat) : x ∈ methsT T 1 ↔ x ∈ [("Of", 445), ("Neg", 444), ("Add", 441), ("Sub", 448), ("Mul", 443), ("Quo", 447), ("Pow", 446), ("Fits", 442)] := by
 obtain ⟨t, ht⟩ := CIfc.h1 (T := T)
 rw [meths_eq ht]
 rfl
@[simp] theorem m1_of : (("Of", 445) ∈ methsT T 1) = True := by simp [meths_1]
@[simp] theorem m1_neg : (("Neg", 444) ∈ methsT T 1) = True := by simp [meths_1]
@[simp] theorem m1_add : (("Add", 441) ∈ methsT T 1) = True := by simp [meths_1]
@[simp] theorem m1_sub : (("Sub", 448) ∈ methsT T 1) = True := by simp [meths_1]
@[simp] theorem m1_mul : (("Mul", 443) ∈ methsT T 1) = True := by simp [meths_1]
@[simp] theorem m1_quo : (("Quo", 447) ∈ methsT T 1) = True := by simp [meths_1]
@[simp] theorem m1_pow : (("Pow", 446) ∈ methsT T 1) = True := by simp [meths_1]
@[simp] theorem m1_fits : (("Fits", 442) ∈ methsT T 1) = True := by simp [meths_1]
end
def l379_0 : AX :=
 (.note
 (.seq
 (.seq
 (.reg [mv 8 7, rg 9 (.fad 0 (.t 3)), rg 10 (.load none (.t 9)), rg 11 (.len (.t 10)), rg 12 (.bin .lss (.t 8) (.t 11)), mv 13 12, gd 14 13 true (.mov (.t 7)),
 gd 15 13 true (.mov (.t 1)), gd 16 13 true (.bin .lss (.t 14) (.t 15)), rg 17 (.pick (.t 13) (.t 16) (.c (.b false)))])
 (.cond (.t 17)
 .skip
 (.exit 0)))
 (.seq
 (.block 1
 (.seq
 (.reg [rg 20 (.fad 0 (.t 3)), rg 21 (.load none (.t 20)), mv 22 7, rg 23 (.iad 6 (.t 21) (.t 22)), rg 24 (.fad 3 (.t 23)), rg 25 (.load (some 3) (.t 24)),
 mv 26 2, rg 27 (.call 247 [(.t 25), (.t 26)])])
 (.cond (.t 27)
 (.seq
 (.reg [rg 6 (.mov (.c (.b true)))])
 (.pre (.norm false [6]) .ret))
 .skip)))
 (.reg [mv 18 7, rg 19 (.bin .add (.t 18) (.c (.i .i64 1))), mv 7 19])))
 (.norm false [1, 2, 3, 7]))
def b379 : AX :=
 (.seq
 (.reg [rg 3 (.xop (.box 4) [(.t 0)]), rg 6 (.mov (.c (.b false)))])
 (.seq
 (.seq
 (.reg [rg 7 (.mov (.c (.i .i64 0)))])
 (.lp 0 (.norm false [1, 2, 3, 7]) l379_0 (.norm false [1, 3])))
 (.seq
 (.reg [rg 28 (.fad 0 (.t 3)), rg 29 (.load none (.t 28)), rg 30 (.len (.t 29)), mv 31 1, rg 32 (.bin .gtr (.t 30) (.t 31)), mv 33 32,
 gd 34 33 false (.fad 1 (.t 3)), gd 35 33 false (.load none (.t 34)), gd 36 33 false (.len (.t 35)), gd 37 33 false (.mov (.t 1)),
 gd 38 33 false (.bin .gtr (.t 36) (.t 37)), rg 39 (.pick (.t 33) (.c (.b true)) (.t 38)), mv 6 39])
 (.pre (.norm false [6]) .ret))))
def b380 : AX :=
 (.seq
 (.reg [rg 3 (.xop (.box 5) [(.t 0)]), rg 6 (.mov (.c (.b false)))])
 (.seq
 (.reg [rg 7 (.fad 0 (.t 3)), rg 8 (.load (some 3) (.t 7)), mv 9 2, rg 10 (.call 247 [(.t 8), (.t 9)]), mv 11 10, gd 12 11 false (.fad 3 (.t 3)),
 gd 13 11 false (.load none (.t 12)), gd 14 11 false (.mov (.t 1)), gd 15 11 false (.mov (.t 2)), gd 16 11 false (.call 286 [(.t 13), (.t 14), (.t 15)]),
 rg 17 (.pick (.t 11) (.c (.b true)) (.t 16)), mv 18 17, gd 19 18 false (.fad 4 (.t 3)), gd 20 18 false (.load none (.t 19)),
 gd 21 18 false (.mov (.t 1)), gd 22 18 false (.mov (.t 2)), gd 23 18 false (.call 286 [(.t 20), (.t 21), (.t 22)]),
 rg 24 (.pick (.t 18) (.c (.b true)) (.t 23)), mv 6 24])
 (.pre (.norm false [6]) .ret)))
def l382_0 : AX :=
 (.note
 (.seq
 (.seq
 (.reg [mv 15 4, rg 16 (.fad 0 (.t 1)), rg 17 (.load none (.t 16)), rg 18 (.len (.t 17)), rg 19 (.bin .lss (.t 15) (.t 18))])
 (.cond (.t 19)
 .skip
 (.exit 0)))
 (.seq
 (.block 1
 (.seq
 (.reg [rg 22 (.fad 0 (.t 1)), rg 23 (.load none (.t 22)), mv 24 4, rg 25 (.iad 6 (.t 23) (.t 24)), rg 26 (.load (some 6) (.t 25)),
 rg 5 (.alloc [(.i .i64 0), (.i .i64 0), (.i .i64 0), (.b false), (.sl [] .nl), (.sl [] .nl)]), so (.store 6 (.t 5) (.t 26))])
 (.drawT [rg 27 (.fad 0 (.t 3)), rg 28 (.load none (.t 27)), rg 29 (.fad 0 (.t 5)), rg 30 (.load none (.t 29)), rg 31 (.fad 1 (.t 5)), rg 32 (.load none (.t 31)),
 rg 33 (.fad 2 (.t 5)), rg 34 (.load none (.t 33)), rg 35 (.fad 3 (.t 5)), rg 36 (.load (some 3) (.t 35)), rg 37 (.call 248 [(.t 36)]),
 rg 38 (.build [(.i .i64 0), (.i .i64 0), (.i .i64 0), (.b false), (.sl [] .nl), (.sl [] .nl)] [(0, 1, (.t 30)), (1, 1, (.t 32)), (2, 1, (.t 34)), (3, 3, (.t 37))]),
 rg 39 (.bsl 6 [(.i .i64 0), (.i .i64 0), (.i .i64 0), (.b false), (.sl [] .nl), (.sl [] .nl)] 1 [(0, (.t 38))])]
 [rg 40 (.app 6 (.t 28) (.t 39)), rg 41 (.fad 0 (.t 3)), so (.store 1 (.t 41) (.t 40))])))
 (.reg [mv 20 4, rg 21 (.bin .add (.t 20) (.c (.i .i64 1))), mv 4 21])))
 (.norm false [1, 2, 3, 4]))
def b382 : AX :=
 (.seq
 (.reg [rg 1 (.xop (.box 4) [(.t 0)]), rg 2 (.alloc [(.sl [] .nl), (.sl [] .nl), (.i .i64 0), (.i .i64 0)])])
 (.seq
 (.drawM [rg 6 (.fad 2 (.t 1)), rg 7 (.load none (.t 6)), rg 8 (.fad 3 (.t 1)), rg 9 (.load none (.t 8)), rg 10 (.bsl 1 [(.i .i64 0)] 0 []), rg 11 (.fad 1 (.t 1)),
 rg 12 (.load none (.t 11)), rg 13 (.app 1 (.t 10) (.t 12)),
 rg 14 (.build [(.sl [] .nl), (.sl [] .nl), (.i .i64 0), (.i .i64 0)] [(2, 1, (.t 7)), (3, 1, (.t 9)), (1, 1, (.t 13))]),
 rg 3 (.alloc [(.sl [] .nl), (.sl [] .nl), (.i .i64 0), (.i .i64 0)])]
 [so (.store 4 (.t 3) (.t 14))])
 (.seq
 (.seq
 (.reg [rg 4 (.mov (.c (.i .i64 0)))])
 (.pre (.fld 3 0 0 6) (.lp 0 (.norm false [1, 2, 3, 4]) l382_0 (.norm false [2, 3]))))
 (.seq
 (.reg [rg 42 (.load (some 4) (.t 3)), so (.store 4 (.t 2) (.t 42))])
 (.pre (.norm false [2]) .ret)))))
def b383 : AX :=
 (.seq
 (.reg [rg 1 (.xop (.box 5) [(.t 0)]), rg 2 (.alloc [(.b false), (.sl [] .nl), (.sl [] .nl), (.sl [] .nl), (.sl [] .nl)])])
 (.seq
 (.drawT [rg 3 (.fad 0 (.t 1)), rg 4 (.load (some 3) (.t 3)), rg 5 (.call 248 [(.t 4)]), rg 6 (.fad 3 (.t 1)), rg 7 (.load none (.t 6)), rg 8 (.call 287 [(.t 7)]),
 rg 9 (.fad 4 (.t 1)), rg 10 (.load none (.t 9))]
 [rg 11 (.call 287 [(.t 10)]),
 rg 12 (.build [(.b false), (.sl [] .nl), (.sl [] .nl), (.sl [] .nl), (.sl [] .nl)] [(0, 3, (.t 5)), (3, 1, (.t 8)), (4, 1, (.t 11))]),
 so (.store 5 (.t 2) (.t 12))])
 (.pre (.norm false [2]) .ret)))
class CLaw24 (T : Tbl) : Prop where
 h379 : T 379 = some ⟨3, 40, [.t 6], b379, none, false⟩
 h380 : T 380 = some ⟨3, 25, [.t 6], b380, none, false⟩
 h382 : T 382 = some ⟨1, 43, [.cell 2 (some 4)], b382, none, false⟩
 h383 : T 383 = some ⟨1, 13, [.cell 2 (some 5)], b383, none, false⟩
section
variable {T : Tbl} [CLaw24 T] {d : Option Nat} {st : St} {xs : List AV} {ps : List Opd} {e : Env} {h : Heap} {ol : List Heap}
@[simp] theorem x379 : callX (orc T) T 379 xs d st = cP T 379 false xs d st := callX_pure CLaw24.h379
theorem f379 (xs : List AV) (hn : xs.length = 3) : callF T 379 xs = retF [.t 6] false (evX (orc T) T 0 b379 ⟨argEnv xs, [], 1⟩) := callF_eq CLaw24.h379 hn
@[simp] theorem x380 : callX (orc T) T 380 xs d st = cP T 380 false xs d st := callX_pure CLaw24.h380
theorem f380 (xs : List AV) (hn : xs.length = 3) : callF T 380 xs = retF [.t 6] false (evX (orc T) T 0 b380 ⟨argEnv xs, [], 1⟩) := callF_eq CLaw24.h380 hn
@[simp] theorem x382 : callX (orc T) T 382 xs d st = cP T 382 false xs d st := callX_pure CLaw24.h382
theorem f382 (xs : List AV) (hn : xs.length = 1) : callF T 382 xs = retF [.cell 2 (some 4)] false (evX (orc T) T 0 b382 ⟨argEnv xs, [], 1⟩) := callF_eq CLaw24.h382 hn
@[simp] theorem x383 : callX (orc T) T 383 xs d st = cP T 383 false xs d st := callX_pure CLaw24.h383
theorem f383 (xs : List AV) (hn : xs.length = 1) : callF T 383 xs = retF [.cell 2 (some 5)] false (evX (orc T) T 0 b383 ⟨argEnv xs, [], 1⟩) := callF_eq CLaw24.h383 hn
end
def b391 : AX :=
 (.seq
 (.reg [rg 2 (.xop (.box 5) [(.t 0)]), rg 3 (.xop (.box 5) [(.t 1)]), rg 4 (.alloc [(.b false), (.sl [] .nl), (.sl [] .nl), (.sl [] .nl), (.sl [] .nl)]),
 rg 5 (.mov (.c (.b false)))])
 (.seq
 (.reg [rg 11 (.fad 3 (.t 2)), rg 12 (.load none (.t 11)), rg 13 (.fad 3 (.t 3)), rg 14 (.load none (.t 13)),
 rg 15 (.bsl 1 [(.sl [] .nl)] 2 [(0, (.t 12)), (1, (.t 14))]), rg 16 (.call 267 [(.t 15)]), mv 10 16, rg 17 (.ext (.t 10) 0), rg 18 (.ext (.t 10) 1),
 mv 6 17, mv 7 18])
 (.seq
 (.reg [rg 20 (.fad 4 (.t 2)), rg 21 (.load none (.t 20)), rg 22 (.fad 4 (.t 3)), rg 23 (.load none (.t 22)),
 rg 24 (.bsl 1 [(.sl [] .nl)] 2 [(0, (.t 21)), (1, (.t 23))]), rg 25 (.call 267 [(.t 24)]), mv 19 25, rg 26 (.ext (.t 19) 0), rg 27 (.ext (.t 19) 1),
 mv 8 26, mv 9 27])
 (.seq
 (.seq
 (.reg [mv 28 7, rg 29 (.un .not (.t 28)), mv 30 29, gd 31 30 false (.mov (.t 9)), gd 32 30 false (.un .not (.t 31)),
 rg 33 (.pick (.t 30) (.c (.b true)) (.t 32))])
 (.cond (.t 33)
 (.seq
 (.reg [rg 34 (.call 395 [(.c (.i .i64 0)), (.c (.i .i64 0))]), so (.store 5 (.t 4) (.t 34)), rg 5 (.mov (.c (.b false)))])
 (.pre (.norm false [4, 5]) .ret))
 .skip))
 (.seq
 (.reg [rg 35 (.fad 0 (.t 2)), rg 36 (.load (some 3) (.t 35)), rg 37 (.fad 0 (.t 3)), rg 38 (.load (some 3) (.t 37)), rg 39 (.call 215 [(.t 36), (.t 38)]),
 mv 40 6, mv 41 8,
 rg 42 (.build [(.b false), (.sl [] .nl), (.sl [] .nl), (.sl [] .nl), (.sl [] .nl)] [(0, 3, (.t 39)), (3, 1, (.t 40)), (4, 1, (.t 41))]),
 so (.store 5 (.t 4) (.t 42)), rg 5 (.mov (.c (.b true)))])
 (.pre (.norm false [4, 5]) .ret))))))
def b395 : AX :=
 (.seq
 (.reg [rg 4 (.alloc [(.b false), (.sl [] .nl), (.sl [] .nl), (.sl [] .nl), (.sl [] .nl)])])
 (.seq
 (.reg [rg 5 (.call 205 [(.c (.i .i64 0))]), mv 6 0, rg 7 (.call 263 [(.t 6)]), mv 8 1, rg 9 (.call 263 [(.t 8)]),
 rg 10 (.build [(.b false), (.sl [] .nl), (.sl [] .nl), (.sl [] .nl), (.sl [] .nl)] [(0, 3, (.t 5)), (3, 1, (.t 7)), (4, 1, (.t 9))]),
 so (.store 5 (.t 4) (.t 10))])
 (.pre (.norm false [4]) .ret)))
def l397_0 : AX :=
 (.note
 (.seq
 (.reg [rg 57 (.bin .lss (.t 56) (.t 55))])
 (.seq
 (.cond (.t 57)
 .skip
 (.exit 0))
 (.seq
 (.block 1
 (.seq
 (.reg [mv 58 56, rg 59 (.iad 1 (.t 54) (.t 56)), rg 60 (.load none (.t 59)), mv 14 58, mv 15 60])
 (.reg [mv 61 13, mv 62 15, mv 63 2, mv 64 14, rg 65 (.iad 3 (.t 63) (.t 64)), rg 66 (.load (some 3) (.t 65)), rg 67 (.call 410 [(.t 61), (.t 62), (.t 66)])])))
 (.reg [rg 68 (.bin .add (.t 56) (.c (.i .i64 1))), mv 56 68]))))
 (.norm false [2, 3, 8, 9, 10, 11, 13, 54, 55, 56]))
def l397_1 : AX :=
 (.note
 (.seq
 (.seq
 (.reg [mv 74 17, rg 75 (.bin .geq (.t 74) (.c (.i .i64 0)))])
 (.cond (.t 75)
 .skip
 (.exit 2)))
 (.seq
 (.block 3
 (.seq
 (.seq
 (.reg [mv 78 16, mv 79 13, rg 80 (.nilc (.t 79)), rg 81 (.fad 5 (.t 80)), rg 82 (.load none (.t 81)), mv 83 17, rg 84 (.iad 3 (.t 82) (.t 83)),
 rg 85 (.load (some 3) (.t 84)), rg 86 (.call 207 [(.t 85)]), rg 87 (.call 411 [(.t 78), (.t 86)]), rg 88 (.un .not (.t 87))])
 (.cond (.t 88)
 (.seq
 (.reg [rg 89 (.load (some 5) (.t 10)), mv 90 17,
 rg 91 (.build [(.i .i64 0), (.i .i64 0), (.i .i64 0), (.i .i64 0)] [(0, 1, (.c (.i .i64 6))), (2, 1, (.c (.i .i64 2))), (3, 1, (.t 90))]),
 so (.store 5 (.t 8) (.t 89)), so (.store 4 (.t 9) (.t 91))])
 (.pre (.norm false [8, 9]) .ret))
 .skip))
 (.reg [mv 92 13, mv 93 17, rg 94 (.call 412 [(.t 92), (.t 93)])])))
 (.reg [mv 76 17, rg 77 (.bin .sub (.t 76) (.c (.i .i64 1))), mv 17 77])))
 (.norm false [8, 9, 10, 13, 16, 17]))
def b397 : AX :=
 (.seq
 (.reg [rg 4 (.xop (.box 4) [(.t 0)]), rg 5 (.xop (.box 5) [(.t 1)]), rg 8 (.alloc [(.b false), (.sl [] .nl), (.sl [] .nl), (.sl [] .nl), (.sl [] .nl)]),
 rg 9 (.alloc [(.i .i64 0), (.i .i64 0), (.i .i64 0), (.i .i64 0)])])
 (.seq
 (.reg [rg 20 (.call 2395 [(.c (.i .i64 0)), (.c (.i .i64 0))]), rg 10 (.alloc [(.b false), (.sl [] .nl), (.sl [] .nl), (.sl [] .nl), (.sl [] .nl)]),
 so (.store 5 (.t 10) (.t 20))])
 (.seq
 (.seq
 (.reg [mv 21 2, rg 22 (.len (.t 21)), rg 23 (.fad 1 (.t 4)), rg 24 (.load none (.t 23)), rg 25 (.len (.t 24)), rg 26 (.bin .neq (.t 22) (.t 25))])
 (.cond (.t 26)
 (.seq
 (.reg [rg 27 (.load (some 5) (.t 10)), rg 28 (.build [(.i .i64 0), (.i .i64 0), (.i .i64 0), (.i .i64 0)] [(0, 1, (.c (.i .i64 2)))]),
 so (.store 5 (.t 8) (.t 27)), so (.store 4 (.t 9) (.t 28))])
 (.pre (.norm false [8, 9]) .ret))
 .skip))
 (.seq
 (.reg [rg 30 (.load (some 4) (.t 4)), rg 31 (.load (some 5) (.t 5)), mv 32 3, rg 33 (.call 384 [(.t 30), (.t 31), (.t 32)]), mv 29 33, rg 34 (.ext (.t 29) 0),
 rg 35 (.ext (.t 29) 1), rg 12 (.alloc [(.i .i64 0), (.i .i64 0), (.i .i64 0), (.i .i64 0)]), mv 11 34, so (.store 4 (.t 12) (.t 35))])
 (.seq
 (.seq
 (.reg [rg 36 (.load (some 4) (.t 12)), rg 37 (.build [(.i .i64 0), (.i .i64 0), (.i .i64 0), (.i .i64 0)] []),
 rg 38 (.eqs true [(0, .int), (1, .int), (2, .int), (3, .int)] (.t 36) (.t 37))])
 (.cond (.t 38)
 (.seq
 (.draw [⟨rg 39 (.load (some 5) (.t 10)), 0, 0⟩, ⟨rg 40 (.load (some 4) (.t 12)), 0, 1⟩, ⟨so (.store 5 (.t 8) (.t 39)), 0, 1⟩,
 ⟨so (.store 4 (.t 9) (.t 40)), 1, 2⟩])
 (.pre (.norm false [8, 9]) .ret))
 .skip))
 (.seq
 (.drawM [rg 41 (.load (some 4) (.t 4)), mv 42 11, mv 43 11, rg 44 (.len (.t 43)), rg 45 (.mks 3 [(.b false), (.sl [] .nl), (.sl [] .nl)] (.t 44) (.t 44)),
 rg 46 (.fad 2 (.t 4)), rg 47 (.load none (.t 46)), rg 48 (.fad 3 (.t 4)), rg 49 (.load none (.t 48)), rg 50 (.call 2395 [(.t 47), (.t 49)])]
 [rg 51 (.build [(.sl [] .nl), (.sl [] .nl), (.i .i64 0), (.i .i64 0), (.sl [] .nl), (.sl [] .nl), (.b false), (.sl [] .nl), (.sl [] .nl), (.sl [] .nl), (.sl [] .nl)] [(0, 4, (.t 41)), (4, 1, (.t 42)), (5, 1, (.t 45)), (6, 5, (.t 50))]),
 rg 52 (.xop (.box 11) [(.t 51)]), mv 13 52])
 (.seq
 (.seq
 (.reg [rg 53 (.fad 1 (.t 4)), rg 54 (.load none (.t 53)), rg 55 (.len (.t 54)), rg 56 (.mov (.c (.i .i64 0)))])
 (.lp 0 (.norm false [2, 3, 8, 9, 10, 11, 13, 54, 55, 56]) l397_0 (.norm false [3, 8, 9, 10, 11, 13])))
 (.seq
 (.reg [mv 69 3, rg 70 (.call 406 [(.t 69)]), mv 16 70])
 (.seq
 (.seq
 (.reg [mv 71 11, rg 72 (.len (.t 71)), rg 73 (.bin .sub (.t 72) (.c (.i .i64 1))), mv 17 73])
 (.lp 2 (.norm false [8, 9, 10, 13, 16, 17]) l397_1 (.norm false [8, 9, 10, 13, 16])))
 (.seq
 (.seq
 (.reg [mv 96 16, mv 97 13, rg 98 (.nilc (.t 97)), rg 99 (.fad 6 (.t 98)), rg 100 (.load (some 5) (.t 99)), rg 101 (.call 414 [(.t 100)]),
 rg 102 (.call 413 [(.t 96), (.t 101)]), mv 95 102, rg 103 (.ext (.t 95) 0), rg 104 (.ext (.t 95) 1), mv 18 103, mv 19 104])
 (.seq
 (.reg [mv 105 19, rg 106 (.un .not (.t 105))])
 (.cond (.t 106)
 (.seq
 (.reg [rg 107 (.load (some 5) (.t 10)), mv 108 18,
 rg 109 (.build [(.i .i64 0), (.i .i64 0), (.i .i64 0), (.i .i64 0)] [(0, 1, (.c (.i .i64 6))), (2, 1, (.c (.i .i64 3))), (3, 1, (.t 108))]),
 so (.store 5 (.t 8) (.t 107)), so (.store 4 (.t 9) (.t 109))])
 (.pre (.norm false [8, 9]) .ret))
 .skip)))
 (.seq
 (.reg [mv 110 13, rg 111 (.nilc (.t 110)), rg 112 (.fad 6 (.t 111)), rg 113 (.load (some 5) (.t 112)),
 rg 114 (.build [(.i .i64 0), (.i .i64 0), (.i .i64 0), (.i .i64 0)] []), so (.store 5 (.t 8) (.t 113)), so (.store 4 (.t 9) (.t 114))])
 (.pre (.norm false [8, 9]) .ret))))))))))))
def b410 : AX :=
 (.seq
 (.reg [rg 5 (.xop (.box 3) [(.t 2)])])
 (.drawT [mv 6 0, rg 7 (.nilc (.t 6)), rg 8 (.fad 5 (.t 7)), rg 9 (.load none (.t 8)), mv 10 1, mv 11 0, rg 12 (.nilc (.t 11)), rg 13 (.fad 5 (.t 12)),
 rg 14 (.load none (.t 13)), mv 15 1, rg 16 (.iad 3 (.t 14) (.t 15)), rg 17 (.load (some 3) (.t 16)), rg 18 (.load (some 3) (.t 5)),
 rg 19 (.call 215 [(.t 17), (.t 18)])]
 [rg 20 (.iad 3 (.t 9) (.t 10)), so (.store 3 (.t 20) (.t 19))]))
def b412 : AX :=
 (.seq
 (.drawM [mv 6 0, rg 7 (.nilc (.t 6)), rg 8 (.fad 0 (.t 7)), rg 9 (.fad 0 (.t 8)), rg 10 (.load none (.t 9)), mv 11 1, rg 12 (.iad 6 (.t 10) (.t 11)),
 rg 13 (.load (some 6) (.t 12)), mv 14 0, rg 15 (.nilc (.t 14)), rg 16 (.fad 5 (.t 15)), rg 17 (.load none (.t 16)), mv 18 1,
 rg 19 (.iad 3 (.t 17) (.t 18)), rg 20 (.load (some 3) (.t 19)),
 rg 4 (.alloc [(.i .i64 0), (.i .i64 0), (.i .i64 0), (.b false), (.sl [] .nl), (.sl [] .nl)]), rg 5 (.alloc [(.b false), (.sl [] .nl), (.sl [] .nl)]),
 so (.store 6 (.t 4) (.t 13))]
 [so (.store 3 (.t 5) (.t 20))])
 (.seq
 (.seq
 (.reg [rg 21 (.load (some 3) (.t 5)), rg 22 (.call 209 [(.t 21)]), rg 23 (.bin .eql (.t 22) (.c (.i .i64 0)))])
 (.cond (.t 23)
 (.pre (.norm false []) .ret)
 .skip))
 (.seq
 (.reg [rg 24 (.fad 0 (.t 4)), rg 25 (.load none (.t 24))])
 (.block 0
 (.seq
 (.reg [rg 27 (.bin .eql (.t 25) (.c (.i .i64 2))), mv 26 27])
 (.cond (.t 26)
 (.drawT [mv 28 0, mv 29 0, rg 30 (.nilc (.t 29)), rg 31 (.fad 6 (.t 30)), rg 32 (.fad 0 (.t 31)), rg 33 (.load (some 3) (.t 32)), rg 34 (.load (some 3) (.t 5)),
 rg 35 (.call 215 [(.t 33), (.t 34)])]
 [rg 36 (.nilc (.t 28)), rg 37 (.fad 6 (.t 36)), rg 38 (.fad 0 (.t 37)), so (.store 3 (.t 38) (.t 35))])
 (.seq
 (.reg [rg 40 (.bin .eql (.t 25) (.c (.i .i64 3))), mv 39 40])
 (.cond (.t 39)
 (.drawT [mv 41 0, rg 42 (.nilc (.t 41)), rg 43 (.fad 6 (.t 42)), rg 44 (.fad 3 (.t 43)), rg 45 (.load none (.t 44)), rg 46 (.fad 1 (.t 4)),
 rg 47 (.load none (.t 46)), mv 48 0, rg 49 (.nilc (.t 48)), rg 50 (.fad 6 (.t 49)), rg 51 (.fad 3 (.t 50)), rg 52 (.load none (.t 51)),
 rg 53 (.fad 1 (.t 4)), rg 54 (.load none (.t 53)), rg 55 (.iad 3 (.t 52) (.t 54)), rg 56 (.load (some 3) (.t 55)), rg 57 (.load (some 3) (.t 5)),
 rg 58 (.call 215 [(.t 56), (.t 57)])]
 [rg 59 (.iad 3 (.t 45) (.t 47)), so (.store 3 (.t 59) (.t 58))])
 (.seq
 (.reg [rg 61 (.bin .eql (.t 25) (.c (.i .i64 4))), mv 60 61])
 (.cond (.t 60)
 (.drawT [mv 62 0, rg 63 (.nilc (.t 62)), rg 64 (.fad 6 (.t 63)), rg 65 (.fad 4 (.t 64)), rg 66 (.load none (.t 65)), rg 67 (.fad 1 (.t 4)),
 rg 68 (.load none (.t 67)), mv 69 0, rg 70 (.nilc (.t 69)), rg 71 (.fad 6 (.t 70)), rg 72 (.fad 4 (.t 71)), rg 73 (.load none (.t 72)),
 rg 74 (.fad 1 (.t 4)), rg 75 (.load none (.t 74)), rg 76 (.iad 3 (.t 73) (.t 75)), rg 77 (.load (some 3) (.t 76)), rg 78 (.load (some 3) (.t 5)),
 rg 79 (.call 215 [(.t 77), (.t 78)])]
 [rg 80 (.iad 3 (.t 66) (.t 68)), so (.store 3 (.t 80) (.t 79))])
 (.seq
 (.reg [rg 82 (.bin .eql (.t 25) (.c (.i .i64 6))), mv 81 82])
 (.cond (.t 81)
 (.drawT [mv 83 0, rg 84 (.fad 1 (.t 4)), rg 85 (.load none (.t 84)), rg 86 (.load (some 3) (.t 5)), rg 87 (.call 213 [(.t 86)])]
 [rg 88 (.call 410 [(.t 83), (.t 85), (.t 87)])])
 (.seq
 (.reg [rg 90 (.bin .eql (.t 25) (.c (.i .i64 7))), mv 89 90])
 (.cond (.t 89)
 (.seq
 (.reg [mv 91 0, rg 92 (.fad 1 (.t 4)), rg 93 (.load none (.t 92)), rg 94 (.load (some 3) (.t 5)), rg 95 (.call 410 [(.t 91), (.t 93), (.t 94)])])
 (.reg [mv 96 0, rg 97 (.fad 2 (.t 4)), rg 98 (.load none (.t 97)), rg 99 (.load (some 3) (.t 5)), rg 100 (.call 410 [(.t 96), (.t 98), (.t 99)])]))
 (.seq
 (.reg [rg 102 (.bin .eql (.t 25) (.c (.i .i64 8))), mv 101 102])
 (.cond (.t 101)
 (.seq
 (.reg [mv 103 0, rg 104 (.fad 1 (.t 4)), rg 105 (.load none (.t 104)), rg 106 (.load (some 3) (.t 5)), rg 107 (.call 410 [(.t 103), (.t 105), (.t 106)])])
 (.drawT [mv 108 0, rg 109 (.fad 2 (.t 4)), rg 110 (.load none (.t 109)), rg 111 (.load (some 3) (.t 5)), rg 112 (.call 213 [(.t 111)])]
 [rg 113 (.call 410 [(.t 108), (.t 110), (.t 112)])]))
 (.seq
 (.reg [rg 115 (.bin .eql (.t 25) (.c (.i .i64 9))), mv 114 115])
 (.cond (.t 114)
 (.seq
 (.drawT [mv 116 0, rg 117 (.fad 1 (.t 4)), rg 118 (.load none (.t 117)), rg 119 (.load (some 3) (.t 5)), mv 120 0, rg 121 (.nilc (.t 120)),
 rg 122 (.fad 4 (.t 121)), rg 123 (.load none (.t 122)), rg 124 (.fad 2 (.t 4)), rg 125 (.load none (.t 124)), rg 126 (.iad 3 (.t 123) (.t 125)),
 rg 127 (.load (some 3) (.t 126)), rg 128 (.call 217 [(.t 119), (.t 127)])]
 [rg 129 (.call 410 [(.t 116), (.t 118), (.t 128)])])
 (.drawT [mv 130 0, rg 131 (.fad 2 (.t 4)), rg 132 (.load none (.t 131)), rg 133 (.load (some 3) (.t 5)), mv 134 0, rg 135 (.nilc (.t 134)),
 rg 136 (.fad 4 (.t 135)), rg 137 (.load none (.t 136)), rg 138 (.fad 1 (.t 4)), rg 139 (.load none (.t 138)), rg 140 (.iad 3 (.t 137) (.t 139)),
 rg 141 (.load (some 3) (.t 140)), rg 142 (.call 217 [(.t 133), (.t 141)])]
 [rg 143 (.call 410 [(.t 130), (.t 132), (.t 142)])]))
 (.seq
 (.reg [rg 145 (.bin .eql (.t 25) (.c (.i .i64 10))), mv 144 145])
 (.cond (.t 144)
 (.drawT [mv 146 0, rg 147 (.load (some 6) (.t 4)), rg 148 (.load (some 3) (.t 5)), mv 149 0, rg 150 (.nilc (.t 149)), rg 151 (.fad 4 (.t 150)),
 rg 152 (.load none (.t 151)), mv 153 1, rg 154 (.iad 3 (.t 152) (.t 153)), rg 155 (.load (some 3) (.t 154))]
 [rg 156 (.call 427 [(.t 146), (.t 147), (.t 148), (.t 155)])])
 (.seq
 (.reg [rg 158 (.bin .eql (.t 25) (.c (.i .i64 11))), mv 157 158])
 (.cond (.t 157)
 (.drawT [mv 159 0, rg 160 (.load (some 6) (.t 4)), rg 161 (.load (some 3) (.t 5)), mv 162 0, rg 163 (.nilc (.t 162)), rg 164 (.fad 4 (.t 163)),
 rg 165 (.load none (.t 164)), mv 166 1, rg 167 (.iad 3 (.t 165) (.t 166)), rg 168 (.load (some 3) (.t 167))]
 [rg 169 (.call 428 [(.t 159), (.t 160), (.t 161), (.t 168)])])
 .skip))))))))))))))))))))))
def b414 : AX :=
 (.seq
 (.reg [rg 1 (.xop (.box 5) [(.t 0)]), rg 2 (.mov (.c (.sl [] .nl)))])
 (.seq
 (.reg [rg 4 (.fad 0 (.t 1)), rg 5 (.load (some 3) (.t 4)), rg 6 (.bsl 3 [(.b false), (.sl [] .nl), (.sl [] .nl)] 1 [(0, (.t 5))]), rg 7 (.fad 3 (.t 1)),
 rg 8 (.load none (.t 7)), rg 9 (.app 3 (.t 6) (.t 8)), mv 3 9])
 (.seq
 (.reg [mv 10 3, rg 11 (.fad 4 (.t 1)), rg 12 (.load none (.t 11)), rg 13 (.app 3 (.t 10) (.t 12)), mv 2 13])
 (.pre (.norm false [2]) .ret))))
def b427 : AX :=
 (.seq
 (.reg [rg 5 (.xop (.box 6) [(.t 1)]), rg 6 (.xop (.box 3) [(.t 2)]), rg 7 (.xop (.box 3) [(.t 3)])])
 (.seq
 (.draw [⟨rg 11 (.load (some 3) (.t 6)), 0, 1⟩, ⟨mv 12 0, 0, 1⟩, ⟨rg 13 (.nilc (.t 12)), 0, 1⟩, ⟨rg 14 (.fad 4 (.t 13)), 0, 1⟩,
 ⟨rg 15 (.load none (.t 14)), 0, 1⟩, ⟨rg 16 (.fad 2 (.t 5)), 0, 1⟩, ⟨rg 17 (.load none (.t 16)), 0, 1⟩, ⟨rg 18 (.iad 3 (.t 15) (.t 17)), 0, 1⟩,
 ⟨rg 19 (.load (some 3) (.t 18)), 0, 1⟩, ⟨rg 20 (.call 218 [(.t 11), (.t 19)]), 0, 1⟩, ⟨mv 10 20, 0, 1⟩, ⟨rg 21 (.ext (.t 10) 0), 0, 1⟩,
 ⟨rg 22 (.ext (.t 10) 1), 0, 2⟩, ⟨rg 8 (.alloc [(.b false), (.sl [] .nl), (.sl [] .nl)]), 0, 1⟩, ⟨so (.store 3 (.t 8) (.t 21)), 1, 2⟩, ⟨mv 9 22, 2, 2⟩])
 (.seq
 (.reg [mv 23 0, rg 24 (.fad 1 (.t 5)), rg 25 (.load none (.t 24)), rg 26 (.load (some 3) (.t 8)), rg 27 (.call 410 [(.t 23), (.t 25), (.t 26)])])
 (.drawT [mv 28 0, rg 29 (.fad 2 (.t 5)), rg 30 (.load none (.t 29)), rg 31 (.load (some 3) (.t 8)), rg 32 (.load (some 3) (.t 7)),
 rg 33 (.call 217 [(.t 31), (.t 32)]), rg 34 (.call 213 [(.t 33)])]
 [rg 35 (.call 410 [(.t 28), (.t 30), (.t 34)])]))))
def b428 : AX :=
 (.seq
 (.reg [rg 5 (.xop (.box 6) [(.t 1)]), rg 6 (.xop (.box 3) [(.t 2)]), rg 7 (.xop (.box 3) [(.t 3)])])
 (.seq
 (.reg [rg 9 (.call 205 [(.c (.i .i64 0))]), rg 8 (.alloc [(.b false), (.sl [] .nl), (.sl [] .nl)]), so (.store 3 (.t 8) (.t 9))])
 (.seq
 (.block 0
 (.seq
 (.reg [rg 11 (.fad 2 (.t 5)), rg 12 (.load none (.t 11)), rg 13 (.bin .gtr (.t 12) (.c (.i .i64 0))), mv 10 13])
 (.cond (.t 10)
 (.draw [⟨mv 15 0, 0, 0⟩, ⟨rg 16 (.nilc (.t 15)), 0, 0⟩, ⟨rg 17 (.fad 4 (.t 16)), 0, 0⟩, ⟨rg 18 (.load none (.t 17)), 0, 0⟩, ⟨rg 19 (.fad 1 (.t 5)), 0, 0⟩,
 ⟨rg 20 (.load none (.t 19)), 0, 0⟩, ⟨rg 21 (.iad 3 (.t 18) (.t 20)), 0, 0⟩, ⟨rg 22 (.load (some 3) (.t 21)), 0, 0⟩, ⟨rg 23 (.fad 2 (.t 5)), 0, 0⟩,
 ⟨rg 24 (.load none (.t 23)), 0, 0⟩, ⟨rg 25 (.bin .sub (.t 24) (.c (.i .i64 1))), 0, 0⟩, ⟨rg 26 (.call 220 [(.t 22), (.t 25)]), 0, 0⟩, ⟨mv 14 26, 0, 0⟩,
 ⟨rg 27 (.ext (.t 14) 0), 0, 0⟩, ⟨rg 28 (.ext (.t 14) 1), 0, 1⟩, ⟨so (.store 3 (.t 8) (.t 27)), 0, 1⟩])
 (.seq
 (.reg [rg 30 (.fad 2 (.t 5)), rg 31 (.load none (.t 30)), rg 32 (.bin .lss (.t 31) (.c (.i .i64 0))), mv 29 32])
 (.cond (.t 29)
 (.draw [⟨rg 34 (.load (some 3) (.t 7)), 0, 0⟩, ⟨mv 35 0, 0, 0⟩, ⟨rg 36 (.nilc (.t 35)), 0, 0⟩, ⟨rg 37 (.fad 4 (.t 36)), 0, 0⟩,
 ⟨rg 38 (.load none (.t 37)), 0, 0⟩, ⟨rg 39 (.fad 1 (.t 5)), 0, 0⟩, ⟨rg 40 (.load none (.t 39)), 0, 0⟩, ⟨rg 41 (.iad 3 (.t 38) (.t 40)), 0, 0⟩,
 ⟨rg 42 (.load (some 3) (.t 41)), 0, 0⟩, ⟨rg 43 (.call 218 [(.t 34), (.t 42)]), 0, 0⟩, ⟨mv 33 43, 0, 0⟩, ⟨rg 44 (.ext (.t 33) 0), 0, 0⟩,
 ⟨rg 45 (.ext (.t 33) 1), 0, 1⟩, ⟨so (.store 3 (.t 8) (.t 44)), 0, 1⟩])
 .skip)))))
 (.drawT [mv 46 0, rg 47 (.fad 1 (.t 5)), rg 48 (.load none (.t 47)), rg 49 (.load (some 3) (.t 6)), rg 50 (.fad 2 (.t 5)), rg 51 (.load none (.t 50)),
 rg 52 (.call 205 [(.t 51)]), rg 53 (.load (some 3) (.t 8)), rg 54 (.call 217 [(.t 52), (.t 53)]), rg 55 (.call 217 [(.t 49), (.t 54)])]
 [rg 56 (.call 410 [(.t 46), (.t 48), (.t 55)])]))))
def b2395 : AX :=
 (.seq
 (.reg [rg 4 (.alloc [(.b false), (.sl [] .nl), (.sl [] .nl), (.sl [] .nl), (.sl [] .nl)])])
 (.seq
 (.reg [rg 5 (.call 205 [(.c (.i .i64 0))]), mv 6 0, rg 7 (.call 2263 [(.t 6)]), mv 8 1, rg 9 (.call 2263 [(.t 8)]),
 rg 10 (.build [(.b false), (.sl [] .nl), (.sl [] .nl), (.sl [] .nl), (.sl [] .nl)] [(0, 3, (.t 5)), (3, 1, (.t 7)), (4, 1, (.t 9))]),
 so (.store 5 (.t 4) (.t 10))])
 (.pre (.norm false [4]) .ret)))
class CPull (T : Tbl) : Prop where
 h391 : T 391 = some ⟨2, 43, [.cell 4 (some 5), .t 5], b391, none, false⟩
 h395 : T 395 = some ⟨2, 11, [.cell 4 (some 5)], b395, none, false⟩
 h397 : T 397 = some ⟨4, 115, [.cell 8 (some 5), .cell 9 (some 4)], b397, none, false⟩
 h410 : T 410 = some ⟨3, 21, [], b410, (some [true, false, false]), false⟩
 h412 : T 412 = some ⟨2, 170, [], b412, (some [true, false]), false⟩
 h414 : T 414 = some ⟨1, 14, [.t 2], b414, none, false⟩
 h427 : T 427 = some ⟨4, 36, [], b427, (some [true, false, false, false]), false⟩
 h428 : T 428 = some ⟨4, 57, [], b428, (some [true, false, false, false]), false⟩
 h2395 : T 2395 = some ⟨2, 11, [.cell 4 (some 5)], b2395, (some [false, false]), false⟩
section
variable {T : Tbl} [CPull T] {d : Option Nat} {st : St} {xs : List AV} {ps : List Opd} {e : Env} {h : Heap} {ol : List Heap}
@[simp] theorem x391 : callX (orc T) T 391 xs d st = cP T 391 false xs d st := callX_pure CPull.h391
theorem f391 (xs : List AV) (hn : xs.length = 2) : callF T 391 xs = retF [.cell 4 (some 5), .t 5] false (evX (orc T) T 0 b391 ⟨argEnv xs, [], 1⟩) := callF_eq CPull.h391 hn
@[simp] theorem x395 : callX (orc T) T 395 xs d st = cP T 395 false xs d st := callX_pure CPull.h395
theorem f395 (xs : List AV) (hn : xs.length = 2) : callF T 395 xs = retF [.cell 4 (some 5)] false (evX (orc T) T 0 b395 ⟨argEnv xs, [], 1⟩) := callF_eq CPull.h395 hn
@[simp] theorem x397 : callX (orc T) T 397 xs d st = cP T 397 false xs d st := callX_pure CPull.h397
@[simp] theorem y397 : opD (orc T) T (.call 397 ps) e h ol = dP T 397 false ps e := opD_call CPull.h397
theorem f397 (xs : List AV) (hn : xs.length = 4) : callF T 397 xs = retF [.cell 8 (some 5), .cell 9 (some 4)] false (evX (orc T) T 0 b397 ⟨argEnv xs, [], 1⟩) := callF_eq CPull.h397 hn
@[simp] theorem x410 : callX (orc T) T 410 xs d st = cL T 410 false [true, false, false] xs d st := callX_lent CPull.h410
theorem f410 (xs : List AV) (hb : Heap) (hn : xs.length = 3) : callH T 410 xs hb = retH [] false hb.length (evX (orc T) T hb.length b410 ⟨argEnv xs, hb, hb.length + 1⟩) := callH_eq CPull.h410 hn
@[simp] theorem x412 : callX (orc T) T 412 xs d st = cL T 412 false [true, false] xs d st := callX_lent CPull.h412
theorem f412 (xs : List AV) (hb : Heap) (hn : xs.length = 2) : callH T 412 xs hb = retH [] false hb.length (evX (orc T) T hb.length b412 ⟨argEnv xs, hb, hb.length + 1⟩) := callH_eq CPull.h412 hn
@[simp] theorem x414 : callX (orc T) T 414 xs d st = cP T 414 false xs d st := callX_pure CPull.h414
theorem f414 (xs : List AV) (hn : xs.length = 1) : callF T 414 xs = retF [.t 2] false (evX (orc T) T 0 b414 ⟨argEnv xs, [], 1⟩) := callF_eq CPull.h414 hn
@[simp] theorem x427 : callX (orc T) T 427 xs d st = cL T 427 false [true, false, false, false] xs d st := callX_lent CPull.h427
theorem f427 (xs : List AV) (hb : Heap) (hn : xs.length = 4) : callH T 427 xs hb = retH [] false hb.length (evX (orc T) T hb.length b427 ⟨argEnv xs, hb, hb.length + 1⟩) := callH_eq CPull.h427 hn
@[simp] theorem x428 : callX (orc T) T 428 xs d st = cL T 428 false [true, false, false, false] xs d st := callX_lent CPull.h428
theorem f428 (xs : List AV) (hb : Heap) (hn : xs.length = 4) : callH T 428 xs hb = retH [] false hb.length (evX (orc T) T hb.length b428 ⟨argEnv xs, hb, hb.length + 1⟩) := callH_eq CPull.h428 hn
@[simp] theorem x2395 : callX (orc T) T 2395 xs d st = cL T 2395 false [false, false] xs d st := callX_lent CPull.h2395
theorem f2395 (xs : List AV) (hb : Heap) (hn : xs.length = 2) : callH T 2395 xs hb = retH [.cell 4 (some 5)] false hb.length (evX (orc T) T hb.length b2395 ⟨argEnv xs, hb, hb.length + 1⟩) := callH_eq CPull.h2395 hn
end
def b375 : AX :=
 (.seq
 (.reg [rg 3 (.xop (.box 4) [(.t 0)]), rg 4 (.xop (.box 11) [(.t 1)]), rg 5 (.xop (.box 2) [(.t 2)]), rg 6 (.mov (.c (.b false)))])
 (.seq
 (.seq
 (.reg [rg 21 (.load (some 4) (.t 3)), rg 22 (.call 379 [(.t 21), (.c (.i .i64 12)), (.c (.i .i64 2))]), mv 23 22, gd 24 23 false (.load (some 11) (.t 4)),
 gd 25 23 false (.call 385 [(.t 24)]), rg 26 (.pick (.t 23) (.c (.b true)) (.t 25)), mv 27 26, gd 28 27 false (.iaa 1 2 (.t 5) (.c (.i .i64 0))),
 gd 29 27 false (.load none (.t 28)), gd 30 27 false (.call 286 [(.t 29), (.c (.i .i64 8)), (.c (.i .i64 2))]),
 rg 31 (.pick (.t 27) (.c (.b true)) (.t 30)), mv 32 31, gd 33 32 false (.iaa 1 2 (.t 5) (.c (.i .i64 1))), gd 34 32 false (.load none (.t 33)),
 gd 35 32 false (.call 286 [(.t 34), (.c (.i .i64 8)), (.c (.i .i64 2))]), rg 36 (.pick (.t 32) (.c (.b true)) (.t 35))])
 (.cond (.t 36)
 (.seq
 (.reg [rg 37 (.call 390 []), mv 6 37])
 (.pre (.norm false [6]) .ret))
 .skip))
 (.seq
 (.reg [rg 38 (.load (some 4) (.t 3)), rg 39 (.call 382 [(.t 38)]), rg 7 (.alloc [(.sl [] .nl), (.sl [] .nl), (.i .i64 0), (.i .i64 0)]),
 so (.store 4 (.t 7) (.t 39))])
 (.seq
 (.reg [rg 40 (.fad 0 (.t 4)), rg 41 (.load (some 5) (.t 40)), rg 42 (.call 383 [(.t 41)]),
 rg 8 (.alloc [(.b false), (.sl [] .nl), (.sl [] .nl), (.sl [] .nl), (.sl [] .nl)]), so (.store 5 (.t 8) (.t 42))])
 (.seq
 (.reg [rg 43 (.iaa 1 2 (.t 5) (.c (.i .i64 0))), rg 44 (.load none (.t 43)), rg 45 (.call 287 [(.t 44)]), mv 9 45])
 (.seq
 (.reg [rg 46 (.iaa 1 2 (.t 5) (.c (.i .i64 1))), rg 47 (.load none (.t 46)), rg 48 (.call 287 [(.t 47)]), mv 10 48])
 (.seq
 (.reg [mv 50 9, mv 51 10, rg 52 (.bsl 1 [(.sl [] .nl)] 2 [(0, (.t 50)), (1, (.t 51))]), rg 53 (.call 267 [(.t 52)]), mv 49 53, rg 54 (.ext (.t 49) 0),
 rg 55 (.ext (.t 49) 1), mv 11 54, mv 12 55])
 (.seq
 (.reg [rg 57 (.load (some 4) (.t 7)), rg 58 (.load (some 5) (.t 8)), mv 59 9, rg 60 (.call 397 [(.t 57), (.t 58), (.t 59), (.c (.i .i64 1500))]), mv 56 60,
 rg 61 (.ext (.t 56) 0), rg 62 (.ext (.t 56) 1), rg 13 (.alloc [(.b false), (.sl [] .nl), (.sl [] .nl), (.sl [] .nl), (.sl [] .nl)]),
 rg 14 (.alloc [(.i .i64 0), (.i .i64 0), (.i .i64 0), (.i .i64 0)]), so (.store 5 (.t 13) (.t 61)), so (.store 4 (.t 14) (.t 62))])
 (.seq
 (.reg [rg 64 (.load (some 4) (.t 7)), rg 65 (.load (some 5) (.t 8)), mv 66 10, rg 67 (.call 397 [(.t 64), (.t 65), (.t 66), (.c (.i .i64 1500))]), mv 63 67,
 rg 68 (.ext (.t 63) 0), rg 69 (.ext (.t 63) 1), rg 15 (.alloc [(.b false), (.sl [] .nl), (.sl [] .nl), (.sl [] .nl), (.sl [] .nl)]),
 rg 16 (.alloc [(.i .i64 0), (.i .i64 0), (.i .i64 0), (.i .i64 0)]), so (.store 5 (.t 15) (.t 68)), so (.store 4 (.t 16) (.t 69))])
 (.seq
 (.reg [rg 71 (.load (some 4) (.t 7)), rg 72 (.load (some 5) (.t 8)), mv 73 11, rg 74 (.call 397 [(.t 71), (.t 72), (.t 73), (.c (.i .i64 1500))]), mv 70 74,
 rg 75 (.ext (.t 70) 0), rg 76 (.ext (.t 70) 1), rg 17 (.alloc [(.b false), (.sl [] .nl), (.sl [] .nl), (.sl [] .nl), (.sl [] .nl)]),
 rg 18 (.alloc [(.i .i64 0), (.i .i64 0), (.i .i64 0), (.i .i64 0)]), so (.store 5 (.t 17) (.t 75)), so (.store 4 (.t 18) (.t 76))])
 (.seq
 (.seq
 (.reg [mv 77 12, rg 78 (.un .not (.t 77)), mv 79 78, gd 80 79 false (.load (some 4) (.t 14)),
 gd 81 79 false (.build [(.i .i64 0), (.i .i64 0), (.i .i64 0), (.i .i64 0)] []),
 gd 82 79 false (.eqs true [(0, .int), (1, .int), (2, .int), (3, .int)] (.t 80) (.t 81)), rg 83 (.pick (.t 79) (.c (.b true)) (.t 82)), mv 84 83,
 gd 85 84 false (.load (some 4) (.t 16)), gd 86 84 false (.build [(.i .i64 0), (.i .i64 0), (.i .i64 0), (.i .i64 0)] []),
 gd 87 84 false (.eqs true [(0, .int), (1, .int), (2, .int), (3, .int)] (.t 85) (.t 86)), rg 88 (.pick (.t 84) (.c (.b true)) (.t 87)), mv 89 88,
 gd 90 89 false (.load (some 4) (.t 18)), gd 91 89 false (.build [(.i .i64 0), (.i .i64 0), (.i .i64 0), (.i .i64 0)] []),
 gd 92 89 false (.eqs true [(0, .int), (1, .int), (2, .int), (3, .int)] (.t 90) (.t 91)), rg 93 (.pick (.t 89) (.c (.b true)) (.t 92))])
 (.cond (.t 93)
 (.seq
 (.reg [rg 94 (.call 390 []), mv 6 94])
 (.pre (.norm false [6]) .ret))
 .skip))
 (.seq
 (.reg [rg 96 (.load (some 5) (.t 13)), rg 97 (.load (some 5) (.t 15)), rg 98 (.call 391 [(.t 96), (.t 97)]), mv 95 98, rg 99 (.ext (.t 95) 0),
 rg 100 (.ext (.t 95) 1), rg 19 (.alloc [(.b false), (.sl [] .nl), (.sl [] .nl), (.sl [] .nl), (.sl [] .nl)]), so (.store 5 (.t 19) (.t 99)), mv 20 100])
 (.seq
 (.reg [mv 101 20, mv 102 101, gd 103 102 true (.fad 0 (.t 17)), gd 104 102 true (.load (some 3) (.t 103)), gd 105 102 true (.fad 0 (.t 19)),
 gd 106 102 true (.load (some 3) (.t 105)), gd 107 102 true (.call 212 [(.t 104), (.t 106)]), rg 108 (.pick (.t 102) (.t 107) (.c (.b false))),
 mv 109 108, gd 110 109 true (.fad 3 (.t 17)), gd 111 109 true (.load none (.t 110)), gd 112 109 true (.fad 3 (.t 19)),
 gd 113 109 true (.load none (.t 112)), gd 114 109 true (.call 265 [(.t 111), (.t 113)]), rg 115 (.pick (.t 109) (.t 114) (.c (.b false))), mv 116 115,
 gd 117 116 true (.fad 4 (.t 17)), gd 118 116 true (.load none (.t 117)), gd 119 116 true (.fad 4 (.t 19)), gd 120 116 true (.load none (.t 119)),
 gd 121 116 true (.call 265 [(.t 118), (.t 120)]), rg 122 (.pick (.t 116) (.t 121) (.c (.b false))), mv 123 122, gd 124 123 true (.call 390 []),
 rg 125 (.pick (.t 123) (.t 124) (.c (.b false))), mv 6 125])
 (.pre (.norm false [6]) .ret))))))))))))))
def b390 : AX :=
 (.seq
 (.reg [rg 0 (.mov (.c (.b false)))])
 (.seq
 (.reg [rg 5 (.build [(.i .i64 0), (.i .i64 0), (.i .i64 0), (.b false), (.sl [] .nl), (.sl [] .nl)] [(0, 1, (.c (.i .i64 3)))]),
 rg 6 (.build [(.i .i64 0), (.i .i64 0), (.i .i64 0), (.b false), (.sl [] .nl), (.sl [] .nl)] [(0, 1, (.c (.i .i64 4)))]),
 rg 7 (.build [(.i .i64 0), (.i .i64 0), (.i .i64 0), (.b false), (.sl [] .nl), (.sl [] .nl)] [(0, 1, (.c (.i .i64 9))), (2, 1, (.c (.i .i64 1)))]),
 rg 8 (.bsl 6 [(.i .i64 0), (.i .i64 0), (.i .i64 0), (.b false), (.sl [] .nl), (.sl [] .nl)] 3 [(0, (.t 5)), (1, (.t 6)), (2, (.t 7))]),
 rg 9 (.bsl 1 [(.i .i64 0)] 1 [(0, (.c (.i .i64 2)))]),
 rg 10 (.build [(.sl [] .nl), (.sl [] .nl), (.i .i64 0), (.i .i64 0)] [(0, 1, (.t 8)), (1, 1, (.t 9)), (2, 1, (.c (.i .i64 1))), (3, 1, (.c (.i .i64 1)))]),
 rg 1 (.alloc [(.sl [] .nl), (.sl [] .nl), (.i .i64 0), (.i .i64 0)]), so (.store 4 (.t 1) (.t 10))])
 (.seq
 (.reg [rg 11 (.call 205 [(.c (.i .i64 3))]), rg 12 (.bsl 3 [(.b false), (.sl [] .nl), (.sl [] .nl)] 1 [(0, (.t 11))]), rg 13 (.call 205 [(.c (.i .i64 5))]),
 rg 14 (.bsl 3 [(.b false), (.sl [] .nl), (.sl [] .nl)] 1 [(0, (.t 13))]),
 rg 15 (.build [(.b false), (.sl [] .nl), (.sl [] .nl), (.sl [] .nl), (.sl [] .nl)] [(3, 1, (.t 12)), (4, 1, (.t 14))]),
 rg 2 (.alloc [(.b false), (.sl [] .nl), (.sl [] .nl), (.sl [] .nl), (.sl [] .nl)]), so (.store 5 (.t 2) (.t 15))])
 (.seq
 (.drawM [rg 17 (.load (some 4) (.t 1)), rg 18 (.load (some 5) (.t 2)), rg 19 (.call 205 [(.c (.i .i64 2))]),
 rg 20 (.bsl 3 [(.b false), (.sl [] .nl), (.sl [] .nl)] 1 [(0, (.t 19))]), rg 21 (.call 397 [(.t 17), (.t 18), (.t 20), (.c (.i .i64 100))]), mv 16 21,
 rg 22 (.ext (.t 16) 0), rg 23 (.ext (.t 16) 1), rg 3 (.alloc [(.b false), (.sl [] .nl), (.sl [] .nl), (.sl [] .nl), (.sl [] .nl)]),
 rg 4 (.alloc [(.i .i64 0), (.i .i64 0), (.i .i64 0), (.i .i64 0)]), so (.store 5 (.t 3) (.t 22))]
 [so (.store 4 (.t 4) (.t 23))])
 (.seq
 (.reg [rg 24 (.fad 0 (.t 3)), rg 25 (.load (some 3) (.t 24)), rg 26 (.call 209 [(.t 25)]), rg 27 (.bin .eql (.t 26) (.c (.i .i64 0))), mv 28 27,
 gd 29 28 true (.fad 3 (.t 3)), gd 30 28 true (.load none (.t 29)), gd 31 28 true (.call 274 [(.t 30)]),
 gd 32 28 true (.bin .eql (.t 31) (.c (.s [49, 48]))), rg 33 (.pick (.t 28) (.t 32) (.c (.b false))), mv 34 33, gd 35 34 true (.fad 4 (.t 3)),
 gd 36 34 true (.load none (.t 35)), gd 37 34 true (.call 274 [(.t 36)]), gd 38 34 true (.bin .eql (.t 37) (.c (.s [54]))),
 rg 39 (.pick (.t 34) (.t 38) (.c (.b false))), mv 40 39, gd 41 40 true (.load (some 4) (.t 4)),
 gd 42 40 true (.build [(.i .i64 0), (.i .i64 0), (.i .i64 0), (.i .i64 0)] []),
 gd 43 40 true (.eqs false [(0, .int), (1, .int), (2, .int), (3, .int)] (.t 41) (.t 42)), rg 44 (.pick (.t 40) (.t 43) (.c (.b false))), mv 0 44])
 (.pre (.norm false [0]) .ret))))))
class CLaw28 (T : Tbl) : Prop where
 h375 : T 375 = some ⟨3, 126, [.t 6], b375, none, false⟩
 h390 : T 390 = some ⟨0, 45, [.t 0], b390, none, false⟩
section
variable {T : Tbl} [CLaw28 T] {d : Option Nat} {st : St} {xs : List AV} {ps : List Opd} {e : Env} {h : Heap} {ol : List Heap}
theorem f375 (xs : List AV) (hn : xs.length = 3) : callF T 375 xs = retF [.t 6] false (evX (orc T) T 0 b375 ⟨argEnv xs, [], 1⟩) := callF_eq CLaw28.h375 hn
@[simp] theorem x390 : callX (orc T) T 390 xs d st = cP T 390 false xs d st := callX_pure CLaw28.h390
theorem f390 (xs : List AV) (hn : xs.length = 0) : callF T 390 xs = retF [.t 0] false (evX (orc T) T 0 b390 ⟨argEnv xs, [], 1⟩) := callF_eq CLaw28.h390 hn
end
def b385 : AX :=
 (.seq
 (.reg [rg 1 (.xop (.box 11) [(.t 0)]), rg 2 (.mov (.c (.b false)))])
 (.seq
 (.reg [rg 3 (.fad 0 (.t 1)), rg 4 (.load (some 5) (.t 3)), rg 5 (.call 380 [(.t 4), (.c (.i .i64 6)), (.c (.i .i64 2))]), mv 6 5, gd 7 6 false (.fad 5 (.t 1)),
 gd 8 6 false (.load (some 5) (.t 7)), gd 9 6 false (.call 380 [(.t 8), (.c (.i .i64 6)), (.c (.i .i64 2))]), rg 10 (.pick (.t 6) (.c (.b true)) (.t 9)),
 mv 11 10, gd 12 11 false (.fad 10 (.t 1)), gd 13 11 false (.load none (.t 12)), gd 14 11 false (.bin .gtr (.t 13) (.c (.i .i64 500))),
 rg 15 (.pick (.t 11) (.c (.b true)) (.t 14)), mv 2 15])
 (.pre (.norm false [2]) .ret)))
class CLaw27l (T : Tbl) : Prop where
 h385 : T 385 = some ⟨1, 16, [.t 2], b385, none, false⟩
section
variable {T : Tbl} [CLaw27l T] {d : Option Nat} {st : St} {xs : List AV} {ps : List Opd} {e : Env} {h : Heap} {ol : List Heap}
@[simp] theorem x385 : callX (orc T) T 385 xs d st = cP T 385 false xs d st := callX_pure CLaw27l.h385
theorem f385 (xs : List AV) (hn : xs.length = 1) : callF T 385 xs = retF [.t 2] false (evX (orc T) T 0 b385 ⟨argEnv xs, [], 1⟩) := callF_eq CLaw27l.h385 hn
end
section
open Go.RowKit
def opU : AOp → List Nat
 | .call u _ => [u]
 | .ifc k _ => [1000000 + k]
 | .inv _ k u _ _ => [1000000 + k, u]
 | _ => []
def cXs : AX → List Nat
 | .reg l => l.flatMap fun o => opU o.op
 | .draw l => l.flatMap fun o => opU o.ao.op
 | .drawT hd tl => (hd.flatMap fun o => opU o.op) ++ tl.flatMap fun o => opU o.op
 | .drawM hd tl => (hd.flatMap fun o => opU o.op) ++ tl.flatMap fun o => opU o.op
 | .seq a b => cXs a ++ cXs b
 | .cond _ x y => cXs x ++ cXs y
 | .block _ c | .loop c | .note c _ | .pre _ c | .scope c | .lp _ _ c _ => cXs c
 | _ => []
structure Agr (R : Nat → Bool) (T T' : Tbl) (O O' : Orc) : Prop where
 tbl : ∀ u, R u = true → T u = T' u
 call : ∀ u xs hb, R u = true → O.call u xs hb = O'.call u xs hb
 loop : ∀ k c st, (∀ u ∈ cXs c, R u = true) → O.loop k c st = O'.loop k c st
section
variable {R : Nat → Bool} {T T' : Tbl} {O O' : Orc}
theorem callX_agr (h : Agr R T T' O O') {u : Nat} (hu : R u = true) {xs : List AV} {d : Option Nat} {st : St} : callX O T u xs d st = callX O' T' u xs d st := by
 unfold callX
 rw [h.tbl u hu]
 simp only [h.call u _ _ hu]
theorem opX_agr (h : Agr R T T' O O') {op : AOp} (hu : ∀ u ∈ opU op, R u = true) {d : Option Nat} {st : St} : opX O T op d st = opX O' T' op d st := by
 cases op <;> simp only [opX]
 case call u args => exact callX_agr h (hu _ (by simp [opU]))
 case ifc k x => unfold tyNum; rw [h.tbl _ (hu _ (by simp [opU]))]
 case inv nm k u r args =>
  have e1 : tyNum T k = tyNum T' k := by unfold tyNum; rw [h.tbl _ (hu _ (by simp [opU]))]
  have e2 : methsT T k = methsT T' k := by unfold methsT; rw [h.tbl _ (hu _ (by simp [opU]))]
  rw [e1, e2]
  simp only [callX_agr h (hu u (by simp [opU]))]
theorem stepX_agr (h : Agr R T T' O O') {o : AO} (hu : ∀ u ∈ opU o.op, R u = true) {st : St} : stepX O T o st = stepX O' T' o st := by
 unfold stepX gX
 simp only [opX_agr h hu]
theorem runX_agr (h : Agr R T T' O O') : ∀ (l : List AO), (∀ o ∈ l, ∀ u ∈ opU o.op, R u = true) → ∀ st, runX O T l st = runX O' T' l st
 | [], _, st => rfl
 | o :: l, hu, st => by
  simp only [runX]
  rw [stepX_agr h (hu o List.mem_cons_self)]
  congr 1
  funext s
  exact runX_agr h l (fun o ho => hu o (List.mem_cons_of_mem _ ho)) s
theorem opD_agr (h : Agr R T T' O O') {op : AOp} (hu : ∀ u ∈ opU op, R u = true) {e : Env} {hp : Heap} {older : List Heap} : opD O T op e hp older = opD O' T' op e hp older := by
 by_cases hap : ∃ z x0 y, op = .app z x0 y
 ·obtain ⟨z, x0, y, rfl⟩ := hap
  by_cases hc : x0 = .c (.sl [] .nl)
  ·subst hc; rfl
  ·rw [opD_app hc, opD_app hc]
 cases op <;> (try exact absurd ⟨_, _, _, rfl⟩ hap) <;> simp only [opD]
 case call u args =>
  rw [h.tbl _ (hu _ (by simp [opU]))]
  simp only [h.call _ _ _ (hu _ (show u ∈ _ by simp [opU]))]
 case ifc k x => unfold tyNum; rw [h.tbl _ (hu _ (by simp [opU]))]
 case inv nm k u r args =>
  have e1 : tyNum T k = tyNum T' k := by unfold tyNum; rw [h.tbl _ (hu _ (by simp [opU]))]
  have e2 : methsT T k = methsT T' k := by unfold methsT; rw [h.tbl _ (hu _ (by simp [opU]))]
  rw [e1, e2, h.tbl u (hu u (by simp [opU]))]
  simp only [h.call u _ _ (hu u (by simp [opU]))]
theorem qX_agr (h : Agr R T T' O O') {o : AO} (hu : ∀ u ∈ opU o.op, R u = true) {e : Env} {hp : Heap} {older : List Heap} : qX O T o e hp older = qX O' T' o e hp older := by
 unfold qX
 simp only [opD_agr h hu]
theorem drawX_agr (h : Agr R T T' O O') : ∀ (l : List DO), (∀ o ∈ l, ∀ u ∈ opU o.ao.op, R u = true) → ∀ e hp clk older pend, drawX O T l e hp clk older pend = drawX O' T' l e hp clk older pend
 | [], _, e, hp, clk, older, pend => rfl
 | o :: l, hu, e, hp, clk, older, pend => by
  have ih := drawX_agr h l (fun o ho => hu o (List.mem_cons_of_mem _ ho))
  simp only [drawX]
  rw [qX_agr h (hu o List.mem_cons_self)]
  simp only [ih]
theorem headX_agr (h : Agr R T T' O O') (tl : List AO) (ht : ∀ o ∈ tl, ∀ u ∈ opU o.op, R u = true) : ∀ (l : List AO), (∀ o ∈ l, ∀ u ∈ opU o.op, R u = true) → ∀ e hp clk, headX O T tl l e hp clk = headX O' T' tl l e hp clk
 | [], _, e, hp, clk => runX_agr h tl ht _
 | o :: l, hu, e, hp, clk => by
  have ih := headX_agr h tl ht l (fun o ho => hu o (List.mem_cons_of_mem _ ho))
  simp only [headX]
  rw [qX_agr h (hu o List.mem_cons_self)]
  simp only [ih]
theorem callM_agr (h : Agr R T T' O O') {u : Nat} (hu : R u = true) {xs : List AV} {d clk : Nat} : callM O T u xs d clk = callM O' T' u xs d clk := by
 unfold callM
 rw [h.tbl u hu]
 simp only [h.call u _ _ hu]
theorem headM_agr (h : Agr R T T' O O') (tl : List AO) (ht : ∀ o ∈ tl, ∀ u ∈ opU o.op, R u = true) (h0 : Heap) (c0 : Nat) : ∀ (l : List AO), (∀ o ∈ l, ∀ u ∈ opU o.op, R u = true) → ∀ e hp clk, headM O T tl h0 c0 l e hp clk = headM O' T' tl h0 c0 l e hp clk
 | [], _, e, hp, clk => runX_agr h tl ht _
 | o :: l, hu, e, hp, clk => by
  have ih := headM_agr h tl ht h0 c0 l (fun o ho => hu o (List.mem_cons_of_mem _ ho))
  simp only [headM]
  rw [qX_agr h (hu o List.mem_cons_self)]
  simp only [ih]
  cases hm : o.op.maker with
  | true => rfl
  | false =>
   cases hst : o.op.isStore with
   | true => rfl
   | false =>
   cases hl : o.op.lentN with
   | none => rfl
   | some ua =>
    have hua : R ua.1 = true := hu o List.mem_cons_self _ (by rw [lentN_spec hl]; simp [opU])
    simp only [callM_agr h hua]
theorem evX_agr (h : Agr R T T' O O') (k : Nat) : ∀ (c : AX), (∀ u ∈ cXs c, R u = true) → ∀ st, evX O T k c st = evX O' T' k c st
 | .skip, _, st => rfl
 | .reg l, hu, st => by
  simp only [evX]
  rw [runX_agr h l fun o ho u hou => hu u (List.mem_flatMap.2 ⟨o, ho, hou⟩)]
 | .draw l, hu, st => by
  simp only [evX]
  rw [drawX_agr h l fun o ho u hou => hu u (List.mem_flatMap.2 ⟨o, ho, hou⟩)]
 | .drawT hd tl, hu, st => by
  simp only [evX]
  rw [headX_agr h tl (fun o ho u hou => hu u (List.mem_append_right _ (List.mem_flatMap.2 ⟨o, ho, hou⟩))) hd (fun o ho u hou => hu u (List.mem_append_left _ (List.mem_flatMap.2 ⟨o, ho, hou⟩)))]
 | .drawM hd tl, hu, st => by
  simp only [evX]
  rw [headM_agr h tl (fun o ho u hou => hu u (List.mem_append_right _ (List.mem_flatMap.2 ⟨o, ho, hou⟩))) _ _ hd (fun o ho u hou => hu u (List.mem_append_left _ (List.mem_flatMap.2 ⟨o, ho, hou⟩)))]
 | .bad, _, st => rfl
 | .prim f, _, st => rfl
 | .seq a b, hu, st => by
  simp only [evX]
  rw [evX_agr h k a fun u hm => hu u (List.mem_append_left _ hm)]
  congr 1
  funext r
  rw [evX_agr h k b fun u hm => hu u (List.mem_append_right _ hm)]
 | .cond c x y, hu, st => by
  simp only [evX]
  rw [evX_agr h k x fun u hm => hu u (List.mem_append_left _ hm), evX_agr h k y fun u hm => hu u (List.mem_append_right _ hm)]
 | .block id c, hu, st => by
  simp only [evX]
  rw [evX_agr h k c hu]
 | .loop c, hu, st => h.loop k c st hu
 | .exit id, _, st => rfl
 | .ret, _, st => rfl
 | .note c g, hu, st => by
  simp only [evX]
  rw [evX_agr h k c hu]
 | .pre g c, hu, st => by
  simp only [evX]
  congr 1
  funext s
  exact evX_agr h k c hu s
 | .scope c, hu, st => by
  simp only [evX]
  exact evX_agr h k c hu st
 | .lp id g c g2, hu, st => by
  simp only [evX, h.loop k c _ hu]
theorem nextO_agr (hc : ∀ u af, R u = true → T u = some af → ∀ v ∈ cXs af.body, R v = true) (h : Agr R T T' O O') : Agr R T T' (nextO T O) (nextO T' O') where
 tbl := h.tbl
 call u xs hb hu := by
  simp only [nextO]
  rw [← h.tbl u hu]
  cases ht : T u with
  | none => rfl
  | some af =>
   simp only
   rw [evX_agr h hb.length af.body (hc u af hu ht)]
 loop k c st hu := by
  simp only [nextO]
  rw [evX_agr h k c hu]
  congr 1
  funext r
  rw [h.loop k c _ hu]
theorem orcN_agr (ht : ∀ u, R u = true → T u = T' u) (hc : ∀ u af, R u = true → T u = some af → ∀ v ∈ cXs af.body, R v = true) : ∀ n, Agr R T T' (orcN T n) (orcN T' n)
 | 0 => ⟨ht, fun _ _ _ _ => rfl, fun _ _ _ _ => rfl⟩
 | n + 1 => nextO_agr hc (orcN_agr ht hc n)
theorem orc_agr (ht : ∀ u, R u = true → T u = T' u) (hc : ∀ u af, R u = true → T u = some af → ∀ v ∈ cXs af.body, R v = true) : Agr R T T' (orc T) (orc T') := by
 refine ⟨ht, fun u xs hb hu => ?_, fun k c st hu => ?_⟩
 ·simp only [orc]
  congr 1
  funext n
  exact (orcN_agr ht hc n).call u xs hb hu
 ·simp only [orc]
  congr 1
  funext n
  exact (orcN_agr ht hc n).loop k c st hu
end
theorem mem_of_lookup {l : List (Nat × AFx)} {u : Nat} {af : AFx} (h : l.lookup u = some af) : (u, af) ∈ l := by
 induction l with
 | nil => cases h
 | cons q l ih =>
  obtain ⟨q1, q2⟩ := q
  simp only [List.lookup_cons] at h
  split at h
  ·rename_i he
   have := eq_of_beq he
   subst this
   cases h
   exact List.mem_cons_self
  ·exact List.mem_cons_of_mem _ (ih h)
structure Part (l l' : List (Nat × AFx)) : Prop where
 sub : ∀ p ∈ l', l.lookup p.1 = some p.2
 clo : (l'.all fun p => (cXs p.2.body).all fun v => (l'.lookup v).isSome || (l.lookup v).isNone) = true
theorem Part.agr {l l' : List (Nat × AFx)} (h : Part l l') : Agr (fun u => (l'.lookup u).isSome || (l.lookup u).isNone) (fun u => l.lookup u) (fun u => l'.lookup u) (orc fun u => l.lookup u) (orc fun u => l'.lookup u) := by
 refine orc_agr (fun v hv => ?_) (fun v a hv hva w hw => ?_)
 ·cases hv2 : l'.lookup v with
  | none =>
   simp only [hv2] at hv
   cases hv3 : l.lookup v with
   | none => rfl
   | some a => rw [hv3] at hv; cases hv
  | some a => exact h.sub _ (mem_of_lookup hv2)
 ·cases hv2 : l'.lookup v with
  | none => simp only [hv2, hva] at hv; cases hv
  | some b =>
   have hb := mem_of_lookup hv2
   have h1 := h.sub _ hb
   simp only at hva h1
   rw [hva] at h1
   cases h1
   exact List.all_eq_true.1 (List.all_eq_true.1 h.clo _ hb) w hw
theorem Part.ev {l l' : List (Nat × AFx)} (h : Part l l') {c : AX} (hc : ((cXs c).all fun v => (l'.lookup v).isSome) = true) {st : St} {r : Option (Ex × St)}
  (he : evX (orc fun u => l.lookup u) (fun u => l.lookup u) 0 c st = r) : evX (orc fun u => l'.lookup u) (fun u => l'.lookup u) 0 c st = r := by
 rw [← evX_agr h.agr 0 c (fun v hv => by rw [List.all_eq_true.1 hc v hv]; rfl) st]
 exact he
theorem Part.call {l l' : List (Nat × AFx)} (h : Part l l') {u : Nat} (hu : (l'.lookup u).isSome = true) {xs : List AV} {r : Option AV} (he : callF (fun u => l.lookup u) u xs = r) : callF (fun u => l'.lookup u) u xs = r := by
 rw [← he]
 unfold callF
 rw [h.agr.call u xs [] (by rw [hu]; rfl)]
end
end Go.Ab