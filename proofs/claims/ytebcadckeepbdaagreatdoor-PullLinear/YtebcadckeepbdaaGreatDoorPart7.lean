/-
  A calculus of values, boxes and code, and what functions of the program compute, proved in it.
  Conditions: none beyond those that the theorems state. (Part 7.)
-/
import Derived.Test.YtebcadckeepbdaaGreatDoorPart6
import Derived.Test.YtebcadckeepbdaaGreatDoorRows
import Derived.Test.YtebcadckeepbdaaGreatDoorCards
import Derived.Test.YtebcadckeepbdaaGreatDoorTie
import Derived.ProofKit
import Derived.LaidMore
import Derived.OpenShut
import Derived.Stop.Joined
import Derived.SevenTiedAt
import Derived.Lib.LaidU8
import Derived.Lib.IndexAny
import Derived.Lib.Bytealg

set_option linter.unusedSectionVars false
set_option linter.unusedVariables false
set_option linter.unusedSimpArgs false
set_option linter.unnecessarySimpa false

namespace Go.Ab
structure Ins where
 op : Int
 a : Int
 b : Int
 n : Fz
abbrev celI (i : Ins) : List AV := [.i .i64 i.op, .i .i64 i.a, .i .i64 i.b, .b i.n.1, .sl (u32s i.n.2.1) .an, .sl (u32s i.n.2.2) .an]
def rowI (l : List Ins) : List (List AV) := l.map celI
@[simp] theorem rowI_length (l : List Ins) : (rowI l).length = l.length := by simp [rowI]
@[simp] theorem rowI_wk (l : List Ins) : wkL (rowI l) = rowI l := by rw [wkL_map]; simp [rowI, wkR, wkA]
@[simp] theorem rowI_get? (l : List Ins) (i : Nat) : (rowI l)[i]? = (l[i]?).map celI := by simp [rowI]
@[simp] theorem rowI_get (l : List Ins) (i : Nat) (h : i < (rowI l).length) : (rowI l)[i] = celI (l[i]'(by simpa using h)) := by simp [rowI]
theorem rowI_snoc (l : List Ins) (x : Ins) : rowI l ++ [celI x] = rowI (l ++ [x]) := by simp [rowI]
@[simp] theorem rowI_take (l : List Ins) (n : Nat) : (rowI l).take n = rowI (l.take n) := by simp [rowI]
@[simp] theorem rowI_nil : rowI [] = [] := rfl
theorem rowI_push {m : List Ins} {n : Nat} (h : m.length = n) (x : Ins) : wkL (rowI (List.take n m) ++ [celI x]) = rowI (m ++ [x]) := by
 rw [List.take_of_length_le (by omega), rowI_snoc, rowI_wk]
structure Tp where
 code : List Ins
 outs : List Int
 dim : Int
 par : Int
abbrev etp (t : Tp) : AV := .agg [.sl (rowI t.code) .an, .sl (ints t.outs) .an, .i .i64 t.dim, .i .i64 t.par]
def rightF (x : Fz) : Bool := decide (x = fz (fv x))
def blankF (x : Fz) : Bool := !x.1 && x.2.1.isEmpty && x.2.2.isEmpty
def readsI (i : Ins) : List Int := if i.op = 6 ∨ i.op = 11 then [i.a] else if 7 ≤ i.op ∧ i.op ≤ 10 then [i.a, i.b] else []
def belowB (i m : Int) : Bool := decide (0 ≤ i) && decide (i < m)
def mayI (dim par p : Int) (i : Ins) : Bool :=
 if i.op = 1 then decide (i.a = 0) && decide (i.b = 0) && rightF i.n
 else blankF i.n && (readsI i).all (fun r => belowB r p) &&
  (if i.op = 2 then decide (i.a = 0) && decide (i.b = 0)
   else if i.op = 3 then belowB i.a dim && decide (i.b = 0)
   else if i.op = 4 then belowB i.a par && decide (i.b = 0)
   else if i.op = 6 then decide (i.b = 0)
   else if i.op = 11 then decide (-8 ≤ i.b) && decide (i.b ≤ 8)
   else decide ((readsI i).length = 2))
def firstI (dim par : Int) : Nat → List Ins → Int
 | _, [] => -1
 | p, i :: r => if mayI dim par p i then firstI dim par (p + 1) r else p
def wholeT (t : Tp) : Bool := belowB (t.dim - 1) 6 && belowB t.par 7 && decide ((t.outs.length : Int) = t.dim) && decide (t.code.length ≤ 300)
def wrongT (t : Tp) : Int :=
 if wholeT t = false then -2 else if firstI t.dim t.par 0 t.code ≠ -1 then firstI t.dim t.par 0 t.code
 else if (t.outs.all fun o => belowB o t.code.length) = false then t.code.length else -1
def okT (t : Tp) : Bool := decide (wrongT t = -1)
theorem firstI_iff (dim par : Int) : ∀ (l : List Ins) (p : Nat), firstI dim par p l = -1 ↔ ∀ (k : Nat) (i : Ins), l[k]? = some i → mayI dim par (p + k : Nat) i = true
 | [], p => by simp [firstI]
 | x :: l, p => by
  have ih := firstI_iff dim par l (p + 1)
  unfold firstI
  by_cases h : mayI dim par p x = true
  ·rw [if_pos h, ih]
   constructor
   ·intro H k i hk
    cases k with
    | zero => simp only [List.getElem?_cons_zero, Option.some.injEq] at hk; subst hk; simpa using h
    | succ k => have := H k i (by simpa using hk); rwa [show p + 1 + k = p + (k + 1) by omega] at this
   ·intro H k i hk
    have := H (k + 1) i (by simpa using hk)
    rwa [show p + (k + 1) = p + 1 + k by omega] at this
  ·rw [if_neg h]
   constructor
   ·intro H; omega
   ·intro H; exact absurd (by simpa using H 0 x rfl) h
structure OkTp (t : Tp) : Prop where
 d1 : 1 ≤ t.dim
 d2 : t.dim ≤ 6
 p1 : 0 ≤ t.par
 p2 : t.par ≤ 6
 ol : (t.outs.length : Int) = t.dim
 cl : t.code.length ≤ 300
 may : ∀ (k : Nat) (i : Ins), t.code[k]? = some i → mayI t.dim t.par k i = true
 outs : ∀ o ∈ t.outs, 0 ≤ o ∧ o < t.code.length
theorem okT_iff (t : Tp) : okT t = true ↔ OkTp t := by
 unfold okT wrongT
 rw [decide_eq_true_eq]
 by_cases h1 : wholeT t = false
 ·rw [if_pos h1]
  constructor
  ·intro h; omega
  ·intro h
   exfalso
   have : wholeT t = true := by
    have := h.d1; have := h.d2; have := h.p1; have := h.p2
    simp only [wholeT, belowB, Bool.and_eq_true, decide_eq_true_eq]
    exact ⟨⟨⟨⟨by omega, by omega⟩, by omega, by omega⟩, h.ol⟩, h.cl⟩
   rw [this] at h1; cases h1
 ·have hw : wholeT t = true := by simpa using h1
  rw [if_neg h1]
  simp only [wholeT, belowB, Bool.and_eq_true, decide_eq_true_eq] at hw
  obtain ⟨⟨⟨⟨a1, a2⟩, a3, a4⟩, a5⟩, a6⟩ := hw
  have hf := firstI_iff t.dim t.par t.code 0
  by_cases h2 : firstI t.dim t.par 0 t.code ≠ -1
  ·rw [if_pos h2]
   constructor
   ·intro h; exact absurd h h2
   ·intro h; exact absurd (hf.2 fun k i hk => by rw [Nat.zero_add]; exact h.may k i hk) h2
  ·have h2' : firstI t.dim t.par 0 t.code = -1 := by simpa using h2
   rw [if_neg h2]
   by_cases h3 : (t.outs.all fun o => belowB o t.code.length) = false
   ·rw [if_pos h3]
    constructor
    ·intro h; omega
    ·intro h
     exfalso
     have : (t.outs.all fun o => belowB o t.code.length) = true := List.all_eq_true.2 fun o ho => by
      have := h.outs o ho
      simp only [belowB, Bool.and_eq_true, decide_eq_true_eq]
      exact this
     rw [this] at h3; cases h3
   ·rw [if_neg h3]
    have h3' : (t.outs.all fun o => belowB o t.code.length) = true := by simpa using h3
    refine ⟨fun _ => ⟨by omega, by omega, a3, by omega, a5, a6, fun k i hk => by have := hf.1 h2' k i hk; rwa [Nat.zero_add] at this, fun o ho => ?_⟩, fun _ => rfl⟩
    have := List.all_eq_true.1 h3' o ho
    simpa only [belowB, Bool.and_eq_true, decide_eq_true_eq] using this
theorem may_a {dim par : Int} {p : Nat} {i : Ins} (h : mayI dim par p i = true) (ho : i.op = 6 ∨ i.op = 11 ∨ (7 ≤ i.op ∧ i.op ≤ 10)) : 0 ≤ i.a ∧ i.a < p := by
 unfold mayI at h
 rw [if_neg (by omega)] at h
 simp only [Bool.and_eq_true, List.all_eq_true] at h
 have := h.1.2 i.a (by
  unfold readsI
  by_cases h1 : i.op = 6 ∨ i.op = 11
  ·rw [if_pos h1]; simp
  ·rw [if_neg h1, if_pos (by omega)]; simp)
 simpa only [belowB, Bool.and_eq_true, decide_eq_true_eq] using this
theorem may_b {dim par : Int} {p : Nat} {i : Ins} (h : mayI dim par p i = true) (ho : 7 ≤ i.op ∧ i.op ≤ 10) : 0 ≤ i.b ∧ i.b < p := by
 unfold mayI at h
 rw [if_neg (by omega)] at h
 simp only [Bool.and_eq_true, List.all_eq_true] at h
 have := h.1.2 i.b (by
  unfold readsI
  rw [if_neg (by omega), if_pos ho]; simp)
 simpa only [belowB, Bool.and_eq_true, decide_eq_true_eq] using this
theorem may_op {dim par : Int} {p : Nat} {i : Ins} (h : mayI dim par p i = true) : i.op = 1 ∨ i.op = 2 ∨ i.op = 3 ∨ i.op = 4 ∨ i.op = 6 ∨ i.op = 7 ∨ i.op = 8 ∨ i.op = 9 ∨ i.op = 10 ∨ i.op = 11 := by
 unfold mayI at h
 by_cases h1 : i.op = 1
 ·exact .inl h1
 rw [if_neg h1] at h
 by_cases h2 : i.op = 2
 ·omega
 by_cases h3 : i.op = 3
 ·omega
 by_cases h4 : i.op = 4
 ·omega
 by_cases h6 : i.op = 6
 ·omega
 by_cases h11 : i.op = 11
 ·omega
 rw [if_neg h2, if_neg h3, if_neg h4, if_neg h6, if_neg h11] at h
 simp only [Bool.and_eq_true, decide_eq_true_eq] at h
 have h2' := h.2
 by_cases hr : 7 ≤ i.op ∧ i.op ≤ 10
 ·omega
 ·have e : readsI i = [] := by
   unfold readsI
   rw [if_neg (by omega), if_neg hr]
  rw [e] at h2'
  simp at h2'
theorem may_y {dim par : Int} {p : Nat} {i : Ins} (h : mayI dim par p i = true) (ho : i.op = 3) : 0 ≤ i.a ∧ i.a < dim := by
 unfold mayI at h
 rw [if_neg (by omega), if_neg (by omega), if_pos ho] at h
 simp only [Bool.and_eq_true, decide_eq_true_eq, belowB] at h
 exact h.2.1
theorem may_p {dim par : Int} {p : Nat} {i : Ins} (h : mayI dim par p i = true) (ho : i.op = 4) : 0 ≤ i.a ∧ i.a < par := by
 unfold mayI at h
 rw [if_neg (by omega), if_neg (by omega), if_neg (by omega), if_pos ho] at h
 simp only [Bool.and_eq_true, decide_eq_true_eq, belowB] at h
 exact h.2.1
theorem may_e {dim par : Int} {p : Nat} {i : Ins} (h : mayI dim par p i = true) (ho : i.op = 11) : -8 ≤ i.b ∧ i.b ≤ 8 := by
 unfold mayI at h
 rw [if_neg (by omega), if_neg (by omega), if_neg (by omega), if_neg (by omega), if_neg (by omega), if_pos ho] at h
 simp only [Bool.and_eq_true, decide_eq_true_eq] at h
 exact h.2
structure Po where
 t : Rat
 y : List Rat
 p : List Rat
structure PoF where
 t : Fz
 y : List Fz
 p : List Fz
def PoF.v (x : PoF) : Po := ⟨fv x.t, x.y.map fv, x.p.map fv⟩
def Po.f (x : Po) : PoF := ⟨fz x.t, fzs x.y, fzs x.p⟩
abbrev ept (x : PoF) : AV := .agg [.b x.t.1, .sl (u32s x.t.2.1) .an, .sl (u32s x.t.2.2) .an, .sl (rowF x.y) .an, .sl (rowF x.p) .an]
def gI (l : List Rat) (i : Int) : Rat := l.getD i.toNat 0
def powZ (x : Rat) (e : Int) : Rat := x ^ e
def valI (P : Po) (D : List Rat) (i : Ins) : Rat × Bool :=
 if i.op = 1 then (fv i.n, true)
 else if i.op = 3 then (gI P.y i.a, true)
 else if i.op = 4 then (gI P.p i.a, true)
 else if i.op = 6 then (-gI D i.a, true)
 else if i.op = 7 then (gI D i.a + gI D i.b, true)
 else if i.op = 8 then (gI D i.a - gI D i.b, true)
 else if i.op = 9 then (gI D i.a * gI D i.b, true)
 else if i.op = 10 then (gI D i.a / gI D i.b, decide (gI D i.b ≠ 0))
 else if i.op = 11 then (if i.b < 0 ∧ gI D i.a = 0 then (0, false) else (powZ (gI D i.a) i.b, true))
 else (P.t, true)
def sizQ (q : Rat) : Nat := sizF (fz q)
def runR (lim : Nat) (P : Po) : List Ins → List Rat → List Rat × Nat × Nat
 | [], D => (D, 0, 0)
 | i :: r, D => if (valI P D i).2 = false then ([], 3, D.length) else if lim < sizQ (valI P D i).1 then ([], 6, D.length) else runR lim P r (D ++ [(valI P D i).1])
theorem runR_cons (lim : Nat) (P : Po) (i : Ins) (r : List Ins) (D : List Rat) : runR lim P (i :: r) D = if (valI P D i).2 = false then ([], 3, D.length) else if lim < sizQ (valI P D i).1 then ([], 6, D.length) else runR lim P r (D ++ [(valI P D i).1]) := rfl
theorem runR_ok (lim : Nat) (P : Po) : ∀ (l : List Ins) (D : List Rat), (runR lim P l D).2.1 = 0 → (runR lim P l D).2.2 = 0 ∧ ∃ E, (runR lim P l D).1 = D ++ E ∧ E.length = l.length
 | [], D, _ => ⟨rfl, [], by simp [runR], rfl⟩
 | i :: r, D, h => by
  have ih := runR_ok lim P r (D ++ [(valI P D i).1])
  rw [runR_cons] at h ⊢
  by_cases h1 : (valI P D i).2 = false
  ·simp [h1] at h
  ·rw [if_neg h1] at h ⊢
   by_cases h2 : lim < sizQ (valI P D i).1
   ·simp [h2] at h
   ·rw [if_neg h2] at h ⊢
    obtain ⟨e1, E, e2, e3⟩ := ih h
    exact ⟨e1, (valI P D i).1 :: E, by rw [e2]; simp, by simp [e3]⟩
theorem runR_at (lim : Nat) (P : Po) : ∀ (l : List Ins) (D : List Rat), (runR lim P l D).2.1 ≠ 0 → (runR lim P l D).1 = [] ∧ D.length ≤ (runR lim P l D).2.2 ∧ (runR lim P l D).2.2 < D.length + l.length
 | [], D, h => by simp [runR] at h
 | i :: r, D, h => by
  have ih := runR_at lim P r (D ++ [(valI P D i).1])
  rw [runR_cons] at h ⊢
  by_cases h1 : (valI P D i).2 = false
  ·simp [h1]
  ·rw [if_neg h1] at h ⊢
   by_cases h2 : lim < sizQ (valI P D i).1
   ·simp [h2]
   ·rw [if_neg h2] at h ⊢
    have := ih h
    simp only [List.length_append, List.length_cons, List.length_nil] at this ⊢
    exact ⟨this.1, by omega, by omega⟩
abbrev tyI : Ty := .cons (.int .i64) (.cons (.int .i64) (.cons (.int .i64) (.cons tyF .nil)))
abbrev tyT : Ty := .cons (.sl tyI) (.cons (.sl (.int .i64)) (.cons (.int .i64) (.cons (.int .i64) .nil)))
abbrev tyP : Ty := .cons tyF (.cons (.sl tyF) (.cons (.sl tyF) .nil))
theorem icells {cs : List AV} (h : Ok tyI cs) : ∃ x : Ins, wkR cs = celI x := by
 obtain ⟨c1, c1', rfl, ⟨a, rfl, _⟩, c2, c2', rfl, ⟨b, rfl, _⟩, c3, c3', rfl, ⟨c, rfl, _⟩, c4, c4', rfl, h4, rfl⟩ := h
 obtain ⟨x, e⟩ := fcells h4
 refine ⟨⟨a, b, c, x⟩, ?_⟩
 simp only [wkR_append, e]
 rfl
theorem ins_rows : ∀ (els : List (List AV)), (∀ r ∈ els, Ok tyI r) → ∃ l : List Ins, wkL els = rowI l
 | [], _ => ⟨[], rfl⟩
 | r :: els, h => by
  obtain ⟨l, hl⟩ := ins_rows els fun r hr => h r (List.mem_cons_of_mem _ hr)
  obtain ⟨x, hx⟩ := icells (h r List.mem_cons_self)
  refine ⟨x :: l, ?_⟩
  simp only [wkL, hx, hl]
  rfl
theorem int_rows : ∀ (els : List (List AV)), (∀ r ∈ els, Ok (.int .i64) r) → ∃ l : List Int, wkL els = ints l
 | [], _ => ⟨[], rfl⟩
 | r :: els, h => by
  obtain ⟨l, hl⟩ := int_rows els fun r hr => h r (List.mem_cons_of_mem _ hr)
  obtain ⟨x, rfl, _⟩ := h r List.mem_cons_self
  refine ⟨x :: l, ?_⟩
  simp only [wkL, hl]
  rfl
theorem i64_wf {a : Int} (h : (Lit.int .i64 a).wf = true) : -9223372036854775808 ≤ a ∧ a < 9223372036854775808 := by
 simp [Lit.wf, IntKind.min, IntKind.max, IntKind.signed, IntKind.bits] at h
 omega
theorem tape_arg {x : AV} (h : OkArg (true, tyT) x) : ∃ t : Tp, wkA x = etp t ∧ -9223372036854775808 ≤ t.dim ∧ t.dim < 9223372036854775808 := by
 obtain ⟨cs, rfl, c1, c1', rfl, ⟨els, f, rfl, _, _, he⟩, c2, c2', rfl, ⟨els2, f2, rfl, _, _, he2⟩, c3, c3', rfl, ⟨d, rfl, wd⟩, c4, c4', rfl, ⟨p, rfl, wp⟩, rfl⟩ := h
 obtain ⟨l, hl⟩ := ins_rows els he
 obtain ⟨m, hm⟩ := int_rows els2 he2
 refine ⟨⟨l, m, d, p⟩, ?_, i64_wf wd⟩
 simp [wkA, wkR, hl, hm]
abbrev tyW : Ty := .cons tyP (.cons tyP (.cons (.int .i64) .nil))
theorem pcells {cs : List AV} (h : Ok tyP cs) : ∃ t : PoF, wkR cs = [.b t.t.1, .sl (u32s t.t.2.1) .an, .sl (u32s t.t.2.2) .an, .sl (rowF t.y) .an, .sl (rowF t.p) .an] := by
 obtain ⟨c1, c1', rfl, h1, c2, c2', rfl, h2, c3, c3', rfl, h3, rfl⟩ := h
 obtain ⟨t, e1⟩ := fcells h1
 obtain ⟨y, e2⟩ := frow_cell h2
 obtain ⟨p, e3⟩ := frow_cell h3
 refine ⟨⟨t, y, p⟩, ?_⟩
 simp only [wkR_append, e1, e2, e3]
 rfl
theorem way_arg {x : AV} (h : OkArg (true, tyW) x) : ∃ (a b : PoF) (n : Int), wkA x = .agg [.b a.t.1, .sl (u32s a.t.2.1) .an, .sl (u32s a.t.2.2) .an, .sl (rowF a.y) .an, .sl (rowF a.p) .an, .b b.t.1, .sl (u32s b.t.2.1) .an, .sl (u32s b.t.2.2) .an, .sl (rowF b.y) .an, .sl (rowF b.p) .an, .i .i64 n] := by
 obtain ⟨cs, rfl, c1, c1', rfl, h1, c2, c2', rfl, h2, c3, c3', rfl, ⟨n, rfl, _⟩, rfl⟩ := h
 obtain ⟨a, e1⟩ := pcells h1
 obtain ⟨b, e2⟩ := pcells h2
 refine ⟨a, b, n, ?_⟩
 rw [wkA]
 simp only [wkR_append, e1, e2]
 rfl
theorem rows2_arg {x : AV} (h : OkArg (true, repTy 2 (.sl tyF)) x) : ∃ u v : List Fz, wkA x = .agg [.sl (rowF u) .an, .sl (rowF v) .an] := by
 obtain ⟨cs, rfl, c1, c1', rfl, h1, c2, c2', rfl, h2, rfl⟩ := h
 obtain ⟨u, e1⟩ := frow_cell h1
 obtain ⟨v, e2⟩ := frow_cell h2
 refine ⟨u, v, ?_⟩
 rw [wkA]
 simp only [wkR_append, e1, e2]
 rfl
end Go.Ab
section
namespace Go.Proofs.YtebcadckeepbdaaGreatDoor
open Go Go.Ab Go.ChangeShapes Go.WideShapes Go.ChangeAt Go.RowKit
theorem Tryz.own : ownKnob Tryz.prog.godebug = none := by kernel_rfl
theorem Tryz.laidOut : laidOutB Tryz.prog = true := by kernel_rfl
theorem Tryz.mixed : Tryz.prog.follows .mixedOrders = true := by kernel_rfl
theorem Tryz.rowed : mapsRowed Tryz.prog = true := by kernel_rfl
theorem Tryz.heard : Tryz.prog.stopsHeard = true := by kernel_rfl
theorem Tryz.enters : Tryz.prog.mayEnter = true := by kernel_rfl
theorem Tryz.keys : Tryz.prog.plainKeys = Rows.pullSumsRow.plainKeys := by kernel_rfl
theorem Tryz.lifts : Tryz.prog.liftsFinal = Rows.pullSumsRow.lifted := by kernel_rfl
theorem Tryz.makes : Tryz.prog.make = some Rows.pullSumsRow.make := by kernel_rfl
def laid2 : List (String × DataW Unit) := [("unicode/utf8.acceptRanges", Rows.laid_unicode_utf8_acceptRanges), ("unicode/utf8.first", Rows.laid_unicode_utf8_first)]
noncomputable def laidWorld (os : Os) : World :=
 let put (h : Array Obj) (g : Nat) (cs : Array Value) : Array Obj := h.modify g fun
  | .cells _ t frozen => .cells cs t frozen
  | o => o
 let w0 := World.holding Tryz.prog os ⟨#[], #[], []⟩
 let h1 := put w0.heap 1 (Lib.firstTab.map fun z => Value.int .u8 z).toArray
 let h2 := put h1 2 ((List.range 16).flatMap fun i => [Value.int .u8 (Lib.accLo i), Value.int .u8 (Lib.accHi i)]).toArray
 { w0 with heap := h2 }
theorem laid_met (os : Os) (args : Array Value) : laidMetH Tryz.prog laid2 ((laidWorld os).forCall (fun _ _ => 0) ⟨#[], args, []⟩).memory :=
 laidMetH_of_parts3 (fuel := 8) (laidMet_of_run' 8 (by kernel_rfl) (by kernel_rfl)) (by kernel_rfl) (by kernel_rfl)
theorem laid_shaped (os : Os) : (laidWorld os).Shaped Tryz.prog := World.shaped_of_RefB (by kernel_rfl) (by kernel_rfl)
theorem tab_all : TOk Tryz.prog nu (fun u => lTab.lookup u) := lTab_ok (text_ok Tryz.mixed) (join_ok)
end Go.Proofs.YtebcadckeepbdaaGreatDoor
end
namespace Go.Ab
theorem val_inj : ∀ (a b : List UInt32), a.length = b.length → val a = val b → a = b
 | [], [], _, _ => rfl
 | x :: a, y :: b, hl, hv => by
  simp only [val_cons] at hv
  have hx := u32_lt x
  have hy := u32_lt y
  have h1 : x.toNat = y.toNat := by omega
  have h2 : val a = val b := by omega
  rw [UInt32.toNat_inj.1 h1, val_inj a b (by simpa using hl) h2]
 | [], _ :: _, hl, _ => by simp at hl
 | _ :: _, [], hl, _ => by simp at hl
theorem cmpN_zero {x y : Nat} : cmpN x y = 0 ↔ x = y := by
 unfold cmpN
 split
 ·constructor
  ·intro h; omega
  ·intro h; omega
 ·split
  ·constructor
   ·intro h; omega
   ·intro h; omega
  ·constructor
   ·intro _; omega
   ·intro _; rfl
theorem sg_pow (z : Int) : ∀ t : Nat, sg (decide (z < 0) && decide (t % 2 = 1)) (z.natAbs ^ t) = z ^ t
 | 0 => by simp [sg]
 | t + 1 => by
  have ih := sg_pow z t
  have hz : sg (decide (z < 0)) z.natAbs = z := by
   unfold sg
   by_cases h : z < 0
   ·simp only [h, decide_true, if_true]; omega
   ·simp only [h, decide_false, Bool.false_eq_true, if_false]; omega
  have hm := sg_mul (decide (z < 0) && decide (t % 2 = 1)) (decide (z < 0)) (z.natAbs ^ t) z.natAbs
  rw [ih, hz] at hm
  rw [Int.pow_succ, ← hm, Nat.pow_succ]
  congr 1
  rcases Nat.mod_two_eq_zero_or_one t with h | h
  ·have h2 : (t + 1) % 2 = 1 := by omega
   rw [h, h2]
   cases decide (z < 0) <;> rfl
  ·have h2 : (t + 1) % 2 = 0 := by omega
   rw [h, h2]
   cases decide (z < 0) <;> rfl
theorem pow_len {x L : Nat} (h : (ofN x).length ≤ L) : ∀ t : Nat, (ofN (x ^ t)).length ≤ t * L + 1
 | 0 => by rw [Nat.pow_zero, ofN_one]; simp
 | t + 1 => by
  have ih := pow_len h t
  have := nat_mul_len ih h
  rw [Nat.pow_succ, Nat.succ_mul]
  omega
section
variable {T : Tbl} [CLimb T] [CNat T] [CProd T] [CTwos T] [CQuot T] [CQuotD T] [CWhole T] [CCommon T] [CFrac T] [CFrac3 T]
theorem frac_right (x : Fz) (hx : fsz x ≤ 10000) : callF T 208 [efz x] = some (.b (rightF x)) := by
 have hn := frac_norm (T := T) x hx
 have hs := sz_fv (x := x) (L := 10000) hx (by decide)
 have l1 := sz_num (fv x)
 have l2 := sz_den (fv x)
 unfold rightF
 have e' : fz (fv x) = (decide ((fv x).num < 0), ofN (fv x).num.natAbs, ofN (fv x).den) := rfl
 rw [e'] at hn ⊢
 obtain ⟨n, a, d⟩ := x
 have la := fsz_a (n, a, d)
 have ld := fsz_d (n, a, d)
 simp only at la ld
 generalize decide ((fv (n, a, d)).num < 0) = m at *
 generalize ofN (fv (n, a, d)).num.natAbs = b at *
 generalize ofN (fv (n, a, d)).den = e at *
 have c1 := nat_cmp (T := T) a b (by omega) (by omega)
 have c2 := nat_cmp (T := T) d e (by omega) (by omega)
 clear e' hs
 change callF T 207 [.agg [.b n, .sl (u32s a) .an, .sl (u32s d) .an]] = some (.agg [.b m, .sl (u32s b) .an, .sl (u32s e) .an]) at hn
 rw [f208 _ rfl, b208]
 by_cases h1 : n = m
 case neg =>
  have hd : decide ((n, a, d) = (m, b, e)) = false := by simp [h1]
  have hb : (n == m) = false := by simpa using h1
  rw [hd]
  simp -implicitDefEqProofs [hn, hb]
 subst h1
 by_cases h2 : a.length = b.length
 case neg =>
  have hd : decide ((n, a, d) = (n, b, e)) = false := by
   have : a ≠ b := fun h => h2 (by rw [h])
   simp [this]
  have hb : ((a.length : Int) == b.length) = false := by simp; omega
  have hb' : ¬ (a.length : Int) = b.length := by omega
  rw [hd]
  simp -implicitDefEqProofs [hn, hb, hb', h2]
 by_cases h3 : d.length = e.length
 case neg =>
  have hd : decide ((n, a, d) = (n, b, e)) = false := by
   have : d ≠ e := fun h => h3 (by rw [h])
   simp [this]
  have hb : ((d.length : Int) == e.length) = false := by simp; omega
  have hb' : ¬ (d.length : Int) = e.length := by omega
  rw [hd]
  simp -implicitDefEqProofs [hn, h2, hb, hb', h3]
 by_cases h4 : val a = val b
 case neg =>
  have hd : decide ((n, a, d) = (n, b, e)) = false := by
   have : a ≠ b := fun h => h4 (by rw [h])
   simp [this]
  have hc : ¬ cmpN (val a) (val b) = 0 := fun h => h4 (cmpN_zero.1 h)
  rw [hd]
  generalize cmpN (val a) (val b) = k at *
  simp -implicitDefEqProofs [hn, h2, h3, c1, hc]
 have hab := val_inj a b h2 h4
 subst hab
 have hk : cmpN (val a) (val a) = 0 := cmpN_zero.2 rfl
 rw [hk] at c1
 by_cases h5 : val d = val e
 case neg =>
  have hd : decide ((n, a, d) = (n, a, e)) = false := by
   have : d ≠ e := fun h => h5 (by rw [h])
   simp [this]
  have hc : ¬ cmpN (val d) (val e) = 0 := fun h => h5 (cmpN_zero.1 h)
  rw [hd]
  generalize cmpN (val d) (val e) = k at *
  simp -implicitDefEqProofs [hn, h3, c1, c2, hc]
 have hde := val_inj d e h3 h5
 subst hde
 have hk2 : cmpN (val d) (val d) = 0 := cmpN_zero.2 rfl
 rw [hk2] at c2
 have hd : decide ((n, a, d) = (n, a, d)) = true := by simp
 rw [hd]
 simp -implicitDefEqProofs [hn, c1, c2]
def stPw (a : List UInt32) (k i : Nat) : St := ⟨[(0, .sl (u32s a) .an), (5, .sl (u32s (ofN (val a ^ i))) .an), (7, .i .i64 k), (8, .i .i64 i)], [], 2⟩
theorem frac_power (a : List UInt32) (k : Nat) (hk : k ≤ 8) (ha : a.length ≤ 1100) : callF T 219 [.sl (u32s a) .an, .i .i64 k] = some (.sl (u32s (ofN (val a ^ k))) .an) := by
 have h : loopN T 0 0 (.norm false [5]) l219_0 (stPw a k 0) = some (.n, ⟨[(5, .sl (u32s (ofN (val a ^ k))) .an)], [], 2⟩) := by
  refine range_loop (stPw a k) k _ (fun i hi => ?_) ?_
  ·have hl := pow_len (L := 1100) (Nat.le_trans (ofN_length_le a) ha) i
   have c := prod_mul (T := T) (ofN (val a ^ i)) a (by omega) (by omega)
   rw [val_ofN, ← Nat.pow_succ] at c
   have hw := wrapS hi (by omega)
   unfold stPw
   generalize ofN (val a ^ i) = M at *
   generalize ofN (val a ^ (i + 1)) = M' at *
   simp -implicitDefEqProofs [l219_0, hi, hw, c]
  ·unfold stPw
   generalize ofN (val a ^ k) = M at *
   constructor <;> simp -implicitDefEqProofs [l219_0]
 have ho := nat_of (T := T) 1 (by decide)
 unfold stPw at h
 rw [Nat.pow_zero] at h
 simp only [Int.natCast_zero] at h
 generalize ofN 1 = O at *
 rw [f219 _ rfl, b219]
 generalize ofN (val a ^ k) = M at *
 simp -implicitDefEqProofs [ho, h]
def powR (q : Rat) (e : Int) : Rat × Bool := if -8 ≤ e ∧ e ≤ 8 ∧ ¬ (e < 0 ∧ q = 0) then (powZ q e, true) else (0, false)
theorem fz_pow (q : Rat) (t : Nat) : fz (q ^ t) = (decide (q.num < 0) && decide (t % 2 = 1) && decide (q.num.natAbs ^ t ≠ 0), ofN (q.num.natAbs ^ t), ofN (q.den ^ t)) := by
 have h := sg_pow q.num t
 unfold fz
 rw [Rat.num_pow, Rat.den_pow, ← h, sg_neg, sg_abs]
theorem fz_powi (q : Rat) (t : Nat) (hq : q ≠ 0) : fz (q ^ t)⁻¹ = (decide (q.num < 0) && decide (t % 2 = 1) && decide (q.den ^ t ≠ 0), ofN (q.den ^ t), ofN (q.num.natAbs ^ t)) := by
 have h := sg_pow q.num t
 have hn : q.num ≠ 0 := fun h => hq (Rat.num_eq_zero.1 h)
 have hz : q.num ^ t ≠ 0 := Int.pow_ne_zero hn
 have hd : q.den ^ t ≠ 0 := Nat.pos_iff_ne_zero.1 (Nat.pow_pos q.den_pos)
 have ha : q.num.natAbs ^ t ≠ 0 := Nat.pos_iff_ne_zero.1 (Nat.pow_pos (Int.natAbs_pos.2 hn))
 have e1 : (q ^ t)⁻¹.num = (q.num ^ t).sign * ((q.den ^ t : Nat) : Int) := by rw [Rat.num_inv, Rat.num_pow, Rat.den_pow]
 have e2 : (q ^ t)⁻¹.den = q.num.natAbs ^ t := by rw [Rat.den_inv, Rat.num_pow, if_neg hz, Int.natAbs_pow]
 have e3 : ((q.num ^ t).sign * ((q.den ^ t : Nat) : Int)).natAbs = q.den ^ t := by
  rw [Int.natAbs_mul, Int.natAbs_sign_of_ne_zero hz, Nat.one_mul, Int.natAbs_natCast]
 have e4 : decide ((q.num ^ t).sign * ((q.den ^ t : Nat) : Int) < 0) = decide (q.num ^ t < 0) := by
  rw [decide_eq_decide]
  rcases Int.lt_trichotomy (q.num ^ t) 0 with h1 | h1 | h1
  ·rw [Int.sign_eq_neg_one_of_neg h1]
   constructor
   ·intro _; exact h1
   ·intro _; omega
  ·exact absurd h1 hz
  ·rw [Int.sign_eq_one_of_pos h1]
   constructor
   ·intro _; omega
   ·intro _; omega
 have e5 : decide (q.num ^ t < 0) = (decide (q.num < 0) && decide (t % 2 = 1)) := by
  rw [← h, sg_neg, decide_eq_true ha, Bool.and_true]
 unfold fz
 rw [e1, e2, e3, e4, e5, decide_eq_true hd, Bool.and_true]
theorem frac_pow (x : Fz) (e : Int) (hx : fsz x ≤ 1000) : callF T 220 [efz x, .i .i64 e] = some (.tup [efz (fz (powR (fv x) e).1), .b (powR (fv x) e).2]) := by
 have h0 := frac_of0 (T := T)
 have hsg := frac_sign (T := T) x (by omega)
 have hn := frac_norm (T := T) x (by omega)
 have hs := sz_fv (x := x) (L := 1000) hx (by decide)
 have l1 := sz_num (fv x)
 have l2 := sz_den (fv x)
 unfold powR
 rw [f220 _ rfl, b220]
 by_cases h1 : e < -8
 ·rw [if_neg (by omega)]
  generalize fz 0 = Z at *
  simp -implicitDefEqProofs [h0, h1]
 by_cases h2 : 8 < e
 ·rw [if_neg (by omega)]
  generalize fz 0 = Z at *
  simp -implicitDefEqProofs [h0, h1, h2]
 obtain ⟨q, hq⟩ : ∃ q, q = fv x := ⟨_, rfl⟩
 rw [← hq] at hsg hn hs l1 l2 ⊢
 clear hq
 have e' : fz q = (decide (q.num < 0), ofN q.num.natAbs, ofN q.den) := rfl
 rw [e'] at hn
 have hA : (ofN q.num.natAbs).length ≤ 1100 := by omega
 have hD : (ofN q.den).length ≤ 1100 := by omega
 have pA : ∀ k : Nat, k ≤ 8 → callF T 219 [.sl (u32s (ofN q.num.natAbs)) .an, .i .i64 k] = some (.sl (u32s (ofN (q.num.natAbs ^ k))) .an) := fun k hk => by
  have := frac_power (T := T) (ofN q.num.natAbs) k hk hA
  rwa [val_ofN] at this
 have pD : ∀ k : Nat, k ≤ 8 → callF T 219 [.sl (u32s (ofN q.den)) .an, .i .i64 k] = some (.sl (u32s (ofN (q.den ^ k))) .an) := fun k hk => by
  have := frac_power (T := T) (ofN q.den) k hk hD
  rwa [val_ofN] at this
 have lA : ∀ k : Nat, k ≤ 8 → (ofN (q.num.natAbs ^ k)).length ≤ 1000000 := fun k hk => by
  have := pow_len hA k
  have : k * 1100 ≤ 8 * 1100 := Nat.mul_le_mul_right _ hk
  omega
 have lD : ∀ k : Nat, k ≤ 8 → (ofN (q.den ^ k)).length ≤ 1000000 := fun k hk => by
  have := pow_len hD k
  have : k * 1100 ≤ 8 * 1100 := Nat.mul_le_mul_right _ hk
  omega
 have hodd : ∀ k : Nat, k ≤ 8 → (((k : Int).tmod 2) == 1) = decide (k % 2 = 1) := fun k hk => by
  have e : (k : Int).tmod 2 = ((k % 2 : Nat) : Int) := by rw [show (2 : Int) = ((2 : Nat) : Int) from rfl, ← Int.ofNat_tmod]
  rw [e, Bool.eq_iff_iff]
  simp
  omega
 by_cases h3 : e < 0
 case neg =>
  obtain ⟨n, rfl⟩ : ∃ n : Nat, e = n := ⟨e.toNat, by omega⟩
  have hn8 : n ≤ 8 := by omega
  rw [if_pos (by omega)]
  have hw : IntKind.wrap .i64 (-(n : Int)) = -(n : Int) := wrap_i64 _ (by omega)
  have cA := pA n hn8
  have cD := pD n hn8
  have ho := hodd n hn8
  have hnorm := whole_norm (T := T) (decide (q.num < 0) && decide (n % 2 = 1)) (ofN (q.num.natAbs ^ n)) (lA n hn8)
  rw [show wv (decide (q.num < 0) && decide (n % 2 = 1)) (ofN (q.num.natAbs ^ n)) = sg (decide (q.num < 0) && decide (n % 2 = 1)) (q.num.natAbs ^ n) by unfold wv; rw [val_ofN], ez_sg] at hnorm
  have hf := fz_pow q n
  have hz : powZ q (n : Int) = q ^ n := Rat.zpow_natCast q n
  simp only [hz]
  rw [hf]
  clear hf hz pA pD lA lD hodd hsg e'
  have h4 : ¬ (8 : Int) < n := by omega
  have h5 : ¬ ((n : Int) < -(n : Int)) := by omega
  have h6 : ¬ (n : Int) < 0 := by omega
  have h1' : ¬ (n : Int) < -8 := by omega
  generalize ofN (q.num.natAbs ^ n) = AP at *
  generalize ofN (q.den ^ n) = DP at *
  generalize decide (q.num.natAbs ^ n ≠ 0) = NZ at *
  generalize ofN q.num.natAbs = A at *
  generalize ofN q.den = D at *
  generalize decide (q.num < 0) = NG at *
  generalize decide (n % 2 = 1) = OD at *
  cases NG with
  | false =>
   simp only [Bool.false_and] at hnorm ⊢
   simp -implicitDefEqProofs [h0, hn, h4, h5, h6, h1', hw, mm2, cA, cD, ho, hnorm]
  | true =>
   simp only [Bool.true_and] at hnorm ⊢
   cases OD with
   | false => simp -implicitDefEqProofs [h0, hn, h4, h5, h6, h1', hw, mm2, cA, cD, ho, hnorm]
   | true => simp -implicitDefEqProofs [h0, hn, h4, h5, h6, h1', hw, mm2, cA, cD, ho, hnorm]
 by_cases h7 : q = 0
 ·rw [if_neg (by intro h; exact h.2.2 ⟨h3, h7⟩)]
  have hs0 : sgQ q = 0 := sgQ_zero.2 h7
  rw [hs0] at hsg
  generalize fz 0 = Z at *
  have h4 : ¬ (8 : Int) < e := by omega
  simp -implicitDefEqProofs [h0, h1, h4, h3, hsg]
 rw [if_pos (by refine ⟨by omega, by omega, fun h => h7 h.2⟩)]
 obtain ⟨n, rfl⟩ : ∃ n : Nat, e = -(n : Int) := ⟨(-e).toNat, by omega⟩
 have hn8 : n ≤ 8 := by omega
 have hsz : ¬ sgQ q = 0 := fun h => h7 (sgQ_zero.1 h)
 have hw : IntKind.wrap .i64 (n : Int) = (n : Int) := wrap_i64 _ (by omega)
 have cA := pA n hn8
 have cD := pD n hn8
 have ho := hodd n hn8
 have hnorm := whole_norm (T := T) (decide (q.num < 0) && decide (n % 2 = 1)) (ofN (q.den ^ n)) (lD n hn8)
 rw [show wv (decide (q.num < 0) && decide (n % 2 = 1)) (ofN (q.den ^ n)) = sg (decide (q.num < 0) && decide (n % 2 = 1)) (q.den ^ n) by unfold wv; rw [val_ofN], ez_sg] at hnorm
 have hf := fz_powi q n h7
 have hz : powZ q (-(n : Int)) = (q ^ n)⁻¹ := by unfold powZ; rw [Rat.zpow_neg, Rat.zpow_natCast]
 simp only [hz]
 rw [hf]
 clear hf hz pA pD lA lD hodd e'
 have h4 : ¬ (8 : Int) < -(n : Int) := by omega
 have h5 : (-(n : Int) < (n : Int)) := by omega
 have h1' : ¬ -(n : Int) < -8 := by omega
 have h6 : (n : Int) ≠ 0 := by omega
 have h6' : 0 < (n : Int) := by omega
 have h6'' : 0 < n := by omega
 have h1'' : ¬ 8 < n := by omega
 generalize ofN (q.num.natAbs ^ n) = AP at *
 generalize ofN (q.den ^ n) = DP at *
 generalize decide (q.den ^ n ≠ 0) = NZ at *
 generalize ofN q.num.natAbs = A at *
 generalize ofN q.den = D at *
 generalize decide (q.num < 0) = NG at *
 generalize decide (n % 2 = 1) = OD at *
 generalize sgQ q = SG at *
 cases NG with
 | false =>
  simp only [Bool.false_and] at hnorm ⊢
  simp -implicitDefEqProofs [h0, hn, h3, h4, h5, h6, h6', h6'', h1', h1'', hw, mm2, cA, cD, ho, hnorm, hsg, hsz]
 | true =>
  simp only [Bool.true_and] at hnorm ⊢
  cases OD with
  | false => simp -implicitDefEqProofs [h0, hn, h3, h4, h5, h6, h6', h6'', h1', h1'', hw, mm2, cA, cD, ho, hnorm, hsg, hsz]
  | true => simp -implicitDefEqProofs [h0, hn, h3, h4, h5, h6, h6', h6'', h1', h1'', hw, mm2, cA, cD, ho, hnorm, hsg, hsz]
end
@[simp] theorem ints_length (l : List Int) : (ints l).length = l.length := by simp [ints]
@[simp] theorem ints_wk (l : List Int) : wkL (ints l) = ints l := by rw [wkL_map]; simp [ints, wkR, wkA]
@[simp] theorem ints_get (l : List Int) (i : Nat) (h : i < (ints l).length) : (ints l)[i] = [.i .i64 (l[i]'(by simpa using h))] := by simp [ints]
@[simp] theorem ints_take (l : List Int) (n : Nat) : (ints l).take n = ints (l.take n) := by simp [ints]
@[simp] theorem ints_nil : ints [] = [] := rfl
section
variable {T : Tbl} [CLimb T] [CNat T] [CProd T] [CTwos T] [CQuot T] [CQuotD T] [CWhole T] [CCommon T] [CFrac T] [CFrac3 T] [CTape T]
theorem tape_below (i m : Int) : callF T 435 [.i .i64 i, .i .i64 m] = some (.b (belowB i m)) := by
 rw [f435 _ rfl, b435]
 unfold belowB
 by_cases h : 0 ≤ i
 ·by_cases h2 : i < m <;> simp -implicitDefEqProofs [h, h2]
 ·simp -implicitDefEqProofs [h]
theorem tape_of (i : Ins) : callF T 437 [.agg (celI i)] = some (.agg [.i .i64 i.op, .i .i64 i.a, .i .i64 i.b]) := by
 rw [f437 _ rfl, b437]
 simp -implicitDefEqProofs
theorem tape_blank (x : Fz) (hx : fsz x ≤ 10000) : callF T 438 [efz x] = some (.b (blankF x)) := by
 obtain ⟨n, a, d⟩ := x
 rw [f438 _ rfl, b438]
 unfold blankF
 cases n with
 | true => simp -implicitDefEqProofs
 | false =>
  by_cases h : a = []
  ·subst h
   by_cases h2 : d = []
   ·subst h2
    simp -implicitDefEqProofs
   ·have e2 : d.isEmpty = false := by cases d <;> simp_all
    simp -implicitDefEqProofs [h2, e2]
  ·have e2 : a.isEmpty = false := by cases a <;> simp_all
   simp -implicitDefEqProofs [h, e2]
theorem tape_reads (i : Ins) : callF T 439 [.agg (celI i)] = some (.sl (ints (readsI i)) .an) := by
 obtain ⟨op, a, b, n⟩ := i
 rw [f439 _ rfl, b439]
 unfold readsI
 simp only
 by_cases h6 : op = 6
 ·subst h6
  simp -implicitDefEqProofs [ints]
 by_cases h11 : op = 11
 ·subst h11
  simp -implicitDefEqProofs [ints]
 rw [if_neg (by omega)]
 by_cases h7 : op = 7
 ·subst h7
  simp -implicitDefEqProofs [ints]
 by_cases h8 : op = 8
 ·subst h8
  simp -implicitDefEqProofs [ints]
 by_cases h9 : op = 9
 ·subst h9
  simp -implicitDefEqProofs [ints]
 by_cases h10 : op = 10
 ·subst h10
  simp -implicitDefEqProofs [ints]
 rw [if_neg (by omega)]
 simp -implicitDefEqProofs [h6, h7, h8, h9, h10, h11]
theorem reads_len (i : Ins) : (readsI i).length ≤ 2 := by
 unfold readsI
 split
 ·simp
 ·split <;> simp
def stMy (t : Tp) (p : Nat) (x : Ins) (i : Nat) : St :=
 ⟨[(1, .i .i64 p), (2, .ptr (.loc 2) 1 4 0 0), (5, .ptr (.loc 5) 2 6 0 0), (30, .sl (ints (readsI x)) .an), (31, .i .i64 (readsI x).length), (32, .i .i64 i)],
  [(.loc 2, ⟨1, .str, 4, [[.sl (rowI t.code) .an, .sl (ints t.outs) .an, .i .i64 t.dim, .i .i64 t.par]]⟩), (.loc 5, ⟨2, .str, 6, [celI x]⟩)], 4⟩
theorem may_loop (t : Tp) (p : Nat) (x : Ins) : loopN T 0 0 (.norm false [2, 5]) l434_0 (stMy t p x 0) =
  if ((readsI x).all fun r => belowB r p) = true then some (.n, ⟨[(2, .ptr (.loc 2) 1 4 0 0), (5, .ptr (.loc 5) 2 6 0 0)],
   [(.loc 2, ⟨1, .str, 4, [[.sl (rowI t.code) .an, .sl (ints t.outs) .an, .i .i64 t.dim, .i .i64 t.par]]⟩), (.loc 5, ⟨2, .str, 6, [celI x]⟩)], 4⟩)
  else some (.r, ⟨[(4, .b false)], [], 2⟩) := by
 have hlen := reads_len x
 refine until_loop (stMy t p x) (readsI x).length (fun i => if (((readsI x).drop i).all fun r => belowB r p) = true then some (.n, _) else some (.r, _)) (fun i hi => ?_) ?_
 ·have hg : (readsI x)[i]? = some ((readsI x)[i]'hi) := List.getElem?_eq_getElem hi
  have hws := wrapS hi (by omega)
  have hd : (readsI x).drop i = (readsI x)[i]'hi :: (readsI x).drop (i + 1) := List.drop_eq_getElem_cons hi
  have cb := tape_below (T := T) ((readsI x)[i]'hi) p
  have hi' : (i : Int) < (readsI x).length := by omega
  by_cases hb : belowB ((readsI x)[i]'hi) p = true
  ·left
   rw [hb] at cb
   refine ⟨?_, by rw [hd]; simp only [List.all_cons, hb, Bool.true_and]⟩
   unfold stMy
   generalize readsI x = R at *
   simp -implicitDefEqProofs [l434_0, hi, hi', hg, hws, cb]
  ·right
   have hb' : belowB ((readsI x)[i]'hi) p = false := by simpa using hb
   rw [hb'] at cb
   have hall : (((readsI x).drop i).all fun r => belowB r p) = false := by rw [hd, List.all_cons, hb']; rfl
   simp only [hall, Bool.false_eq_true, if_false]
   unfold stMy
   clear hall hd
   generalize readsI x = R at *
   constructor <;> simp -implicitDefEqProofs [l434_0, hi, hi', hg, cb]
 ·simp only [List.drop_length, List.all_nil, if_true]
  unfold stMy
  generalize readsI x = R at *
  constructor <;> simp -implicitDefEqProofs [l434_0]
theorem tape_may (t : Tp) (p : Nat) (x : Ins) (hx : t.code[p]? = some x) (hf : fsz x.n ≤ 10000) (hl : t.code.length ≤ 4294967296) : callF T 434 [etp t, .i .i64 p] = some (.b (mayI t.dim t.par p x)) := by
 have hp := get_lt hx
 have hp2 : (p : Int) < t.code.length := by omega
 have ho := tape_of (T := T) x
 have hbl := tape_blank (T := T) x.n hf
 have hrd := tape_reads (T := T) x
 have hlo := may_loop (T := T) t p x
 have hrt := frac_right (T := T) x.n hf
 unfold mayI
 unfold stMy at hlo
 simp only [Int.natCast_zero] at hlo
 have cy := tape_below (T := T) x.a t.dim
 have cp := tape_below (T := T) x.a t.par
 have hr2 : (((readsI x).length : Int) == 2) = decide ((readsI x).length = 2) := by
  rw [Bool.eq_iff_iff]
  simp
  omega
 rw [f434 _ rfl, b434]
 generalize readsI x = R at *
 generalize rightF x.n = RT at *
 generalize blankF x.n = BL at *
 generalize belowB x.a t.dim = B1 at *
 generalize belowB x.a t.par = B2 at *
 generalize (R.all fun r => belowB r p) = AL at *
 obtain ⟨code, outs, dim, par⟩ := t
 obtain ⟨op, a, b, n⟩ := x
 dsimp only at hx hp hp2 ho hbl hrd hlo hrt cy cp ⊢
 have hxe := (List.getElem?_eq_some_iff.1 hx).2
 clear hf hl
 by_cases h1 : op = 1
 ·subst h1
  by_cases ha : a = 0
  ·subst ha
   by_cases hb : b = 0
   ·subst hb
    simp -implicitDefEqProofs [hp, hp2, hx, hxe, ho, hrt]
   ·simp -implicitDefEqProofs [hp, hp2, hx, hxe, ho, hrt, hb]
  ·simp -implicitDefEqProofs [hp, hp2, hx, hxe, ho, hrt, ha]
 rw [if_neg h1]
 cases BL with
 | false => simp -implicitDefEqProofs [hp, hp2, hx, hxe, h1, hbl]
 | true =>
 cases AL with
 | false =>
  simp only [Bool.false_eq_true, if_false] at hlo
  simp -implicitDefEqProofs [hp, hp2, hx, hxe, h1, hbl, hrd, hlo]
 | true =>
 simp only [if_true] at hlo
 by_cases h2 : op = 2
 ·subst h2
  by_cases ha : a = 0
  ·subst ha
   by_cases hb : b = 0
   ·subst hb
    simp -implicitDefEqProofs [hp, hp2, hx, hxe, ho, hbl, hrd, hlo]
   ·simp -implicitDefEqProofs [hp, hp2, hx, hxe, ho, hbl, hrd, hlo, hb]
  ·simp -implicitDefEqProofs [hp, hp2, hx, hxe, ho, hbl, hrd, hlo, ha]
 by_cases h3 : op = 3
 ·subst h3
  cases B1 with
  | false => simp -implicitDefEqProofs [hp, hp2, hx, hxe, hbl, hrd, hlo, cy]
  | true =>
   by_cases hb : b = 0
   ·subst hb
    simp -implicitDefEqProofs [hp, hp2, hx, hxe, hbl, hrd, hlo, cy]
   ·simp -implicitDefEqProofs [hp, hp2, hx, hxe, hbl, hrd, hlo, cy, hb]
 by_cases h4 : op = 4
 ·subst h4
  cases B2 with
  | false => simp -implicitDefEqProofs [hp, hp2, hx, hxe, hbl, hrd, hlo, cp]
  | true =>
   by_cases hb : b = 0
   ·subst hb
    simp -implicitDefEqProofs [hp, hp2, hx, hxe, hbl, hrd, hlo, cp]
   ·simp -implicitDefEqProofs [hp, hp2, hx, hxe, hbl, hrd, hlo, cp, hb]
 by_cases h6 : op = 6
 ·subst h6
  by_cases hb : b = 0
  ·subst hb
   simp -implicitDefEqProofs [hp, hp2, hx, hxe, hbl, hrd, hlo]
  ·simp -implicitDefEqProofs [hp, hp2, hx, hxe, hbl, hrd, hlo, hb]
 by_cases h11 : op = 11
 ·subst h11
  by_cases hb : -8 ≤ b
  ·by_cases hb2 : b ≤ 8
   ·simp -implicitDefEqProofs [hp, hp2, hx, hxe, hbl, hrd, hlo, hb, hb2]
   ·simp -implicitDefEqProofs [hp, hp2, hx, hxe, hbl, hrd, hlo, hb, hb2]
  ·simp -implicitDefEqProofs [hp, hp2, hx, hxe, hbl, hrd, hlo, hb]
 simp -implicitDefEqProofs [hp, hp2, hx, hxe, h1, h2, h3, h4, h6, h11, hbl, hrd, hlo, hr2]
end
section
variable {T : Tbl} [CLimb T] [CNat T] [CProd T] [CTwos T] [CQuot T] [CQuotD T] [CWhole T] [CCommon T] [CFrac T] [CFrac3 T] [CTape T]
structure Small (t : Tp) : Prop where
 code : t.code.length ≤ 4294967296
 outs : t.outs.length ≤ 4294967296
 ns : ∀ i ∈ t.code, fsz i.n ≤ 10000
 d1 : -9223372036854775808 ≤ t.dim
 d2 : t.dim < 9223372036854775808
theorem tape_whole (t : Tp) (hs : Small t) : callF T 433 [etp t] = some (.b (wholeT t)) := by
 obtain ⟨h1, h2, _, d1, d2⟩ := hs
 have c0 : callF T 435 [.i .i64 (IntKind.wrap .i64 (t.dim - 1)), .i .i64 6] = some (.b (belowB (t.dim - 1) 6)) := by
  rw [tape_below]
  congr 2
  by_cases hm : t.dim = -9223372036854775808
  ·rw [hm]
   decide
  ·rw [wrap_i64 _ (by omega)]
 have c1 := tape_below (T := T) t.par 7
 unfold wholeT
 obtain ⟨code, outs, dim, par⟩ := t
 dsimp only at *
 have e1 : ((outs.length : Int) == dim) = decide ((outs.length : Int) = dim) := rfl
 rw [f433 _ rfl, b433]
 generalize belowB (dim - 1) 6 = B1 at *
 generalize belowB par 7 = B2 at *
 cases B1 with
 | false => simp -implicitDefEqProofs [c0]
 | true =>
 cases B2 with
 | false => simp -implicitDefEqProofs [c0, c1]
 | true =>
 by_cases ho : (outs.length : Int) = dim
 ·by_cases hc : code.length ≤ 300
  ·have hc' : (code.length : Int) ≤ 300 := by omega
   simp -implicitDefEqProofs [c0, c1, ho, hc, hc']
  ·have hc' : 300 < (code.length : Int) := by omega
   simp -implicitDefEqProofs [c0, c1, ho, hc, hc']
 ·simp -implicitDefEqProofs [c0, c1, ho]
def bxT (t : Tp) : Box := ⟨1, .str, 4, [[.sl (rowI t.code) .an, .sl (ints t.outs) .an, .i .i64 t.dim, .i .i64 t.par]]⟩
def stW1 (t : Tp) (i : Nat) : St := ⟨[(1, .ptr (.loc 1) 1 4 0 0), (11, .i .i64 t.code.length), (12, .i .i64 i)], [(.loc 1, bxT t)], 3⟩
theorem wrong_loop1 (t : Tp) (hs : Small t) : loopN T 0 0 (.norm false [1]) l430_0 (stW1 t 0) =
  if firstI t.dim t.par 0 t.code = -1 then some (.n, ⟨[(1, .ptr (.loc 1) 1 4 0 0)], [(.loc 1, bxT t)], 3⟩) else some (.r, ⟨[(2, .i .i64 (firstI t.dim t.par 0 t.code))], [], 2⟩) := by
 have hc := hs.code
 have e0 : t.code.drop 0 = t.code := rfl
 rw [← e0]
 refine until_loop (stW1 t) t.code.length (fun i => if firstI t.dim t.par i (t.code.drop i) = -1 then some (.n, _) else some (.r, ⟨[(2, .i .i64 (firstI t.dim t.par i (t.code.drop i)))], [], 2⟩)) (fun i hi => ?_) ?_
 ·have hg : t.code[i]? = some (t.code[i]'hi) := List.getElem?_eq_getElem hi
  have hws := wrapS hi (by omega)
  have hd : t.code.drop i = t.code[i]'hi :: t.code.drop (i + 1) := List.drop_eq_getElem_cons hi
  have cm := tape_may (T := T) t i _ hg (hs.ns _ (List.getElem_mem hi)) hc
  have hi' : (i : Int) < t.code.length := by omega
  have hf : firstI t.dim t.par i (t.code.drop i) = if mayI t.dim t.par i (t.code[i]'hi) then firstI t.dim t.par (i + 1) (t.code.drop (i + 1)) else i := by rw [hd]; rfl
  by_cases hb : mayI t.dim t.par i (t.code[i]'hi) = true
  ·left
   rw [hb] at cm
   rw [if_pos hb] at hf
   refine ⟨?_, by simp only [hf]⟩
   unfold stW1 bxT
   clear hf hd
   simp -implicitDefEqProofs [l430_0, hi, hi', hws, cm]
  ·right
   have hb' : mayI t.dim t.par i (t.code[i]'hi) = false := by simpa using hb
   rw [hb'] at cm
   rw [if_neg hb] at hf
   have hne : ¬ (i : Int) = -1 := by omega
   simp only [hf, if_neg hne]
   unfold stW1 bxT
   clear hf hd
   constructor <;> simp -implicitDefEqProofs [l430_0, hi, hi', cm]
 ·have hf : firstI t.dim t.par t.code.length (t.code.drop t.code.length) = -1 := by rw [List.drop_length]; rfl
  simp only [hf, if_true]
  unfold stW1 bxT
  constructor <;> simp -implicitDefEqProofs [l430_0]
def stW2 (t : Tp) (i : Nat) : St := ⟨[(1, .ptr (.loc 1) 1 4 0 0), (22, .sl (ints t.outs) .an), (23, .i .i64 t.outs.length), (24, .i .i64 i)], [(.loc 1, bxT t)], 3⟩
theorem wrong_loop2 (t : Tp) (hs : Small t) : loopN T 0 2 (.norm false []) l430_1 (stW2 t 0) =
  if (t.outs.all fun o => belowB o t.code.length) = true then some (.n, ⟨[], [], 2⟩) else some (.r, ⟨[(2, .i .i64 t.code.length)], [], 2⟩) := by
 have hc := hs.outs
 refine until_loop (stW2 t) t.outs.length (fun i => if ((t.outs.drop i).all fun o => belowB o t.code.length) = true then some (.n, _) else some (.r, _)) (fun i hi => ?_) ?_
 ·have hg : t.outs[i]? = some (t.outs[i]'hi) := List.getElem?_eq_getElem hi
  have hws := wrapS hi (by omega)
  have hd : t.outs.drop i = t.outs[i]'hi :: t.outs.drop (i + 1) := List.drop_eq_getElem_cons hi
  have cm := tape_below (T := T) (t.outs[i]'hi) t.code.length
  have hi' : (i : Int) < t.outs.length := by omega
  by_cases hb : belowB (t.outs[i]'hi) t.code.length = true
  ·left
   rw [hb] at cm
   refine ⟨?_, by rw [hd]; simp only [List.all_cons, hb, Bool.true_and]⟩
   unfold stW2 bxT
   clear hd
   simp -implicitDefEqProofs [l430_1, hi, hi', hg, hws, cm]
  ·right
   have hb' : belowB (t.outs[i]'hi) t.code.length = false := by simpa using hb
   rw [hb'] at cm
   have hall : ((t.outs.drop i).all fun o => belowB o t.code.length) = false := by rw [hd, List.all_cons, hb']; rfl
   simp only [hall, Bool.false_eq_true, if_false]
   unfold stW2 bxT
   clear hall hd
   constructor <;> simp -implicitDefEqProofs [l430_1, hi, hi', hg, cm]
 ·simp only [List.drop_length, List.all_nil, if_true]
  unfold stW2 bxT
  constructor <;> simp -implicitDefEqProofs [l430_1]
theorem tape_wrong (t : Tp) (hs : Small t) : callF T 430 [etp t] = some (.i .i64 (wrongT t)) := by
 have cw := tape_whole (T := T) t hs
 have h1 := wrong_loop1 (T := T) t hs
 have h2 := wrong_loop2 (T := T) t hs
 unfold wrongT
 unfold stW1 bxT at h1
 unfold stW2 bxT at h2
 simp only [Int.natCast_zero] at h1 h2
 generalize hfi : firstI t.dim t.par 0 t.code = F at *
 generalize hal : (t.outs.all fun o => belowB o t.code.length) = AL at *
 generalize hwt : wholeT t = W at *
 obtain ⟨code, outs, dim, par⟩ := t
 dsimp only at *
 rw [f430 _ rfl, b430]
 cases W with
 | false => simp -implicitDefEqProofs [cw]
 | true =>
 by_cases hf : F = -1
 ·subst hf
  cases AL with
  | false =>
   simp only [Bool.false_eq_true, if_false] at h2
   simp -implicitDefEqProofs [cw, h1, h2]
  | true =>
   simp only [if_true] at h1 h2
   simp -implicitDefEqProofs [cw, h1, h2]
 ·rw [if_neg hf] at h1
  simp -implicitDefEqProofs [cw, h1, hf]
theorem tape_right (t : Tp) (hs : Small t) : callF T 421 [etp t] = some (.b (okT t)) := by
 have cw := tape_wrong (T := T) t hs
 have e : (wrongT t == -1) = okT t := rfl
 rw [f421 _ rfl, b421, ← e]
 generalize wrongT t = W at *
 obtain ⟨code, outs, dim, par⟩ := t
 simp -implicitDefEqProofs [cw]
end
def limI (n : Int) : Int := if n < 0 then 0 else if 4096 < n then 4096 else n
abbrev bxG (g : Nat) (s p L : Int) : Box := ⟨g, .str, 3, [[.i .i64 s, .i .i64 p, .i .i64 L]]⟩
def cntS (s : Int) : Int := IntKind.wrap .i64 (s + 1)
def cntP (p : Int) (x : Fz) : Int := if p < (sizF x : Int) then (sizF x : Int) else p
section
variable {T : Tbl} [CLimb T] [CNat T] [CProd T] [CTwos T] [CQuot T] [CQuotD T] [CWhole T] [CCommon T] [CFrac T] [CFrac3 T] [CFrac5 T] [CPow T] [CTape T] [CGauge T] [CEval T]
theorem frac_size' (x : Fz) (hx : fsz x ≤ 10000) : callF T 223 [efz x] = some (.i .i64 (sizF x)) := by
 have h1 := fsz_a x
 have h2 := fsz_d x
 have c1 := twos_len (T := T) x.2.1 (by omega)
 have c2 := twos_len (T := T) x.2.2 (by omega)
 have b1 := blen_le' (x := val x.2.1) (k := 10000) (Nat.le_trans (ofN_length_le x.2.1) (by omega))
 have b2 := blen_le' (x := val x.2.2) (k := 10000) (Nat.le_trans (ofN_length_le x.2.2) (by omega))
 have w : IntKind.wrap .i64 ((blen (val x.2.1) : Int) + (blen (val x.2.2) : Int)) = ((sizF x : Nat) : Int) := by
  have e : ((sizF x : Nat) : Int) = (blen (val x.2.1) : Int) + (blen (val x.2.2) : Int) := by unfold sizF; omega
  rw [e]
  exact wrap_i64 _ (by omega)
 rw [f223 _ rfl, b223]
 generalize sizF x = S at *
 generalize blen (val x.2.1) = B1 at *
 generalize blen (val x.2.2) = B2 at *
 simp -implicitDefEqProofs [c1, c2, w]
theorem gauge_new (n : Int) : callH T 406 [.i .i64 n] [] = some (.ptr (.loc 7) 1 3 0 0, [(.loc 7, bxG 1 0 0 (limI n))]) := by
 unfold limI
 rw [f406 _ _ rfl, b406]
 by_cases h1 : n < 0
 ·simp -implicitDefEqProofs [h1, mm2]
 ·by_cases h2 : 4096 < n
  ·simp -implicitDefEqProofs [h1, h2, mm2]
  ·simp -implicitDefEqProofs [h1, h2, mm2]
theorem gauge_note (s p L k : Int) : callH T 426 [.ptr (.bor 0) 0 3 0 0, .i .i64 k] [(.bor 0, bxG 0 s p L)] = some (.tup [], [(.bor 0, bxG 0 (cntS s) (if p < k then k else p) L)]) := by
 unfold cntS
 rw [f426 _ _ rfl, b426]
 by_cases h1 : p < k
 ·simp -implicitDefEqProofs [h1, mm2]
 ·simp -implicitDefEqProofs [h1, mm2]
theorem gauge_take (s p L : Int) (x : Fz) (hx : fsz x ≤ 10000) : callH T 411 [.ptr (.bor 0) 0 3 0 0, efz x] [(.bor 0, bxG 0 s p L)] = some (.b (decide ((sizF x : Int) ≤ L)), [(.bor 0, bxG 0 (cntS s) (cntP p x) L)]) := by
 have h1 := frac_size' (T := T) x hx
 have h2 := gauge_note (T := T) s p L (sizF x)
 unfold cntP
 rw [f411 _ _ rfl, b411]
 generalize cntS s = s' at *
 generalize (if p < (sizF x : Int) then (sizF x : Int) else p) = p' at *
 generalize (sizF x : Int) = z at *
 simp -implicitDefEqProofs [h1, h2]
def stEn (l : List Fz) (i : Nat) : St := ⟨[(3, .bs (.loc 3) 1 3 0 i), (6, .sl (rowF l) .an), (7, .i .i64 l.length), (8, .i .i64 i)], [(.loc 3, ⟨1, .own, 3, rowF (nrm (l.take i))⟩)], 3⟩
theorem eval_norms (l : List Fz) (hl : l.length ≤ 1000) (hw : ∀ x ∈ l, fsz x ≤ 1000) : callF T 420 [.sl (rowF l) .an] = some (.sl (rowF (nrm l)) .an) := by
 have h : loopN T 0 0 (.norm false [3]) l420_0 (stEn l 0) = some (.n, ⟨[(3, .bs (.loc 3) 1 3 0 l.length)], [(.loc 3, ⟨1, .own, 3, rowF (nrm l)⟩)], 3⟩) := by
  refine range_loop (stEn l) l.length _ (fun i hi => ?_) ?_
  ·have hg : l[i]? = some (l[i]'hi) := List.getElem?_eq_getElem hi
   have hws := wrapS hi (by omega)
   have hn := frac_norm (T := T) (l[i]'hi) (Nat.le_trans (hw _ (List.getElem_mem hi)) (by decide))
   have e : nrm (l.take (i + 1)) = nrm (l.take i) ++ [fz (fv (l[i]'hi))] := take_map_succ l _ hi
   have hp := rowF_push (m := nrm (l.take i)) (n := i) (by simp [nrm]; omega) (fz (fv (l[i]'hi)))
   have hml : (nrm (l.take i)).length = i := by simp [nrm]; omega
   unfold stEn
   rw [e]
   clear e
   generalize nrm (l.take i) = M at *
   generalize fz (fv (l[i]'hi)) = z at *
   have hb : i ≤ 4294967295 := by omega
   simp -implicitDefEqProofs [l420_0, hi, hg, hws, hn, hp, hml, hb]
  ·unfold stEn
   rw [List.take_of_length_le (Nat.le_refl _)]
   generalize nrm l = M
   constructor <;> simp -implicitDefEqProofs [l420_0]
 unfold stEn at h
 simp [nrm] at h
 have ht : List.take l.length (List.map (fun x => fz (fv x)) l) = List.map (fun x => fz (fv x)) l := List.take_of_length_le (by simp)
 rw [f420 _ rfl, b420]
 simp -implicitDefEqProofs [h, nrm, ht]
structure PoS (x : PoF) (B : Nat) : Prop where
 t : fsz x.t ≤ B
 y : ∀ u ∈ x.y, fsz u ≤ B
 p : ∀ u ∈ x.p, fsz u ≤ B
 yl : x.y.length ≤ 1000
 pl : x.p.length ≤ 1000
theorem po_norm (x : PoF) : x.v.f = ⟨fz (fv x.t), nrm x.y, nrm x.p⟩ := by
 unfold PoF.v Po.f
 rw [fzs_nrm, fzs_nrm]
theorem eval_norm (x : PoF) (h : PoS x 1000) : callF T 405 [ept x] = some (ept x.v.f) := by
 have h1 := frac_norm (T := T) x.t (Nat.le_trans h.t (by decide))
 have h2 := eval_norms (T := T) x.y h.yl h.y
 have h3 := eval_norms (T := T) x.p h.pl h.p
 rw [po_norm]
 obtain ⟨t, y, p⟩ := x
 dsimp only at *
 rw [f405 _ rfl, b405]
 generalize fz (fv t) = t' at *
 generalize nrm y = y' at *
 generalize nrm p = p' at *
 simp -implicitDefEqProofs [h1, h2, h3]
end
theorem powR_of {q : Rat} {e : Int} (h1 : -8 ≤ e) (h2 : e ≤ 8) : powR q e = if e < 0 ∧ q = 0 then (0, false) else (powZ q e, true) := by
 unfold powR
 by_cases h : e < 0 ∧ q = 0
 ·rw [if_pos h, if_neg (by intro hh; exact hh.2.2 h)]
 ·rw [if_neg h, if_pos ⟨h1, h2, h⟩]
abbrev mD : AV := .agg [.dead]
section
variable {T : Tbl} [CLimb T] [CNat T] [CProd T] [CTwos T] [CQuot T] [CQuotD T] [CWhole T] [CCommon T] [CFrac T] [CFrac3 T] [CFrac5 T] [CPow T] [CTape T] [CGauge T] [CEval T] [CRun T] [CIfc T]
theorem fr_of (x : Fz) (hx : fsz x ≤ 1000) : callF T 445 [mD, efz x] = some (efz (fz (fv x))) := by
 have h := frac_norm (T := T) x (by omega)
 rw [f445 _ rfl, b445]
 generalize fz (fv x) = z at *
 simp -implicitDefEqProofs [h]
theorem fr_neg (x : Fz) (hx : fsz x ≤ 1000) : callF T 444 [mD, efz x] = some (efz (fz (-fv x))) := by
 have h := frac_neg (T := T) x (by omega)
 rw [f444 _ rfl, b444]
 generalize fz (-fv x) = z at *
 simp -implicitDefEqProofs [h]
theorem fr_add (x y : Fz) (hx : fsz x ≤ 1000) (hy : fsz y ≤ 1000) : callF T 441 [mD, efz x, efz y] = some (efz (fz (fv x + fv y))) := by
 have h := frac_add (T := T) x y hx hy
 rw [f441 _ rfl, b441]
 generalize fz (fv x + fv y) = z at *
 simp -implicitDefEqProofs [h]
theorem fr_sub (x y : Fz) (hx : fsz x ≤ 1000) (hy : fsz y ≤ 1000) : callF T 448 [mD, efz x, efz y] = some (efz (fz (fv x - fv y))) := by
 have h := frac_sub (T := T) x y hx hy
 rw [f448 _ rfl, b448]
 generalize fz (fv x - fv y) = z at *
 simp -implicitDefEqProofs [h]
theorem fr_mul (x y : Fz) (hx : fsz x ≤ 1000) (hy : fsz y ≤ 1000) : callF T 443 [mD, efz x, efz y] = some (efz (fz (fv x * fv y))) := by
 have h := frac_mul (T := T) x y hx hy
 rw [f443 _ rfl, b443]
 generalize fz (fv x * fv y) = z at *
 simp -implicitDefEqProofs [h]
theorem fr_quo (x y : Fz) (hx : fsz x ≤ 1000) (hy : fsz y ≤ 1000) : callF T 447 [mD, efz x, efz y] = some (.tup [efz (fz (fv x / fv y)), .b (decide (fv y ≠ 0))]) := by
 have h := frac_quo (T := T) x y hx hy
 rw [f447 _ rfl, b447]
 generalize fz (fv x / fv y) = z at *
 generalize decide (fv y ≠ 0) = ok at *
 simp -implicitDefEqProofs [h]
theorem fr_pow (x : Fz) (e : Int) (hx : fsz x ≤ 1000) : callF T 446 [mD, efz x, .i .i64 e] = some (.tup [efz (fz (powR (fv x) e).1), .b (powR (fv x) e).2]) := by
 have h := frac_pow (T := T) x e hx
 rw [f446 _ rfl, b446]
 generalize fz (powR (fv x) e).1 = z at *
 generalize (powR (fv x) e).2 = ok at *
 simp -implicitDefEqProofs [h]
theorem fr_fits (s p L : Int) (x : Fz) (hx : fsz x ≤ 10000) : callH T 442 [.agg [.ptr (.bor 0) 0 3 0 0], efz x] [(.bor 0, bxG 0 s p L)] = some (.b (decide ((sizF x : Int) ≤ L)), [(.bor 0, bxG 0 (cntS s) (cntP p x) L)]) := by
 have h := gauge_take (T := T) s p L x hx
 rw [f442 _ _ rfl, b442]
 generalize cntS s = s' at *
 generalize cntP p x = p' at *
 simp -implicitDefEqProofs [h]
theorem run_leaf (i : Ins) (P : Po) (hop : i.op = 1 ∨ i.op = 2 ∨ i.op = 3 ∨ i.op = 4) (hn : fsz i.n ≤ 1000) (hy : i.op = 3 → 0 ≤ i.a ∧ i.a < P.y.length) (hp : i.op = 4 → 0 ≤ i.a ∧ i.a < P.p.length) :
  callF T 431 [mD, .agg (celI i), ept P.f] = some (efz (fz (valI P [] i).1)) := by
 have h1 := fr_of (T := T) i.n hn
 obtain ⟨op, a, b, n⟩ := i
 obtain ⟨t, y, p⟩ := P
 dsimp only at *
 unfold valI Po.f
 dsimp only
 rw [f431 _ rfl, b431]
 rcases hop with rfl | rfl | rfl | rfl
 ·show _ = some (efz (fz (fv n)))
  generalize fz (fv n) = z at *
  generalize fzs y = Y at *
  generalize fzs p = PP at *
  generalize fz t = tt at *
  simp -implicitDefEqProofs [h1]
 ·show _ = some (efz (fz t))
  generalize fzs y = Y at *
  generalize fzs p = PP at *
  generalize fz t = tt at *
  simp -implicitDefEqProofs
 ·obtain ⟨k, rfl⟩ : ∃ k : Nat, a = k := ⟨a.toNat, by have := (hy rfl).1; omega⟩
  have hk : k < y.length := by have := (hy rfl).2; omega
  have hk' : (k : Int) < y.length := by omega
  have hg : (fzs y)[k]? = some (fz (y[k]'hk)) := fzs_get (List.getElem?_eq_getElem hk)
  have hge := (List.getElem?_eq_some_iff.1 hg).2
  have hl : (fzs y).length = y.length := fzs_length y
  have e : gI y (k : Int) = y[k]'hk := by simp [gI, List.getD, List.getElem?_eq_getElem hk]
  show _ = some (efz (fz (gI _ _)))
  rw [e]
  generalize fzs y = Y at *
  generalize fzs p = PP at *
  generalize fz t = tt at *
  generalize fz (y[k]'hk) = z at *
  simp -implicitDefEqProofs [hk, hk', hg, hge, hl]
 ·obtain ⟨k, rfl⟩ : ∃ k : Nat, a = k := ⟨a.toNat, by have := (hp rfl).1; omega⟩
  have hk : k < p.length := by have := (hp rfl).2; omega
  have hk' : (k : Int) < p.length := by omega
  have hg : (fzs p)[k]? = some (fz (p[k]'hk)) := fzs_get (List.getElem?_eq_getElem hk)
  have hge := (List.getElem?_eq_some_iff.1 hg).2
  have hl : (fzs p).length = p.length := fzs_length p
  have e : gI p (k : Int) = p[k]'hk := by simp [gI, List.getD, List.getElem?_eq_getElem hk]
  show _ = some (efz (fz (gI _ _)))
  rw [e]
  generalize fzs y = Y at *
  generalize fzs p = PP at *
  generalize fz t = tt at *
  generalize fz (p[k]'hk) = z at *
  simp -implicitDefEqProofs [hk, hk', hg, hge, hl]
theorem gI_get {D : List Rat} {a : Int} (h : 0 ≤ a ∧ a < D.length) : ∃ k : Nat, a = k ∧ (k : Int) < D.length ∧ k < D.length ∧ (fzs D)[k]? = some (fz (gI D a)) := by
 obtain ⟨k, rfl⟩ : ∃ k : Nat, a = k := ⟨a.toNat, by omega⟩
 have hk : k < D.length := by omega
 refine ⟨k, rfl, by omega, hk, ?_⟩
 have e : gI D (k : Int) = D[k]'hk := by simp [gI, List.getD, List.getElem?_eq_getElem hk]
 rw [e]
 exact fzs_get (List.getElem?_eq_getElem hk)
theorem gI_sz {D : List Rat} {a : Int} {B : Nat} (hB : 1 ≤ B) (h : ∀ q ∈ D, sz q ≤ B) : sz (gI D a) ≤ B := by
 unfold gI List.getD
 cases hx : D[a.toNat]? with
 | none => exact Nat.le_trans (Nat.le_of_eq sz_zero) hB
 | some q => exact h q (List.mem_of_getElem? hx)
theorem run_step (i : Ins) (P : Po) (D : List Rat) (dim par : Int) (hm : mayI dim par D.length i = true) (hd : (P.y.length : Int) = dim) (hp : (P.p.length : Int) = par) (hn : fsz i.n ≤ 1000) (hD : ∀ q ∈ D, sz q ≤ 1000) :
  callF T 422 [mD, .agg (celI i), ept P.f, .sl (rowF (fzs D)) .an] = some (.tup [efz (fz (valI P D i).1), .b (valI P D i).2]) := by
 have hop := may_op hm
 by_cases hleaf : i.op = 1 ∨ i.op = 2 ∨ i.op = 3 ∨ i.op = 4
 ·have h1 := run_leaf (T := T) i P hleaf hn (fun h => by have := may_y hm h; omega) (fun h => by have := may_p hm h; omega)
  have e : valI P D i = ((valI P [] i).1, true) := by
   unfold valI
   rcases hleaf with h | h | h | h <;> simp [h]
  rw [e]
  generalize fz (valI P [] i).1 = z at *
  generalize fzs D = DD at *
  obtain ⟨op, a, b, n⟩ := i
  generalize P.f = Q at *
  obtain ⟨⟨t0, t1, t2⟩, y, p⟩ := Q
  dsimp only at *
  rw [f422 _ rfl, b422]
  rcases hleaf with rfl | rfl | rfl | rfl <;> simp -implicitDefEqProofs [h1]
 have ha := may_a hm (by omega)
 obtain ⟨k, hk1, hk2, hk3, hka⟩ := gI_get ha
 have sa : fsz (fz (gI D i.a)) ≤ 1000 := gI_sz (by decide) hD
 have hkae := (List.getElem?_eq_some_iff.1 hka).2
 have hl : (fzs D).length = D.length := fzs_length D
 have c6 := fr_neg (T := T) (fz (gI D i.a)) sa
 have c11 := fr_pow (T := T) (fz (gI D i.a)) i.b sa
 rw [fv_fz] at c6 c11
 by_cases h6 : i.op = 6
 ·have e : valI P D i = (-gI D i.a, true) := by simp [valI, h6]
  rw [e]
  generalize fz (-gI D i.a) = z at *
  generalize fz (gI D i.a) = u at *
  generalize fzs D = DD at *
  obtain ⟨op, a, b, n⟩ := i
  generalize P.f = Q at *
  obtain ⟨⟨t0, t1, t2⟩, y, p⟩ := Q
  dsimp only at *
  subst h6 hk1
  rw [f422 _ rfl, b422]
  simp -implicitDefEqProofs [hk2, hk3, hka, hkae, hl, c6]
 by_cases h11 : i.op = 11
 ·have hb := may_e hm h11
  have e : valI P D i = powR (gI D i.a) i.b := by simp [valI, h11, powR_of hb.1 hb.2]
  rw [e]
  generalize fz (powR (gI D i.a) i.b).1 = z at *
  generalize (powR (gI D i.a) i.b).2 = ok at *
  generalize fz (gI D i.a) = u at *
  generalize fzs D = DD at *
  obtain ⟨op, a, b, n⟩ := i
  generalize P.f = Q at *
  obtain ⟨⟨t0, t1, t2⟩, y, p⟩ := Q
  dsimp only at *
  subst h11 hk1
  rw [f422 _ rfl, b422]
  simp -implicitDefEqProofs [hk2, hk3, hka, hkae, hl, c11]
 have hb := may_b hm (by omega)
 obtain ⟨j, hj1, hj2, hj3, hjb⟩ := gI_get hb
 have sb : fsz (fz (gI D i.b)) ≤ 1000 := gI_sz (by decide) hD
 have hjbe := (List.getElem?_eq_some_iff.1 hjb).2
 have c7 := fr_add (T := T) (fz (gI D i.a)) (fz (gI D i.b)) sa sb
 have c8 := fr_sub (T := T) (fz (gI D i.a)) (fz (gI D i.b)) sa sb
 have c9 := fr_mul (T := T) (fz (gI D i.a)) (fz (gI D i.b)) sa sb
 have c10 := fr_quo (T := T) (fz (gI D i.a)) (fz (gI D i.b)) sa sb
 rw [fv_fz, fv_fz] at c7 c8 c9 c10
 have e7 : i.op = 7 → valI P D i = (gI D i.a + gI D i.b, true) := fun h => by simp [valI, h]
 have e8 : i.op = 8 → valI P D i = (gI D i.a - gI D i.b, true) := fun h => by simp [valI, h]
 have e9 : i.op = 9 → valI P D i = (gI D i.a * gI D i.b, true) := fun h => by simp [valI, h]
 have e10 : i.op = 10 → valI P D i = (gI D i.a / gI D i.b, decide (gI D i.b ≠ 0)) := fun h => by simp [valI, h]
 generalize gI D i.a = A at *
 generalize gI D i.b = B at *
 generalize fz A = u at *
 generalize fz B = v at *
 generalize valI P D i = V at *
 generalize fzs D = DD at *
 obtain ⟨op, a, b, n⟩ := i
 generalize P.f = Q at *
 obtain ⟨⟨t0, t1, t2⟩, y, p⟩ := Q
 dsimp only at *
 subst hk1 hj1
 rw [f422 _ rfl, b422]
 rcases (show op = 7 ∨ op = 8 ∨ op = 9 ∨ op = 10 by omega) with rfl | rfl | rfl | rfl
 ·rw [e7 rfl]
  generalize fz (A + B) = z at *
  simp -implicitDefEqProofs [hk2, hk3, hka, hkae, hj2, hj3, hjb, hjbe, hl, c7]
 ·rw [e8 rfl]
  generalize fz (A - B) = z at *
  simp -implicitDefEqProofs [hk2, hk3, hka, hkae, hj2, hj3, hjb, hjbe, hl, c8]
 ·rw [e9 rfl]
  generalize fz (A * B) = z at *
  simp -implicitDefEqProofs [hk2, hk3, hka, hkae, hj2, hj3, hjb, hjbe, hl, c9]
 ·rw [e10 rfl]
  generalize fz (A / B) = z at *
  generalize decide (B ≠ 0) = ok at *
  simp -implicitDefEqProofs [hk2, hk3, hka, hkae, hj2, hj3, hjb, hjbe, hl, c10]
end
theorem blen_len {n b : Nat} (h : blen n ≤ b) : (ofN n).length ≤ b / 32 + 1 := by
 refine ofN_length_le' ?_
 unfold blen at h
 split at h
 ·rename_i h0
  subst h0
  exact Nat.pow_pos (by decide)
 ·rename_i h0
  have h1 : n < 2 ^ (n.log2 + 1) := (Nat.log2_lt h0).1 (Nat.lt_succ_self _)
  have h3 : (4294967296 : Nat) ^ (b / 32 + 1) = 2 ^ (32 * (b / 32 + 1)) := by rw [Nat.pow_mul]
  have h2 : 2 ^ (n.log2 + 1) ≤ 2 ^ (32 * (b / 32 + 1)) := Nat.pow_le_pow_right (by decide) (by omega)
  omega
theorem sizQ_sz {q : Rat} {b : Nat} (h : sizQ q ≤ b) : sz q ≤ b / 32 + 1 := by
 unfold sizQ sizF fz at h
 rw [val_ofN, val_ofN] at h
 exact Nat.max_le.2 ⟨blen_len (Nat.le_trans (Nat.le_add_right _ _) h), blen_len (Nat.le_trans (Nat.le_add_left _ _) h)⟩
theorem sz_pow (q : Rat) (n : Nat) : sz (q ^ n) ≤ n * sz q + 1 := by
 unfold sz
 rw [Rat.num_pow, Rat.den_pow, Int.natAbs_pow]
 exact Nat.max_le.2 ⟨pow_len (Nat.le_max_left _ _) n, pow_len (Nat.le_max_right _ _) n⟩
theorem powZ_sz {q : Rat} {e : Int} {B : Nat} (hq : sz q ≤ B) (h1 : -8 ≤ e) (h2 : e ≤ 8) : sz (powZ q e) ≤ 8 * B + 1 := by
 unfold powZ
 rcases Int.le_total 0 e with h | h
 ·obtain ⟨n, rfl⟩ : ∃ n : Nat, e = n := ⟨e.toNat, by omega⟩
  rw [Rat.zpow_natCast]
  have := sz_pow q n
  have h3 : n * sz q ≤ 8 * B := Nat.mul_le_mul (by omega) hq
  omega
 ·obtain ⟨n, rfl⟩ : ∃ n : Nat, e = -(n : Int) := ⟨(-e).toNat, by omega⟩
  rw [Rat.zpow_neg, Rat.zpow_natCast]
  have := sz_pow q n
  have h3 : n * sz q ≤ 8 * B := Nat.mul_le_mul (by omega) hq
  have := sz_inv (q ^ n)
  omega
structure PvS (P : Po) (B : Nat) : Prop where
 t : sz P.t ≤ B
 y : ∀ q ∈ P.y, sz q ≤ B
 p : ∀ q ∈ P.p, sz q ≤ B
theorem valI_sz {P : Po} {D : List Rat} {i : Ins} {dim par : Int} {p : Nat} (hm : mayI dim par p i = true) (hP : PvS P 1000) (hn : fsz i.n ≤ 1000) (hD : ∀ q ∈ D, sz q ≤ 129) : sz (valI P D i).1 ≤ 2000 := by
 have ga := gI_sz (D := D) (a := i.a) (B := 129) (by decide) hD
 have gb := gI_sz (D := D) (a := i.b) (B := 129) (by decide) hD
 have gy := gI_sz (D := P.y) (a := i.a) (B := 1000) (by decide) hP.y
 have gp := gI_sz (D := P.p) (a := i.a) (B := 1000) (by decide) hP.p
 have gn := sz_fv (x := i.n) (L := 1000) hn (by decide)
 have gt := hP.t
 rcases may_op hm with h | h | h | h | h | h | h | h | h | h
 ·simp [valI, h]; omega
 ·simp [valI, h]; omega
 ·simp [valI, h]; omega
 ·simp [valI, h]; omega
 ·simp [valI, h, sz_neg]; omega
 ·have := sz_add (gI D i.a) (gI D i.b); simp [valI, h]; omega
 ·have := sz_sub (gI D i.a) (gI D i.b); simp [valI, h]; omega
 ·have := sz_mul (gI D i.a) (gI D i.b); simp [valI, h]; omega
 ·have := sz_div (gI D i.a) (gI D i.b); simp [valI, h]; omega
 ·obtain ⟨e1, e2⟩ := may_e hm h
  have h1 := powZ_sz ga e1 e2
  by_cases hc : i.b < 0 ∧ gI D i.a = 0
  ·simp [valI, h, hc, sz_zero]
  ·simp only [valI, h]
   simp only [hc]
   simp
   omega
def runG (lim : Nat) (P : Po) : List Ins → List Rat → Int → Int → Int × Int
 | [], _, s, p => (s, p)
 | i :: r, D, s, p => if (valI P D i).2 = false then (s, p) else if lim < sizQ (valI P D i).1 then (cntS s, cntP p (fz (valI P D i).1)) else runG lim P r (D ++ [(valI P D i).1]) (cntS s) (cntP p (fz (valI P D i).1))
theorem runG_cons (lim : Nat) (P : Po) (i : Ins) (r : List Ins) (D : List Rat) (s p : Int) : runG lim P (i :: r) D s p = if (valI P D i).2 = false then (s, p) else if lim < sizQ (valI P D i).1 then (cntS s, cntP p (fz (valI P D i).1)) else runG lim P r (D ++ [(valI P D i).1]) (cntS s) (cntP p (fz (valI P D i).1)) := rfl
abbrev bxM : Box := ⟨3, .str, 1, [[.ptr (.bor 0) 0 3 0 0]]⟩
abbrev bxP (g : Nat) (x : PoF) : Box := ⟨g, .str, 5, [[.b x.t.1, .sl (u32s x.t.2.1) .an, .sl (u32s x.t.2.2) .an, .sl (rowF x.y) .an, .sl (rowF x.p) .an]]⟩
abbrev bxF (g : Nat) (a b c d : Int) : Box := ⟨g, .str, 4, [[.i .i64 a, .i .i64 b, .i .i64 c, .i .i64 d]]⟩
def stRun (Q : PoF) (L : Int) (code : List Ins) (i : Nat) (D : List Fz) (s p : Int) (kd : Kind) : St :=
 ⟨[(3, .ptr (.loc 3) 3 1 0 0), (5, .ptr (.loc 5) 4 5 0 0), (7, .ptr (.loc 7) 5 4 0 0), (8, .bs (.loc 8) 6 3 0 i), (34, .sl (rowI code) .an), (35, .i .i64 code.length), (36, .i .i64 i)],
  [(.bor 0, bxG 0 s p L), (.loc 3, bxM), (.loc 5, bxP 4 Q), (.loc 7, bxF 5 0 0 0 0), (.loc 8, ⟨6, kd, 3, rowF D⟩)], 8⟩
def endN (n : Nat) (D : List Fz) (s p L : Int) (kd : Kind) : Ex × St := (.n, ⟨[(7, .ptr (.loc 7) 3 4 0 0), (8, .bs (.loc 8) 4 3 0 n)], [(.bor 0, bxG 0 s p L), (.loc 7, bxF 3 0 0 0 0), (.loc 8, ⟨4, kd, 3, rowF D⟩)], 6⟩)
def endR (kind at_ s p L : Int) : Ex × St := (.r, ⟨[(6, .sl [] .an), (7, .ptr (.loc 7) 3 4 0 0)], [(.bor 0, bxG 0 s p L), (.loc 7, bxF 3 kind 0 0 at_)], 5⟩)
section
variable {T : Tbl} [CLimb T] [CNat T] [CProd T] [CTwos T] [CQuot T] [CQuotD T] [CWhole T] [CCommon T] [CFrac T] [CFrac3 T] [CFrac5 T] [CPow T] [CTape T] [CGauge T] [CEval T] [CRun T] [CIfc T]
theorem rn_round {kd : Kind} (hk : kd = .own ∨ kd = .sh) (x : Ins) (Q : PoF) (L : Int) (code : List Ins) (i : Nat) (D : List Fz) (s p : Int) (v : Fz) (hi : i < code.length) (hc : code.length ≤ 1000) (hg : code[i]? = some x) (hdl : D.length = i) (hv : fsz v ≤ 10000)
  (c : callF T 422 [mD, .agg (celI x), ept Q, .sl (rowF D) .an] = some (.tup [efz v, .b true])) (hf : (sizF v : Int) ≤ L) :
  evX (orc T) T 1 l407_0 (stRun Q L code i D s p kd) = some (.n, stRun Q L code (i + 1) (D ++ [v]) (cntS s) (cntP p v) .sh) := by
 have hf2 := fr_fits (T := T) s p L v hv
 rw [decide_eq_true hf] at hf2
 have hws := wrapS hi (by omega)
 have hge := (List.getElem?_eq_some_iff.1 hg).2
 have ht : List.take i D = D := List.take_of_length_le (by omega)
 have hp : wkL (rowF D ++ [celF v]) = rowF (D ++ [v]) := by rw [rowF_snoc, rowF_wk]
 have hi' : (i : Int) < code.length := by omega
 have hb : i ≤ 4294967295 := by omega
 generalize cntS s = s' at *
 generalize cntP p v = p' at *
 unfold stRun
 obtain ⟨⟨q0, q1, q2⟩, qy, qp⟩ := Q
 rcases hk with rfl | rfl <;> simp -implicitDefEqProofs [l407_0, hi, hi', hg, hge, hws, c, hf2, hp, hdl, hb, ht]
theorem rn_pole {kd : Kind} (hk : kd = .own ∨ kd = .sh) (x : Ins) (Q : PoF) (L : Int) (code : List Ins) (i : Nat) (D : List Fz) (s p : Int) (v : Fz) (hi : i < code.length) (hc : code.length ≤ 1000) (hg : code[i]? = some x) (hdl : D.length = i)
  (c : callF T 422 [mD, .agg (celI x), ept Q, .sl (rowF D) .an] = some (.tup [efz v, .b false])) :
  evX (orc T) T 1 l407_0 (stRun Q L code i D s p kd) = some (endR 3 i s p L) := by
 have hge := (List.getElem?_eq_some_iff.1 hg).2
 have ht : List.take i D = D := List.take_of_length_le (by omega)
 have hi' : (i : Int) < code.length := by omega
 unfold stRun endR
 obtain ⟨⟨q0, q1, q2⟩, qy, qp⟩ := Q
 rcases hk with rfl | rfl <;> simp -implicitDefEqProofs [l407_0, hi, hi', hg, hge, c, hdl, ht]
theorem rn_bits {kd : Kind} (hk : kd = .own ∨ kd = .sh) (x : Ins) (Q : PoF) (L : Int) (code : List Ins) (i : Nat) (D : List Fz) (s p : Int) (v : Fz) (hi : i < code.length) (hc : code.length ≤ 1000) (hg : code[i]? = some x) (hdl : D.length = i) (hv : fsz v ≤ 10000)
  (c : callF T 422 [mD, .agg (celI x), ept Q, .sl (rowF D) .an] = some (.tup [efz v, .b true])) (hf : ¬ (sizF v : Int) ≤ L) :
  evX (orc T) T 1 l407_0 (stRun Q L code i D s p kd) = some (endR 6 i (cntS s) (cntP p v) L) := by
 have hf2 := fr_fits (T := T) s p L v hv
 rw [decide_eq_false hf] at hf2
 have hge := (List.getElem?_eq_some_iff.1 hg).2
 have ht : List.take i D = D := List.take_of_length_le (by omega)
 have hi' : (i : Int) < code.length := by omega
 generalize cntS s = s' at *
 generalize cntP p v = p' at *
 unfold stRun endR
 obtain ⟨⟨q0, q1, q2⟩, qy, qp⟩ := Q
 rcases hk with rfl | rfl <;> simp -implicitDefEqProofs [l407_0, hi, hi', hg, hge, c, hf2, hdl, ht]
theorem rn_end {kd : Kind} (hk : kd = .own ∨ kd = .sh) (Q : PoF) (L : Int) (code : List Ins) (D : List Fz) (s p : Int) : isEx (evX (orc T) T 1 l407_0 (stRun Q L code code.length D s p kd)) = true ∧
  finX 1 0 (.norm false [7, 8]) (evX (orc T) T 1 l407_0 (stRun Q L code code.length D s p kd)) = some (endN code.length D s p L kd) := by
 unfold stRun endN
 obtain ⟨⟨q0, q1, q2⟩, qy, qp⟩ := Q
 rcases hk with rfl | rfl <;> constructor <;> simp -implicitDefEqProofs [l407_0]
theorem rn_finr (kind at_ s p L : Int) : finX 1 0 (.norm false [7, 8]) (some (endR kind at_ s p L)) = some (endR kind at_ s p L) := by
 unfold endR
 simp -implicitDefEqProofs
def kdE (kd : Kind) (l : List Ins) : Kind := if l = [] then kd else .sh
def endRun (lim : Nat) (P : Po) (code l : List Ins) (D : List Rat) (s p : Int) (kd : Kind) : Ex × St :=
 if (runR lim P l D).2.1 = 0 then endN code.length (fzs (runR lim P l D).1) (runG lim P l D s p).1 (runG lim P l D s p).2 lim (kdE kd l)
 else endR (runR lim P l D).2.1 (runR lim P l D).2.2 (runG lim P l D s p).1 (runG lim P l D s p).2 lim
theorem run_loop (P : Po) (lim : Nat) (hlim : lim ≤ 4096) (t : Tp) (ht : OkTp t) (hn : ∀ i ∈ t.code, fsz i.n ≤ 1000) (hd : (P.y.length : Int) = t.dim) (hp : (P.p.length : Int) = t.par) (hP : PvS P 1000) (s p : Int) :
  loopN T 1 0 (.norm false [7, 8]) l407_0 (stRun P.f lim t.code 0 [] s p .own) = some (endRun lim P t.code t.code [] s p .own) := by
 have hc := ht.cl
 have key := loopN_eq (T := T) (k := 1) (id := 0) (g2 := .norm false [7, 8]) (c := l407_0) (fun x : Nat × List Rat × (Int × Int) × Kind => stRun P.f lim t.code x.1 (fzs x.2.1) x.2.2.1.1 x.2.2.1.2 x.2.2.2)
  (fun x => x.1 ≤ t.code.length ∧ x.2.1.length = x.1 ∧ (∀ q ∈ x.2.1, sz q ≤ 129) ∧ (x.2.2.2 = .own ∨ x.2.2.2 = .sh)) (fun x => t.code.length - x.1)
  (fun x => some (endRun lim P t.code (t.code.drop x.1) x.2.1 x.2.2.1.1 x.2.2.1.2 x.2.2.2)) ?_ (0, [], (s, p), .own) ⟨Nat.zero_le _, rfl, by simp, .inl rfl⟩
 ·exact key
 rintro ⟨i, D, ⟨s, p⟩, kd⟩ ⟨hi, hdl, hD, hk⟩
 dsimp only at *
 by_cases hlt : i < t.code.length
 ·have hg : t.code[i]? = some (t.code[i]'hlt) := List.getElem?_eq_getElem hlt
  have hmem := List.getElem_mem hlt
  have hm := ht.may i _ hg
  have hdr : t.code.drop i = t.code[i]'hlt :: t.code.drop (i + 1) := List.drop_eq_getElem_cons hlt
  generalize hx : t.code[i]'hlt = x at *
  have hm' : mayI t.dim t.par D.length x = true := by rw [hdl]; exact hm
  have c := run_step (T := T) x P D t.dim t.par hm' hd hp (hn x hmem) (fun q hq => Nat.le_trans (hD q hq) (by decide))
  have hvs : fsz (fz (valI P D x).1) ≤ 10000 := Nat.le_trans (valI_sz hm' hP (hn x hmem) hD) (by decide)
  have hfl : (fzs D).length = i := by rw [fzs_length, hdl]
  have hout : endRun lim P t.code (t.code.drop i) D s p kd = endRun lim P t.code (x :: t.code.drop (i + 1)) D s p kd := by rw [hdr]
  rw [hout]
  cases hok : (valI P D x).2 with
  | false =>
   right
   rw [hok] at c
   have e := rn_pole (T := T) hk x P.f lim t.code i (fzs D) s p _ hlt (by omega) hg hfl c
   rw [e, rn_finr]
   refine ⟨rfl, ?_⟩
   have hR : runR lim P (x :: t.code.drop (i + 1)) D = ([], 3, i) := by rw [runR_cons, if_pos hok, hdl]
   have hG : runG lim P (x :: t.code.drop (i + 1)) D s p = (s, p) := by rw [runG_cons, if_pos hok]
   unfold endRun
   rw [hR, hG]
   rfl
  | true =>
   rw [hok] at c
   by_cases hfit : sizQ (valI P D x).1 ≤ lim
   ·left
    have e := rn_round (T := T) hk x P.f lim t.code i (fzs D) s p _ hlt (by omega) hg hfl hvs c (by unfold sizQ at hfit; omega)
    refine ⟨(i + 1, D ++ [(valI P D x).1], (cntS s, cntP p (fz (valI P D x).1)), .sh), ⟨by omega, by simp [hdl], fun q hq => ?_, .inr rfl⟩, by show t.code.length - (i + 1) < t.code.length - i; omega, ?_, ?_⟩
    ·rcases List.mem_append.1 hq with h | h
     ·exact hD q h
     ·rw [List.mem_singleton.1 h]
      have := sizQ_sz hfit
      have : lim / 32 ≤ 128 := by omega
      omega
    ·rw [e]
     simp [fzs]
    ·dsimp only
     congr 1
     have hR : runR lim P (x :: t.code.drop (i + 1)) D = runR lim P (t.code.drop (i + 1)) (D ++ [(valI P D x).1]) := by rw [runR_cons, if_neg (by rw [hok]; decide), if_neg (by omega)]
     have hG : runG lim P (x :: t.code.drop (i + 1)) D s p = runG lim P (t.code.drop (i + 1)) (D ++ [(valI P D x).1]) (cntS s) (cntP p (fz (valI P D x).1)) := by rw [runG_cons, if_neg (by rw [hok]; decide), if_neg (by omega)]
     unfold endRun
     rw [hR, hG]
     have e1 : kdE kd (x :: t.code.drop (i + 1)) = .sh := by simp [kdE]
     have e2 : ∀ l, kdE .sh l = .sh := by intro l; simp [kdE]
     rw [e1, e2]
   ·right
    have e := rn_bits (T := T) hk x P.f lim t.code i (fzs D) s p _ hlt (by omega) hg hfl hvs c (by unfold sizQ at hfit; omega)
    rw [e, rn_finr]
    refine ⟨rfl, ?_⟩
    have hR : runR lim P (x :: t.code.drop (i + 1)) D = ([], 6, i) := by rw [runR_cons, if_neg (by rw [hok]; decide), if_pos (by omega), hdl]
    have hG : runG lim P (x :: t.code.drop (i + 1)) D s p = (cntS s, cntP p (fz (valI P D x).1)) := by rw [runG_cons, if_neg (by rw [hok]; decide), if_pos (by omega)]
    unfold endRun
    rw [hR, hG]
    rfl
 ·right
  have hi2 : i = t.code.length := by omega
  subst hi2
  have e := rn_end (T := T) hk P.f lim t.code (fzs D) s p
  refine ⟨e.1, ?_⟩
  rw [e.2, List.drop_length]
  unfold endRun
  simp [runR, runG, kdE]
end
def fitT (t : Tp) (y p : Nat) : Bool := okT t && decide ((y : Int) = t.dim) && decide ((p : Int) = t.par)
def tapeR (lim : Nat) (t : Tp) (P : Po) : List Rat × Nat × Nat := if fitT t P.y.length P.p.length = true then runR lim P t.code [] else ([], 2, 0)
def outsR (t : Tp) (D : List Rat) : List Rat := t.outs.map (gI D)
def fieldR (lim : Nat) (t : Tp) (P : Po) : List Rat × Nat × Nat := if (tapeR lim t P).2.1 = 0 then (outsR t (tapeR lim t P).1, 0, 0) else ([], (tapeR lim t P).2)
structure TpS (t : Tp) : Prop where
 small : Small t
 ns : ∀ i ∈ t.code, fsz i.n ≤ 1000
abbrev fltA (k s g a : Int) : AV := .agg [.i .i64 k, .i .i64 s, .i .i64 g, .i .i64 a]
theorem fitT_spec {t : Tp} {y p : Nat} (h : fitT t y p = true) : OkTp t ∧ (y : Int) = t.dim ∧ (p : Int) = t.par := by
 unfold fitT at h
 simp only [Bool.and_eq_true, decide_eq_true_eq] at h
 exact ⟨(okT_iff t).1 h.1.1, h.1.2, h.2⟩
section
variable {T : Tbl} [CLimb T] [CNat T] [CProd T] [CTwos T] [CQuot T] [CQuotD T] [CWhole T] [CCommon T] [CFrac T] [CFrac3 T] [CFrac5 T] [CPow T] [CTape T] [CGauge T] [CEval T] [CRun T] [CIfc T]
theorem run_bad (t : Tp) (Q : PoF) (hs : TpS t) (s p L : Int) (h : fitT t Q.y.length Q.p.length = false) :
  callH T 407 [.agg [.ptr (.bor 0) 0 3 0 0], etp t, ept Q] [(.bor 0, bxG 0 s p L)] = some (.tup [.sl [] .an, fltA 2 0 0 0], [(.bor 0, bxG 0 s p L)]) := by
 have hr := tape_right (T := T) t hs.small
 unfold fitT at h
 rw [f407 _ _ rfl, b407]
 obtain ⟨⟨q0, q1, q2⟩, qy, qp⟩ := Q
 dsimp only at h
 cases hok : okT t with
 | false =>
  rw [hok] at hr
  obtain ⟨code, outs, dim, par⟩ := t
  simp -implicitDefEqProofs [hr]
 | true =>
  rw [hok] at hr h
  obtain ⟨code, outs, dim, par⟩ := t
  dsimp only at *
  by_cases h1 : (qy.length : Int) = dim
  ·by_cases h2 : (qp.length : Int) = par
   ·simp [h1, h2] at h
   ·simp -implicitDefEqProofs [hr, h1, h2]
  ·simp -implicitDefEqProofs [hr, h1]
theorem run_good0 (t : Tp) (P : Po) (hs : TpS t) (lim : Nat) (hlim : lim ≤ 4096) (s p : Int) (hP : PvS P 1000) (h : fitT t P.y.length P.p.length = true) (hk : (runR lim P t.code []).2.1 = 0) :
  ∃ (s' p' : Int) (kd : Kind), (kd = .own ∨ kd = .sh) ∧ callH T 407 [.agg [.ptr (.bor 0) 0 3 0 0], etp t, ept P.f] [(.bor 0, bxG 0 s p lim)] =
   some (.tup [.bs (.loc 8) 3 3 0 t.code.length, fltA 0 0 0 0], [(.bor 0, bxG 0 s' p' lim), (.loc 8, ⟨3, kd, 3, rowF (fzs (runR lim P t.code []).1)⟩)]) := by
 obtain ⟨hok, h1, h2⟩ := fitT_spec h
 have hr := tape_right (T := T) t hs.small
 have hl := run_loop (T := T) P lim hlim t hok hs.ns h1 h2 hP s p
 rw [(okT_iff t).2 hok] at hr
 unfold endRun at hl
 rw [if_pos hk] at hl
 unfold stRun endN at hl
 simp only [Int.natCast_zero, rowF_nil] at hl
 have hkd : ∃ kd : Kind, kdE .own t.code = kd ∧ (kd = .own ∨ kd = .sh) := by
  unfold kdE
  split
  ·exact ⟨_, rfl, .inl rfl⟩
  ·exact ⟨_, rfl, .inr rfl⟩
 obtain ⟨kd, hkd1, hkd2⟩ := hkd
 rw [hkd1] at hl
 clear hkd1
 have hy : (fzs P.y).length = P.y.length := fzs_length _
 have hp' : (fzs P.p).length = P.p.length := fzs_length _
 unfold Po.f at *
 generalize (runG lim P t.code [] s p).1 = s' at *
 generalize (runG lim P t.code [] s p).2 = p' at *
 generalize fzs (runR lim P t.code []).1 = D at *
 generalize fzs P.y = Y at *
 generalize fzs P.p = PP at *
 generalize fz P.t = tt at *
 obtain ⟨code, outs, dim, par⟩ := t
 dsimp only at *
 refine ⟨s', p', kd, hkd2, ?_⟩
 rw [f407 _ _ rfl, b407]
 rcases hkd2 with rfl | rfl
 ·simp -implicitDefEqProofs [hr, h1, h2, hy, hp', hl]
 ·simp -implicitDefEqProofs [hr, h1, h2, hy, hp', hl]
theorem run_good1 (t : Tp) (P : Po) (hs : TpS t) (lim : Nat) (hlim : lim ≤ 4096) (s p : Int) (hP : PvS P 1000) (h : fitT t P.y.length P.p.length = true) (hk : ¬ (runR lim P t.code []).2.1 = 0) :
  ∃ (s' p' : Int), callH T 407 [.agg [.ptr (.bor 0) 0 3 0 0], etp t, ept P.f] [(.bor 0, bxG 0 s p lim)] =
   some (.tup [.sl [] .an, fltA (runR lim P t.code []).2.1 0 0 (runR lim P t.code []).2.2], [(.bor 0, bxG 0 s' p' lim)]) := by
 obtain ⟨hok, h1, h2⟩ := fitT_spec h
 have hr := tape_right (T := T) t hs.small
 have hl := run_loop (T := T) P lim hlim t hok hs.ns h1 h2 hP s p
 rw [(okT_iff t).2 hok] at hr
 unfold endRun at hl
 rw [if_neg hk] at hl
 unfold stRun endR at hl
 simp only [Int.natCast_zero, rowF_nil] at hl
 have hy : (fzs P.y).length = P.y.length := fzs_length _
 have hp' : (fzs P.p).length = P.p.length := fzs_length _
 unfold Po.f at *
 generalize (runG lim P t.code [] s p).1 = s' at *
 generalize (runG lim P t.code [] s p).2 = p' at *
 generalize (((runR lim P t.code []).2.1 : Nat) : Int) = kk at *
 generalize (((runR lim P t.code []).2.2 : Nat) : Int) = aa at *
 generalize fzs P.y = Y at *
 generalize fzs P.p = PP at *
 generalize fz P.t = tt at *
 obtain ⟨code, outs, dim, par⟩ := t
 dsimp only at *
 refine ⟨s', p', ?_⟩
 rw [f407 _ _ rfl, b407]
 simp -implicitDefEqProofs [hr, h1, h2, hy, hp', hl]
theorem pos_v {x : PoF} (h : PoS x 1000) : PvS x.v 1000 := by
 refine ⟨sz_fv h.t (by decide), fun q hq => ?_, fun q hq => ?_⟩
 ·obtain ⟨u, hu, rfl⟩ := List.mem_map.1 hq
  exact sz_fv (h.y u hu) (by decide)
 ·obtain ⟨u, hu, rfl⟩ := List.mem_map.1 hq
  exact sz_fv (h.p u hu) (by decide)
def limN (n : Int) : Nat := (limI n).toNat
theorem limN_I (n : Int) : limI n = (limN n : Int) ∧ limN n ≤ 4096 := by
 unfold limN limI
 split
 ·omega
 ·split <;> omega
theorem run_tape (t : Tp) (x : PoF) (bits : Int) (hs : TpS t) (hx : PoS x 1000) :
  callF T 384 [etp t, ept x, .i .i64 bits] = some (.tup [.sl (rowF (fzs (tapeR (limN bits) t x.v).1)) .an, fltA (tapeR (limN bits) t x.v).2.1 0 0 (tapeR (limN bits) t x.v).2.2]) := by
 have hn := eval_norm (T := T) x hx
 have hg := gauge_new (T := T) bits
 obtain ⟨hl1, hl2⟩ := limN_I bits
 rw [hl1] at hg
 have hP := pos_v hx
 have hlen : x.v.f.y.length = x.v.y.length ∧ x.v.f.p.length = x.v.p.length := ⟨fzs_length _, fzs_length _⟩
 unfold tapeR
 cases hf : fitT t x.v.y.length x.v.p.length with
 | false =>
  have hm := run_bad (T := T) t x.v.f hs 0 0 (limN bits) (by rw [hlen.1, hlen.2]; exact hf)
  simp only [Bool.false_eq_true, if_false]
  have e0 : fzs [] = [] := rfl
  rw [e0, f384 _ rfl, b384]
  generalize x.v.f = Q at *
  obtain ⟨code, outs, dim, par⟩ := t
  obtain ⟨⟨q0, q1, q2⟩, qy, qp⟩ := Q
  obtain ⟨⟨x0, x1, x2⟩, xy, xp⟩ := x
  dsimp only at *
  simp -implicitDefEqProofs [hn, hg, hm]
 | true =>
  simp only [if_true]
  by_cases hk : (runR (limN bits) x.v t.code []).2.1 = 0
  ·obtain ⟨s', p', kd, hkd, hm⟩ := run_good0 (T := T) t x.v hs (limN bits) hl2 0 0 hP hf hk
   have e2 := (runR_ok _ _ _ _ hk).1
   have el : (runR (limN bits) x.v t.code []).1.length = t.code.length := by
    obtain ⟨E, h1, h2⟩ := (runR_ok _ _ _ _ hk).2
    rw [h1]; simpa using h2
   rw [hk, e2]
   have hfl : (fzs (runR (limN bits) x.v t.code []).1).length = t.code.length := by rw [fzs_length, el]
   clear el e2 hk
   generalize fzs (runR (limN bits) x.v t.code []).1 = D at *
   have ht : List.take t.code.length D = D := List.take_of_length_le (by omega)
   rw [f384 _ rfl, b384]
   generalize x.v.f = Q at *
   obtain ⟨code, outs, dim, par⟩ := t
   obtain ⟨⟨q0, q1, q2⟩, qy, qp⟩ := Q
   obtain ⟨⟨x0, x1, x2⟩, xy, xp⟩ := x
   dsimp only at *
   rcases hkd with rfl | rfl
   ·simp -implicitDefEqProofs [hn, hg, hm, hfl, ht]
   ·simp -implicitDefEqProofs [hn, hg, hm, hfl, ht]
  ·obtain ⟨s', p', hm⟩ := run_good1 (T := T) t x.v hs (limN bits) hl2 0 0 hP hf hk
   have e1 := (runR_at _ _ _ _ hk).1
   have e0 : fzs [] = [] := rfl
   rw [e1, e0]
   clear e1 hk
   generalize (((runR (limN bits) x.v t.code []).2.1 : Nat) : Int) = kk at *
   generalize (((runR (limN bits) x.v t.code []).2.2 : Nat) : Int) = aa at *
   rw [f384 _ rfl, b384]
   generalize x.v.f = Q at *
   obtain ⟨code, outs, dim, par⟩ := t
   obtain ⟨⟨q0, q1, q2⟩, qy, qp⟩ := Q
   obtain ⟨⟨x0, x1, x2⟩, xy, xp⟩ := x
   dsimp only at *
   simp -implicitDefEqProofs [hn, hg, hm]
def stOu (D : List Fz) (outs : List Int) (E : List Fz) (i : Nat) (kd : Kind) : St :=
 ⟨[(1, .sl (rowF D) .an), (5, .bs (.loc 5) 1 3 0 i), (20, .sl (ints outs) .an), (21, .i .i64 outs.length), (22, .i .i64 i)], [(.loc 5, ⟨1, .own, 3, rowF (E.take i)⟩)], 3⟩
theorem runR_sz {lim : Nat} {P : Po} (hlim : lim ≤ 4096) : ∀ (l : List Ins) (D : List Rat), (∀ q ∈ D, sz q ≤ 129) → ∀ q ∈ (runR lim P l D).1, sz q ≤ 129
 | [], D, h => h
 | i :: r, D, h => by
  rw [runR_cons]
  split
  ·simp
  ·split
   ·simp
   ·rename_i hf
    refine runR_sz hlim r _ fun q hq => ?_
    rcases List.mem_append.1 hq with hq | hq
    ·exact h q hq
    ·rw [List.mem_singleton.1 hq]
     have := sizQ_sz (q := (valI P D i).1) (b := lim) (by omega)
     omega
end
def zeroG (d p : Int) : PoF := ⟨fz 0, List.replicate (cap300 d) (fz 0), List.replicate (cap300 p) (fz 0)⟩
section
variable {T : Tbl} [CLimb T] [CNat T] [CProd T] [CTwos T] [CQuot T] [CQuotD T] [CWhole T] [CCommon T] [CFrac T] [CFrac3 T] [CFrac5 T] [CPow T] [CDigits T] [CText T] [CJoin T] [CRow T] [CPull T]
theorem pull_zero (d p : Int) : callF T 395 [.i .i64 d, .i .i64 p] = some (ept (zeroG d p)) := by
 have c0 := frac_of0 (T := T)
 have c1 := row_zero_int (T := T) d
 have c2 := row_zero_int (T := T) p
 have e : ∀ n, fzs (List.replicate n 0) = List.replicate n (fz 0) := fun n => by simp [fzs]
 rw [e] at c1 c2
 unfold zeroG
 generalize fz 0 = Z at *
 generalize List.replicate (cap300 d) Z = A at *
 generalize List.replicate (cap300 p) Z = B at *
 obtain ⟨z0, z1, z2⟩ := Z
 rw [f395 _ rfl, b395]
 simp -implicitDefEqProofs [c0, c1, c2]
theorem pull_zero_own (d p : Int) : callH T 2395 [.i .i64 d, .i .i64 p] [] = some (.agg [.b (fz 0).1, .sl (u32s (fz 0).2.1) .an, .sl (u32s (fz 0).2.2) .an, .bs (.fld (.loc 7) 9) 1 3 0 (cap300 d), .bs (.fld (.loc 9) 9) 2 3 0 (cap300 p)],
  [(.fld (.loc 7) 9, ⟨1, .own, 3, rowF (List.replicate (cap300 d) (fz 0))⟩), (.fld (.loc 9) 9, ⟨2, .own, 3, rowF (List.replicate (cap300 p) (fz 0))⟩)]) := by
 have c0 := frac_of0 (T := T)
 have c1 := row_zero_own_int (T := T) d
 have c2 := row_zero_own_int (T := T) p
 generalize fz 0 = Z at *
 generalize hA : List.replicate (cap300 d) Z = A at *
 generalize hB : List.replicate (cap300 p) Z = B at *
 obtain ⟨z0, z1, z2⟩ := Z
 rw [f2395 _ _ rfl, b2395]
 simp -implicitDefEqProofs [c0, c1, c2]
structure Bk where
 t : Tp
 done : List Fz
 co : List Fz
 g : PoF
abbrev bkH (b : Bk) : Heap :=
 [(.bor 0, ⟨0, .str, 11, [[.sl (rowI b.t.code) .an, .sl (ints b.t.outs) .an, .i .i64 b.t.dim, .i .i64 b.t.par, .sl (rowF b.done) .an, .bs (.bor 1) 1 3 0 b.co.length, .b b.g.t.1, .sl (u32s b.g.t.2.1) .an, .sl (u32s b.g.t.2.2) .an,
   .bs (.bor 2) 2 3 0 b.g.y.length, .bs (.bor 3) 3 3 0 b.g.p.length]]⟩),
  (.bor 1, ⟨1, .own, 3, rowF b.co⟩), (.bor 2, ⟨2, .own, 3, rowF b.g.y⟩), (.bor 3, ⟨3, .own, 3, rowF b.g.p⟩)]
abbrev bkP : AV := .ptr (.bor 0) 0 11 0 0
end
def bmp (l : List Rat) (i : Int) (x : Rat) : List Rat := l.set i.toNat (gI l i + x)
@[simp] theorem bmp_length (l : List Rat) (i : Int) (x : Rat) : (bmp l i x).length = l.length := by simp [bmp]
theorem bmp_zero (l : List Rat) (i : Int) : bmp l i 0 = l := by
 unfold bmp gI
 rw [Rat.add_zero]
 refine List.ext_getElem? fun j => ?_
 rw [List.getElem?_set]
 split
 ·rename_i h
  subst h
  split
  ·rename_i h2
   rw [List.getD_eq_getElem?_getD, List.getElem?_eq_getElem h2]
   rfl
  ·rename_i h2
   rw [List.getElem?_eq_none (by omega)]
 ·rfl
def turnW (D : List Rat) (x : Ins) (r : Rat) : Rat := if 0 < x.b then powZ (gI D x.a) (x.b - 1) else if x.b < 0 then r / gI D x.a else 0
def thrC (D : List Rat) (x : Ins) (r c : Rat) (co : List Rat) : List Rat :=
 if x.op = 6 then bmp co x.a (-c)
 else if x.op = 7 then bmp (bmp co x.a c) x.b c
 else if x.op = 8 then bmp (bmp co x.a c) x.b (-c)
 else if x.op = 9 then bmp (bmp co x.a (c * gI D x.b)) x.b (c * gI D x.a)
 else if x.op = 10 then bmp (bmp co x.a (c / gI D x.b)) x.b (-(c / gI D x.b * r))
 else if x.op = 11 then bmp co x.a (c * (x.b * turnW D x r))
 else co
def thrG (x : Ins) (c : Rat) (g : Po) : Po :=
 if x.op = 2 then ⟨g.t + c, g.y, g.p⟩ else if x.op = 3 then ⟨g.t, bmp g.y x.a c, g.p⟩ else if x.op = 4 then ⟨g.t, g.y, bmp g.p x.a c⟩ else g
@[simp] theorem thrC_length (D : List Rat) (x : Ins) (r c : Rat) (co : List Rat) : (thrC D x r c co).length = co.length := by
 unfold thrC
 repeat' split
 all_goals simp
theorem thrC_zero (D : List Rat) (x : Ins) (r : Rat) (co : List Rat) : thrC D x r 0 co = co := by
 have h1 : (-0 : Rat) = 0 := by grind
 have h2 : ∀ v : Rat, 0 / v = 0 := fun v => by rw [Rat.div_def, Rat.zero_mul]
 unfold thrC
 repeat' split
 all_goals simp only [h1, h2, Rat.zero_mul, bmp_zero]
theorem thrG_zero (x : Ins) (g : Po) : thrG x 0 g = g := by
 unfold thrG
 simp only [bmp_zero, Rat.add_zero]
 repeat' split
 all_goals rfl
def backR (lim : Nat) (code : List Ins) (D : List Rat) : Nat → List Rat → Po → (List Rat × Po) × Option Nat
 | 0, co, g => ((co, g), none)
 | n + 1, co, g =>
  match code[n]? with
  | none => ((co, g), none)
  | some x => if lim < sizQ (gI co n) then ((co, g), some n) else backR lim code D n (thrC D x (gI D n) (gI co n) co) (thrG x (gI co n) g)
def backL (code : List Ins) (D : List Rat) : Nat → List Rat → Po → List Rat × Po
 | 0, co, g => (co, g)
 | n + 1, co, g =>
  match code[n]? with
  | none => (co, g)
  | some x => backL code D n (thrC D x (gI D n) (gI co n) co) (thrG x (gI co n) g)
theorem backR_L (lim : Nat) (code : List Ins) (D : List Rat) : ∀ (n : Nat) (co : List Rat) (g : Po), (backR lim code D n co g).2 = none → (backR lim code D n co g).1 = backL code D n co g
 | 0, co, g, _ => rfl
 | n + 1, co, g, h => by
  unfold backR at h ⊢
  unfold backL
  cases hx : code[n]? with
  | none => rfl
  | some x =>
   rw [hx] at h
   dsimp only at h ⊢
   by_cases hl : lim < sizQ (gI co n)
   ·rw [if_pos hl] at h; cases h
   ·rw [if_neg hl] at h ⊢
    exact backR_L lim code D n _ _ h
def sendQ : List Int → List Rat → List Rat → List Rat
 | o :: os, w :: ws, co => sendQ os ws (bmp co o w)
 | _, _, co => co
@[simp] theorem sendQ_length : ∀ (os : List Int) (ws co : List Rat), (sendQ os ws co).length = co.length
 | [], _, _ => rfl
 | _ :: _, [], _ => rfl
 | o :: os, w :: ws, co => by rw [sendQ, sendQ_length os ws, bmp_length]
def firstL (lim : Nat) : List Rat → Nat → Option Nat
 | [], _ => none
 | q :: l, k => if lim < sizQ q then some k else firstL lim l (k + 1)
def zeroP (d p : Nat) : Po := ⟨0, List.replicate d 0, List.replicate p 0⟩
def allP (g : Po) : List Rat := g.t :: (g.y ++ g.p)
def backT (lim : Nat) (t : Tp) (P : Po) (w : List Rat) : Po × Nat × Nat × Nat :=
 if w.length ≠ t.outs.length then (zeroP 0 0, 2, 0, 0)
 else if (tapeR lim t P).2.1 ≠ 0 then (zeroP 0 0, (tapeR lim t P).2.1, 0, (tapeR lim t P).2.2)
 else
  match backR lim t.code (tapeR lim t P).1 t.code.length (sendQ t.outs w (List.replicate t.code.length 0)) (zeroP t.dim.toNat t.par.toNat) with
  | (_, some i) => (zeroP 0 0, 6, 2, i)
  | (s, none) => match firstL lim (allP s.2) 0 with | some k => (zeroP 0 0, 6, 3, k) | none => (s.2, 0, 0, 0)
def addQL (l m : List Rat) : List Rat := List.zipWith (· + ·) l m
def addPo (g h : Po) : Po := ⟨g.t + h.t, addQL g.y h.y, addQL g.p h.p⟩
theorem gI_add (l m : List Rat) (h : l.length = m.length) (i : Int) : gI (addQL l m) i = gI l i + gI m i := by
 unfold gI addQL
 rw [List.getD_eq_getElem?_getD, List.getD_eq_getElem?_getD, List.getD_eq_getElem?_getD, List.getElem?_zipWith]
 by_cases hk : i.toNat < l.length
 ·rw [List.getElem?_eq_getElem hk, List.getElem?_eq_getElem (by omega)]
  rfl
 ·rw [List.getElem?_eq_none (by omega), List.getElem?_eq_none (by omega)]
  simp [Rat.add_zero]
theorem bmp_add (l m : List Rat) (h : l.length = m.length) (i : Int) (x y : Rat) : bmp (addQL l m) i (x + y) = addQL (bmp l i x) (bmp m i y) := by
 unfold bmp
 rw [gI_add l m h]
 have e : gI l i + gI m i + (x + y) = (gI l i + x) + (gI m i + y) := by grind
 rw [e]
 generalize gI l i + x = a
 generalize gI m i + y = b
 generalize i.toNat = k
 unfold addQL
 refine List.ext_getElem? fun j => ?_
 rw [List.getElem?_set, List.getElem?_zipWith, List.getElem?_zipWith, List.getElem?_set, List.getElem?_set, List.length_zipWith]
 by_cases hj : k = j
 ·subst hj
  by_cases hk : k < l.length
  ·simp [hk, show k < m.length by omega, show k < min l.length m.length by omega]
  ·simp [hk, show ¬ k < m.length by omega, show ¬ k < min l.length m.length by omega]
 ·simp [hj]
theorem div_addQ (a b v : Rat) : (a + b) / v = a / v + b / v := by rw [Rat.div_def, Rat.div_def, Rat.div_def, Rat.add_mul]
theorem thrC_add (D : List Rat) (x : Ins) (r c d : Rat) (l m : List Rat) (h : l.length = m.length) : thrC D x r (c + d) (addQL l m) = addQL (thrC D x r c l) (thrC D x r d m) := by
 have e1 : -(c + d) = -c + -d := by grind
 have e2 : ∀ v : Rat, (c + d) * v = c * v + d * v := fun v => Rat.add_mul c d v
 have e3 : -((c + d) / gI D x.b * r) = -(c / gI D x.b * r) + -(d / gI D x.b * r) := by rw [div_addQ, Rat.add_mul]; grind
 unfold thrC
 repeat' split
 ·rw [e1, bmp_add _ _ h]
 ·rw [bmp_add _ _ h, bmp_add _ _ (by simp [h])]
 ·rw [e1, bmp_add _ _ h, bmp_add _ _ (by simp [h])]
 ·rw [e2, e2, bmp_add _ _ h, bmp_add _ _ (by simp [h])]
 ·rw [e3, div_addQ, bmp_add _ _ h, bmp_add _ _ (by simp [h])]
 ·rw [e2, bmp_add _ _ h]
 ·rfl
theorem thrG_add (x : Ins) (c d : Rat) (g k : Po) (hy : g.y.length = k.y.length) (hp : g.p.length = k.p.length) : thrG x (c + d) (addPo g k) = addPo (thrG x c g) (thrG x d k) := by
 have e : g.t + k.t + (c + d) = g.t + c + (k.t + d) := by grind
 unfold thrG addPo
 repeat' split
 ·dsimp only; rw [e]
 ·dsimp only; rw [bmp_add _ _ hy]
 ·dsimp only; rw [bmp_add _ _ hp]
 ·rfl
theorem thrG_len (x : Ins) (c : Rat) (g : Po) : (thrG x c g).y.length = g.y.length ∧ (thrG x c g).p.length = g.p.length := by
 unfold thrG
 repeat' split
 all_goals simp
theorem backL_add (code : List Ins) (D : List Rat) : ∀ (n : Nat) (l m : List Rat) (g k : Po), l.length = m.length → g.y.length = k.y.length → g.p.length = k.p.length →
  (backL code D n (addQL l m) (addPo g k)).2 = addPo (backL code D n l g).2 (backL code D n m k).2
 | 0, l, m, g, k, _, _, _ => rfl
 | n + 1, l, m, g, k, h, hy, hp => by
  unfold backL
  cases hx : code[n]? with
  | none => rfl
  | some x =>
   dsimp only
   rw [gI_add l m h, thrC_add _ _ _ _ _ _ _ h, thrG_add _ _ _ _ _ hy hp]
   exact backL_add code D n _ _ _ _ (by simp [h]) (by rw [(thrG_len _ _ _).1, (thrG_len _ _ _).1]; exact hy) (by rw [(thrG_len _ _ _).2, (thrG_len _ _ _).2]; exact hp)
theorem sendQ_add : ∀ (os : List Int) (u v l m : List Rat), u.length = v.length → l.length = m.length → sendQ os (addQL u v) (addQL l m) = addQL (sendQ os u l) (sendQ os v m)
 | [], _, _, _, _, _, _ => rfl
 | _ :: _, [], [], _, _, _, _ => rfl
 | _ :: _, [], _ :: _, _, _, h, _ => by simp at h
 | _ :: _, _ :: _, [], _, _, h, _ => by simp at h
 | o :: os, a :: u, b :: v, l, m, h, hl => by
  show sendQ os (addQL u v) (bmp (addQL l m) o (a + b)) = _
  rw [bmp_add _ _ hl]
  exact sendQ_add os u v _ _ (by simpa using h) (by simp [hl])
theorem addQL_zero (n : Nat) : addQL (List.replicate n 0) (List.replicate n 0) = List.replicate n 0 := by
 unfold addQL
 rw [List.zipWith_replicate]
 simp [Rat.add_zero]
theorem backT_add (lim : Nat) (t : Tp) (P : Po) (u v : List Rat) (h : u.length = v.length) (hu : (backT lim t P u).2.1 = 0) (hv : (backT lim t P v).2.1 = 0) (hs : (backT lim t P (addQL u v)).2.1 = 0) :
  (backT lim t P (addQL u v)).1 = addPo (backT lim t P u).1 (backT lim t P v).1 := by
 have one : ∀ w : List Rat, (backT lim t P w).2.1 = 0 → w.length = t.outs.length ∧ (backT lim t P w).1 = (backL t.code (tapeR lim t P).1 t.code.length (sendQ t.outs w (List.replicate t.code.length 0)) (zeroP t.dim.toNat t.par.toNat)).2 := by
  intro w hw
  unfold backT at hw ⊢
  by_cases h1 : w.length ≠ t.outs.length
  ·rw [if_pos h1] at hw; cases hw
  ·rw [if_neg h1] at hw ⊢
   by_cases h2 : (tapeR lim t P).2.1 ≠ 0
   ·rw [if_pos h2] at hw; exact absurd hw h2
   ·rw [if_neg h2] at hw ⊢
    have hb := backR_L lim t.code (tapeR lim t P).1 t.code.length (sendQ t.outs w (List.replicate t.code.length 0)) (zeroP t.dim.toNat t.par.toNat)
    generalize backR lim t.code (tapeR lim t P).1 t.code.length (sendQ t.outs w (List.replicate t.code.length 0)) (zeroP t.dim.toNat t.par.toNat) = R at *
    obtain ⟨s, o⟩ := R
    cases o with
    | some i => cases hw
    | none =>
     dsimp only at hw hb ⊢
     cases hf : firstL lim (allP s.2) 0 with
     | some k => rw [hf] at hw; cases hw
     | none => exact ⟨by omega, by rw [hb rfl]⟩
 obtain ⟨l1, e1⟩ := one u hu
 obtain ⟨l2, e2⟩ := one v hv
 obtain ⟨_, e3⟩ := one _ hs
 rw [e1, e2, e3]
 have z : addPo (zeroP t.dim.toNat t.par.toNat) (zeroP t.dim.toNat t.par.toNat) = zeroP t.dim.toNat t.par.toNat := by
  unfold addPo zeroP
  dsimp only
  rw [addQL_zero, addQL_zero, Rat.add_zero]
 have := backL_add t.code (tapeR lim t P).1 t.code.length (sendQ t.outs u (List.replicate t.code.length 0)) (sendQ t.outs v (List.replicate t.code.length 0)) (zeroP t.dim.toNat t.par.toNat) (zeroP t.dim.toNat t.par.toNat) (by simp) rfl rfl
 rw [z, ← sendQ_add _ _ _ _ _ h rfl, addQL_zero] at this
 exact this
abbrev blk : Fz := (false, [], [])
def bmpF (co : List Fz) (k : Nat) (q : Rat) : List Fz := co.set k (fz (fv (co.getD k blk) + q))
@[simp] theorem bmpF_length (co : List Fz) (k : Nat) (q : Rat) : (bmpF co k q).length = co.length := by simp [bmpF]
theorem fv_blk : fv blk = 0 := by decide +kernel
theorem bmpF_v (co : List Fz) (i : Int) (q : Rat) : (bmpF co i.toNat q).map fv = bmp (co.map fv) i q := by
 have e : fv (co.getD i.toNat blk) = gI (co.map fv) i := by
  unfold gI
  rw [List.getD_eq_getElem?_getD, List.getD_eq_getElem?_getD, List.getElem?_map]
  cases co[i.toNat]? with
  | none => exact fv_blk
  | some x => rfl
 unfold bmpF bmp
 rw [List.map_set, fv_fz, e]
theorem getF_sz {co : List Fz} {K : Nat} (h : ∀ x ∈ co, fsz x ≤ K) (k : Nat) : fsz (co.getD k blk) ≤ K := by
 rw [List.getD_eq_getElem?_getD]
 cases hx : co[k]? with
 | none => exact Nat.zero_le _
 | some x => exact h x (List.mem_of_getElem? hx)
theorem bmpF_sz {co : List Fz} {K S : Nat} (k : Nat) {q : Rat} (h : ∀ x ∈ co, fsz x ≤ K) (h1 : 1 ≤ K) (hq : sz q ≤ S) : ∀ x ∈ bmpF co k q, fsz x ≤ K + S + 1 := by
 intro x hx
 rcases List.mem_or_eq_of_mem_set hx with h2 | h2
 ·have := h x h2; omega
 ·rw [h2, fsz_fz]
  have h3 := sz_add (fv (co.getD k blk)) q
  have h4 := sz_fv (getF_sz h k) h1
  omega
abbrev bkN (n ny np : Nat) (b : Bk) : Heap :=
 [(.bor 0, ⟨0, .str, 11, [[.sl (rowI b.t.code) .an, .sl (ints b.t.outs) .an, .i .i64 b.t.dim, .i .i64 b.t.par, .sl (rowF b.done) .an, .bs (.bor 1) 1 3 0 n, .b b.g.t.1, .sl (u32s b.g.t.2.1) .an, .sl (u32s b.g.t.2.2) .an,
   .bs (.bor 2) 2 3 0 ny, .bs (.bor 3) 3 3 0 np]]⟩),
  (.bor 1, ⟨1, .own, 3, rowF b.co⟩), (.bor 2, ⟨2, .own, 3, rowF b.g.y⟩), (.bor 3, ⟨3, .own, 3, rowF b.g.p⟩)]
section
variable {T : Tbl} [CLimb T] [CNat T] [CProd T] [CTwos T] [CQuot T] [CQuotD T] [CWhole T] [CCommon T] [CFrac T] [CFrac3 T] [CFrac5 T] [CPow T] [CDigits T] [CText T] [CJoin T] [CRow T] [CPull T]
theorem back_send1 (n ny np : Nat) (b : Bk) (k : Nat) (c : Fz) (hn : b.co.length = n) (hk : k < n) (hx : ∀ x ∈ b.co, fsz x ≤ 30000) (hc : fsz c ≤ 30000) :
  callH T 410 [bkP, .i .i64 k, efz c] (bkN n ny np b) = some (.tup [], bkN n ny np { b with co := bmpF b.co k (fv c) }) := by
 have hk0 : k < b.co.length := by omega
 have hg : b.co[k]? = some (b.co[k]'hk0) := List.getElem?_eq_getElem hk0
 have e : b.co.getD k blk = b.co[k]'hk0 := by rw [List.getD_eq_getElem?_getD, hg]; rfl
 have ca := frac_addB (T := T) (b.co[k]'hk0) c (hx _ (List.getElem_mem hk0)) hc
 unfold bmpF
 rw [e]
 generalize b.co[k]'hk0 = x at *
 obtain ⟨_, hge⟩ := List.getElem?_eq_some_iff.1 hg
 have hlt' : (k : Int) < n := by omega
 obtain ⟨⟨code, outs, dim, par⟩, done, co, ⟨⟨g0, g1, g2⟩, gy, gp⟩⟩ := b
 dsimp only at *
 generalize fz (fv x + fv c) = z at *
 have hp : wkL ((rowF co).set k [.b z.1, .sl (u32s z.2.1) .an, .sl (u32s z.2.2) .an]) = rowF (co.set k z) := by
  have : (rowF co).set k (celF z) = rowF (co.set k z) := by simp [rowF, List.map_set]
  show wkL ((rowF co).set k (celF z)) = _
  rw [this, rowF_wk]
 rw [f410 _ _ rfl, b410]
 simp -implicitDefEqProofs [ca, hg, hk, hk0, hlt', hge, hp]
theorem back_quo (n ny np : Nat) (b : Bk) (x : Ins) (c r dB : Fz) (kA kB : Nat) (ha : x.a = kA) (hb : x.b = kB) (hn : b.co.length = n) (hA : kA < n) (hB : kB < n) (hd : b.done[kB]? = some dB) (hx : ∀ y ∈ b.co, fsz y ≤ 29000) (hc : fsz c ≤ 129) (hr : fsz r ≤ 129) (hdb : fsz dB ≤ 129) :
  callH T 427 [bkP, .agg (celI x), efz c, efz r] (bkN n ny np b) = some (.tup [], bkN n ny np { b with co := bmpF (bmpF b.co kA (fv c / fv dB)) kB (-(fv c / fv dB * fv r)) }) := by
 have cq := frac_quo (T := T) c dB (by omega) (by omega)
 have vc := sz_fv hc (by decide)
 have vr := sz_fv hr (by decide)
 have vd := sz_fv hdb (by decide)
 have z1 := sz_div (fv c) (fv dB)
 have z2 := sz_mul (fv c / fv dB) (fv r)
 have cm := frac_mul (T := T) (fz (fv c / fv dB)) r (by rw [fsz_fz]; omega) (by omega)
 have cn := frac_neg (T := T) (fz (fv c / fv dB * fv r)) (by rw [fsz_fz]; omega)
 have s1 := back_send1 (T := T) n ny np b kA (fz (fv c / fv dB)) hn hA (fun y hy => Nat.le_trans (hx y hy) (by decide)) (by rw [fsz_fz]; omega)
 have s2 := back_send1 (T := T) n ny np { b with co := bmpF b.co kA (fv c / fv dB) } kB (fz (-(fv c / fv dB * fv r))) (by simpa using hn) hB
  (fun y hy => by have := bmpF_sz (K := 29001) (S := 258) kA (fun y hy => Nat.le_trans (hx y hy) (by decide)) (by decide) (by omega) y hy; omega) (by rw [fsz_fz, sz_neg]; omega)
 obtain ⟨hlt, hge⟩ := List.getElem?_eq_some_iff.1 hd
 have hlt' : (kB : Int) < b.done.length := by omega
 rw [fv_fz] at cm cn s1 s2
 generalize decide (fv dB ≠ 0) = bb at *
 generalize bmpF (bmpF b.co kA (fv c / fv dB)) kB (-(fv c / fv dB * fv r)) = C2 at *
 generalize bmpF b.co kA (fv c / fv dB) = C1 at *
 generalize fz (-(fv c / fv dB * fv r)) = z3 at *
 generalize fz (fv c / fv dB * fv r) = z4 at *
 generalize fz (fv c / fv dB) = z5 at *
 clear z1 z2 vc vr vd
 obtain ⟨⟨code, outs, dim, par⟩, done, co, ⟨⟨g0, g1, g2⟩, gy, gp⟩⟩ := b
 obtain ⟨op, ia, ib, n⟩ := x
 dsimp only at *
 subst ha
 subst hb
 rw [f427 _ _ rfl, b427]
 simp -implicitDefEqProofs [cq, cm, cn, s1, s2, hd, hlt', hlt, hge]
theorem turn_sz {q : Rat} (hq : sz q ≤ 129) {e : Int} (h0 : 0 < e) (h1 : e ≤ 8) : sz (powZ q (e - 1)) ≤ 904 := by
 obtain ⟨n, hn⟩ : ∃ n : Nat, e - 1 = n := ⟨(e - 1).toNat, by omega⟩
 unfold powZ
 rw [hn, Rat.zpow_natCast]
 have := sz_pow q n
 have h3 : n * sz q ≤ 7 * 129 := Nat.mul_le_mul (by omega) hq
 omega
theorem int_sz (e : Int) (h1 : -8 ≤ e) (h2 : e ≤ 8) : sz (e : Rat) ≤ 1 := by
 have h : e = -8 ∨ e = -7 ∨ e = -6 ∨ e = -5 ∨ e = -4 ∨ e = -3 ∨ e = -2 ∨ e = -1 ∨ e = 0 ∨ e = 1 ∨ e = 2 ∨ e = 3 ∨ e = 4 ∨ e = 5 ∨ e = 6 ∨ e = 7 ∨ e = 8 := by omega
 unfold sz
 rw [Rat.num_intCast, Rat.den_intCast]
 refine Nat.max_le.2 ⟨?_, by decide +kernel⟩
 refine ofN_length_le' ?_
 rw [Nat.pow_one]
 omega
theorem back_pow (n ny np : Nat) (b : Bk) (x : Ins) (c r dA : Fz) (kA : Nat) (ha : x.a = kA) (h8 : -8 ≤ x.b) (h8' : x.b ≤ 8) (hn : b.co.length = n) (hA : kA < n) (hd : b.done[kA]? = some dA) (hx : ∀ y ∈ b.co, fsz y ≤ 29000) (hc : fsz c ≤ 129) (hr : fsz r ≤ 129) (hda : fsz dA ≤ 129) :
  callH T 428 [bkP, .agg (celI x), efz c, efz r] (bkN n ny np b) = some (.tup [], bkN n ny np { b with co := bmpF b.co kA (fv c * (x.b * (if 0 < x.b then powZ (fv dA) (x.b - 1) else if x.b < 0 then fv r / fv dA else 0))) }) := by
 have c0 := frac_of0 (T := T)
 have ce := frac_of (T := T) x.b (by omega) (by omega)
 have vc := sz_fv hc (by decide)
 have vr := sz_fv hr (by decide)
 have vd := sz_fv hda (by decide)
 have ze := int_sz x.b h8 h8'
 obtain ⟨hlt, hge⟩ := List.getElem?_eq_some_iff.1 hd
 have hlt' : (kA : Int) < b.done.length := by omega
 -- the last steps, whatever the turn is
 have fin : ∀ q : Rat, sz q ≤ 904 → callF T 217 [efz (fz (x.b : Rat)), efz (fz q)] = some (efz (fz (x.b * q))) ∧ callF T 217 [efz c, efz (fz (x.b * q))] = some (efz (fz (fv c * (x.b * q)))) ∧
   callH T 410 [bkP, .i .i64 kA, efz (fz (fv c * (x.b * q)))] (bkN n ny np b) = some (.tup [], bkN n ny np { b with co := bmpF b.co kA (fv c * (x.b * q)) }) := by
  intro q hq
  have z1 := sz_mul (x.b : Rat) q
  have z2 := sz_mul (fv c) (x.b * q)
  have m1 := frac_mul (T := T) (fz (x.b : Rat)) (fz q) (by rw [fsz_fz]; omega) (by rw [fsz_fz]; omega)
  have m2 := frac_mul (T := T) c (fz (x.b * q)) (by omega) (by rw [fsz_fz]; omega)
  have s1 := back_send1 (T := T) n ny np b kA (fz (fv c * (x.b * q))) hn hA (fun y hy => Nat.le_trans (hx y hy) (by decide)) (by rw [fsz_fz]; omega)
  rw [fv_fz, fv_fz] at m1
  rw [fv_fz] at m2 s1
  exact ⟨m1, m2, s1⟩
 by_cases h1 : 0 < x.b
 ·have cp := frac_pow (T := T) dA (x.b - 1) (by omega)
  have e2 := powR_of (q := fv dA) (e := x.b - 1) (by omega) (by omega)
  rw [if_neg (by omega)] at e2
  rw [e2] at cp
  obtain ⟨m1, m2, s1⟩ := fin _ (turn_sz vd h1 h8')
  rw [if_pos h1]
  have hw : IntKind.wrap .i64 (x.b - 1) = x.b - 1 := wrap_i64 _ (by omega)
  generalize bmpF b.co kA (fv c * (x.b * powZ (fv dA) (x.b - 1))) = C1 at *
  generalize fz (fv c * (x.b * powZ (fv dA) (x.b - 1))) = z1 at *
  generalize fz (x.b * powZ (fv dA) (x.b - 1)) = z2 at *
  generalize fz (powZ (fv dA) (x.b - 1)) = z3 at *
  generalize fz (x.b : Rat) = z4 at *
  generalize fz 0 = z5 at *
  clear e2 fin vc vr vd ze
  obtain ⟨⟨code, outs, dim, par⟩, done, co, ⟨⟨g0, g1, g2⟩, gy, gp⟩⟩ := b
  obtain ⟨op, ia, ib, n⟩ := x
  dsimp only at *
  subst ha
  rw [f428 _ _ rfl, b428]
  simp -implicitDefEqProofs [c0, ce, cp, m1, m2, s1, hd, hlt', hlt, hge, h1, hw]
 ·by_cases h2 : x.b < 0
  ·have cq := frac_quo (T := T) r dA (by omega) (by omega)
   have z0 := sz_div (fv r) (fv dA)
   obtain ⟨m1, m2, s1⟩ := fin (fv r / fv dA) (by omega)
   rw [if_neg h1, if_pos h2]
   generalize decide (fv dA ≠ 0) = bb at *
   generalize bmpF b.co kA (fv c * (x.b * (fv r / fv dA))) = C1 at *
   generalize fz (fv c * (x.b * (fv r / fv dA))) = z1 at *
   generalize fz (x.b * (fv r / fv dA)) = z2 at *
   generalize fz (fv r / fv dA) = z3 at *
   generalize fz (x.b : Rat) = z4 at *
   generalize fz 0 = z5 at *
   clear fin vc vr vd ze z0
   obtain ⟨⟨code, outs, dim, par⟩, done, co, ⟨⟨g0, g1, g2⟩, gy, gp⟩⟩ := b
   obtain ⟨op, ia, ib, n⟩ := x
   dsimp only at *
   subst ha
   rw [f428 _ _ rfl, b428]
   simp -implicitDefEqProofs [c0, ce, cq, m1, m2, s1, hd, hlt', hlt, hge, h1, h2]
  ·obtain ⟨m1, m2, s1⟩ := fin 0 (by decide +kernel)
   rw [if_neg h1, if_neg h2]
   generalize bmpF b.co kA (fv c * (x.b * 0)) = C1 at *
   generalize fz (fv c * (x.b * 0)) = z1 at *
   generalize fz (x.b * 0) = z2 at *
   generalize fz (x.b : Rat) = z4 at *
   generalize fz 0 = z5 at *
   clear fin vc vr vd ze
   obtain ⟨⟨code, outs, dim, par⟩, done, co, ⟨⟨g0, g1, g2⟩, gy, gp⟩⟩ := b
   obtain ⟨op, ia, ib, n⟩ := x
   dsimp only at *
   subst ha
   rw [f428 _ _ rfl, b428]
   simp -implicitDefEqProofs [c0, ce, m1, m2, s1, hd, hlt', hlt, hge, h1, h2]
end
def thrF (D : List Fz) (x : Ins) (r c : Rat) (co : List Fz) : List Fz :=
 if c = 0 then co
 else if x.op = 6 then bmpF co x.a.toNat (-c)
 else if x.op = 7 then bmpF (bmpF co x.a.toNat c) x.b.toNat c
 else if x.op = 8 then bmpF (bmpF co x.a.toNat c) x.b.toNat (-c)
 else if x.op = 9 then bmpF (bmpF co x.a.toNat (c * gI (D.map fv) x.b)) x.b.toNat (c * gI (D.map fv) x.a)
 else if x.op = 10 then bmpF (bmpF co x.a.toNat (c / gI (D.map fv) x.b)) x.b.toNat (-(c / gI (D.map fv) x.b * r))
 else if x.op = 11 then bmpF co x.a.toNat (c * (x.b * turnW (D.map fv) x r))
 else co
def thrH (x : Ins) (c : Rat) (g : PoF) : PoF :=
 if c = 0 then g
 else if x.op = 2 then ⟨fz (fv g.t + c), g.y, g.p⟩ else if x.op = 3 then ⟨g.t, bmpF g.y x.a.toNat c, g.p⟩ else if x.op = 4 then ⟨g.t, g.y, bmpF g.p x.a.toNat c⟩ else g
theorem thrF_v (D : List Fz) (x : Ins) (r c : Rat) (co : List Fz) : (thrF D x r c co).map fv = thrC (D.map fv) x r c (co.map fv) := by
 unfold thrF
 by_cases h : c = 0
 ·subst h
  rw [if_pos rfl, thrC_zero]
 ·rw [if_neg h]
  unfold thrC
  repeat' split
  all_goals simp only [bmpF_v]
@[simp] theorem thrF_length (D : List Fz) (x : Ins) (r c : Rat) (co : List Fz) : (thrF D x r c co).length = co.length := by
 unfold thrF
 repeat' split
 all_goals simp
theorem gI_map {D : List Fz} {i : Int} {k : Nat} {u : Fz} (h : i = k) (hu : D[k]? = some u) : gI (D.map fv) i = fv u := by
 subst h
 unfold gI
 rw [List.getD_eq_getElem?_getD, List.getElem?_map, Int.toNat_natCast, hu]
 rfl
theorem thrF_sz {D : List Fz} {x : Ins} {r c : Rat} {co : List Fz} {K p : Nat} {dim par : Int} (hm : mayI dim par p x = true) (hD : ∀ u ∈ D, fsz u ≤ 129) (hc : sz c ≤ 129) (hr : sz r ≤ 129) (h : ∀ u ∈ co, fsz u ≤ K) (h1 : 1 ≤ K) :
  ∀ u ∈ thrF D x r c co, fsz u ≤ K + 1036 := by
 have hg : ∀ i, sz (gI (D.map fv) i) ≤ 129 := fun i => gI_sz (by decide) fun q hq => by
  obtain ⟨u, hu, rfl⟩ := List.mem_map.1 hq
  exact sz_fv (hD u hu) (by decide)
 have ga := hg x.a
 have gb := hg x.b
 have z0 := sz_neg c
 have z1 := sz_mul c (gI (D.map fv) x.b)
 have z2 := sz_mul c (gI (D.map fv) x.a)
 have z3 := sz_div c (gI (D.map fv) x.b)
 have z4 := sz_mul (c / gI (D.map fv) x.b) r
 have z5 := sz_neg (c / gI (D.map fv) x.b * r)
 have two : ∀ (S S' : Nat) (k k' : Nat) (q q' : Rat), sz q ≤ S → sz q' ≤ S' → S + S' ≤ 1000 → ∀ u ∈ bmpF (bmpF co k q) k' q', fsz u ≤ K + 1036 := by
  intro S S' k k' q q' hq hq' hS u hu
  have := bmpF_sz k' (bmpF_sz k h h1 hq) (by omega) hq' u hu
  omega
 unfold thrF
 repeat' split
 ·intro u hu; have := h u hu; omega
 ·intro u hu; have := bmpF_sz (S := 129) x.a.toNat h h1 (by omega) u hu; omega
 ·exact two 129 129 _ _ _ _ (by omega) (by omega) (by decide)
 ·exact two 129 129 _ _ _ _ (by omega) (by omega) (by decide)
 ·exact two 258 258 _ _ _ _ (by omega) (by omega) (by decide)
 ·exact two 258 387 _ _ _ _ (by omega) (by omega) (by decide)
 ·rename_i h11
  obtain ⟨e1, e2⟩ := may_e hm h11
  have zt : sz (turnW (D.map fv) x r) ≤ 904 := by
   unfold turnW
   split
   ·exact turn_sz ga (by omega) e2
   ·split
    ·have := sz_div r (gI (D.map fv) x.a); omega
    ·exact (by decide +kernel : sz 0 ≤ 904)
  have z6 := sz_mul (x.b : Rat) (turnW (D.map fv) x r)
  have z7 := int_sz x.b e1 e2
  have z8 := sz_mul c (x.b * turnW (D.map fv) x r)
  intro u hu
  have := bmpF_sz (S := 1034) x.a.toNat h h1 (by omega) u hu
  omega
 ·intro u hu; have := h u hu; omega
section
variable {T : Tbl} [CLimb T] [CNat T] [CProd T] [CTwos T] [CQuot T] [CQuotD T] [CWhole T] [CCommon T] [CFrac T] [CFrac3 T] [CFrac5 T] [CPow T] [CDigits T] [CText T] [CJoin T] [CRow T] [CPull T]
theorem back_thr (n ny np : Nat) (b : Bk) (x : Ins) (k : Nat) (c r : Fz) (hx : b.t.code[k]? = some x) (hm : mayI b.t.dim b.t.par k x = true) (hdl : b.done.length = n) (hcl : b.co.length = n) (hyl : b.g.y.length = ny) (hpl : b.g.p.length = np) (hy : (ny : Int) = b.t.dim) (hp : (np : Int) = b.t.par)
  (hc : b.co[k]? = some c) (hr : b.done[k]? = some r) (zc : fsz c ≤ 129) (zd : ∀ u ∈ b.done, fsz u ≤ 129) (zo : ∀ u ∈ b.co, fsz u ≤ 29000) (zt : fsz b.g.t ≤ 29000) (zy : ∀ u ∈ b.g.y, fsz u ≤ 29000) (zp : ∀ u ∈ b.g.p, fsz u ≤ 29000) :
  callH T 412 [bkP, .i .i64 k] (bkN n ny np b) = some (.tup [], bkN n ny np { b with co := thrF b.done x (fv r) (fv c) b.co, g := thrH x (fv c) b.g }) := by
 have csg := frac_sign (T := T) c (by omega)
 obtain ⟨kc1, kc2⟩ := List.getElem?_eq_some_iff.1 hc
 obtain ⟨kx1, kx2⟩ := List.getElem?_eq_some_iff.1 hx
 obtain ⟨kr1, kr2⟩ := List.getElem?_eq_some_iff.1 hr
 have kc1' : (k : Int) < n := by omega
 have kx1' : (k : Int) < b.t.code.length := by omega
 have kr1' : (k : Int) < b.done.length := by omega
 have zr := zd r (List.mem_of_getElem? hr)
 have vc := sz_fv zc (by decide)
 by_cases h0 : fv c = 0
 ·have h0' : sgQ (fv c) = 0 := sgQ_zero.2 h0
  unfold thrF thrH
  rw [if_pos h0, if_pos h0]
  rw [h0'] at csg
  clear h0' h0 vc zr zd zo zt zy zp
  obtain ⟨⟨code, outs, dim, par⟩, done, co, ⟨⟨g0, g1, g2⟩, gy, gp⟩⟩ := b
  dsimp only at *
  rw [f412 _ _ rfl, b412]
  simp -implicitDefEqProofs [csg, hx, hc, kc1', kx1', kc2, kx2]
 have h0' : ¬ sgQ (fv c) = 0 := fun h => h0 (sgQ_zero.1 h)
 have op := may_op hm
 have sd := fun (y : Fz) (i : Nat) (hi : i < n) (hy : fsz y ≤ 29000) => back_send1 (T := T) n ny np b i y hcl hi (fun u hu => Nat.le_trans (zo u hu) (by decide)) (by omega)
 have sd2 := fun (q : Rat) (j : Nat) (hq : sz q ≤ 258) (y : Fz) (i : Nat) (hi : i < n) (hy : fsz y ≤ 29000) => back_send1 (T := T) n ny np { b with co := bmpF b.co j q } i y (by simpa using hcl) hi
  (fun u hu => by have := bmpF_sz (K := 29000) (S := 258) j zo (by decide) hq u hu; omega) (by omega)
 have cn := frac_neg (T := T) c (by omega)
 have zn : fsz (fz (-fv c)) ≤ 29000 := by rw [fsz_fz, sz_neg]; omega
 have zc' : fsz c ≤ 29000 := by omega
 unfold thrF thrH
 rw [if_neg h0, if_neg h0]
 have sx : ∀ (l : List Fz) (j : Nat) (z : Fz), wkL ((rowF l).set j [.b z.1, .sl (u32s z.2.1) .an, .sl (u32s z.2.2) .an]) = rowF (l.set j z) := by
  intro l j z
  have : (rowF l).set j (celF z) = rowF (l.set j z) := by simp [rowF, List.map_set]
  show wkL ((rowF l).set j (celF z)) = _
  rw [this, rowF_wk]
 have gq : ∀ {i : Int} {j : Nat} {u : Fz}, i = j → b.done[j]? = some u → gI (b.done.map fv) i = fv u := fun h1 h2 => gI_map h1 h2
 generalize sgQ (fv c) = sg at csg h0'
 clear h0
 rcases op with h | h | h | h | h | h | h | h | h | h
 ·-- constant
  simp only [h, Int.reduceEq, if_false, if_true]
  obtain ⟨⟨code, outs, dim, par⟩, done, co, ⟨⟨g0, g1, g2⟩, gy, gp⟩⟩ := b
  obtain ⟨xo, xa, xb, xn⟩ := x
  dsimp only at *
  subst h
  rw [f412 _ _ rfl, b412]
  simp -implicitDefEqProofs [csg, h0', hx, hc, kc1', kx1', kc2, kx2]
 ·-- moment
  simp only [h, Int.reduceEq, if_false, if_true]
  have ca := frac_addB (T := T) b.g.t c (by omega) (by omega)
  generalize fz (fv b.g.t + fv c) = z at *
  obtain ⟨⟨code, outs, dim, par⟩, done, co, ⟨⟨g0, g1, g2⟩, gy, gp⟩⟩ := b
  obtain ⟨xo, xa, xb, xn⟩ := x
  dsimp only at *
  subst h
  rw [f412 _ _ rfl, b412]
  simp -implicitDefEqProofs [csg, h0', hx, hc, kc1', kx1', kc2, kx2, ca]
 ·-- state
  simp only [h, Int.reduceEq, if_false, if_true]
  obtain ⟨ja, hja⟩ : ∃ j : Nat, x.a = j := ⟨x.a.toNat, by have := (may_y hm h).1; omega⟩
  have hA : ja < ny := by have := (may_y hm h).2; omega
  have hAl : ja < b.g.y.length := by omega
  obtain ⟨u, hu⟩ : ∃ u, b.g.y[ja]? = some u := ⟨_, List.getElem?_eq_getElem hAl⟩
  obtain ⟨_, hu2⟩ := List.getElem?_eq_some_iff.1 hu
  have hA' : (ja : Int) < ny := by omega
  have ca := frac_addB (T := T) u c (by have := zy u (List.mem_of_getElem? hu); omega) (by omega)
  have eu : b.g.y.getD ja blk = u := by rw [List.getD_eq_getElem?_getD, hu]; rfl
  unfold bmpF
  rw [hja, Int.toNat_natCast, eu]
  generalize fz (fv u + fv c) = z at *
  have sx1 := sx b.g.y ja z
  obtain ⟨⟨code, outs, dim, par⟩, done, co, ⟨⟨g0, g1, g2⟩, gy, gp⟩⟩ := b
  obtain ⟨xo, xa, xb, xn⟩ := x
  dsimp only at *
  subst h
  rw [f412 _ _ rfl, b412]
  simp -implicitDefEqProofs [csg, h0', hx, hc, kc1', kx1', kc2, kx2, ca, hu, hu2, hA, hA', hAl, sx1, hja]
 ·-- parameter
  simp only [h, Int.reduceEq, if_false, if_true]
  obtain ⟨ja, hja⟩ : ∃ j : Nat, x.a = j := ⟨x.a.toNat, by have := (may_p hm h).1; omega⟩
  have hA : ja < np := by have := (may_p hm h).2; omega
  have hAl : ja < b.g.p.length := by omega
  obtain ⟨u, hu⟩ : ∃ u, b.g.p[ja]? = some u := ⟨_, List.getElem?_eq_getElem hAl⟩
  obtain ⟨_, hu2⟩ := List.getElem?_eq_some_iff.1 hu
  have hA' : (ja : Int) < np := by omega
  have ca := frac_addB (T := T) u c (by have := zp u (List.mem_of_getElem? hu); omega) (by omega)
  have eu : b.g.p.getD ja blk = u := by rw [List.getD_eq_getElem?_getD, hu]; rfl
  unfold bmpF
  rw [hja, Int.toNat_natCast, eu]
  generalize fz (fv u + fv c) = z at *
  have sx1 := sx b.g.p ja z
  obtain ⟨⟨code, outs, dim, par⟩, done, co, ⟨⟨g0, g1, g2⟩, gy, gp⟩⟩ := b
  obtain ⟨xo, xa, xb, xn⟩ := x
  dsimp only at *
  subst h
  rw [f412 _ _ rfl, b412]
  simp -implicitDefEqProofs [csg, h0', hx, hc, kc1', kx1', kc2, kx2, ca, hu, hu2, hA, hA', hAl, sx1, hja]
 ·-- other side
  simp only [h, Int.reduceEq, if_false, if_true]
  obtain ⟨ja, hja⟩ : ∃ j : Nat, x.a = j := ⟨x.a.toNat, by have := (may_a hm (by omega)).1; omega⟩
  have hA : ja < n := by have := (may_a hm (by omega)).2; omega
  have s1 := sd (fz (-fv c)) ja hA zn
  rw [fv_fz] at s1
  rw [hja, Int.toNat_natCast]
  generalize bmpF b.co ja (-fv c) = C1 at *
  generalize fz (-fv c) = z1 at *
  obtain ⟨⟨code, outs, dim, par⟩, done, co, ⟨⟨g0, g1, g2⟩, gy, gp⟩⟩ := b
  obtain ⟨xo, xa, xb, xn⟩ := x
  dsimp only at *
  subst h
  rw [f412 _ _ rfl, b412]
  simp -implicitDefEqProofs [csg, h0', hx, hc, kc1', kx1', kc2, kx2, cn, s1, hja]
 ·-- sum
  simp only [h, Int.reduceEq, if_false, if_true]
  obtain ⟨ja, hja⟩ : ∃ j : Nat, x.a = j := ⟨x.a.toNat, by have := (may_a hm (by omega)).1; omega⟩
  have hA : ja < n := by have := (may_a hm (by omega)).2; omega
  obtain ⟨jb, hjb⟩ : ∃ j : Nat, x.b = j := ⟨x.b.toNat, by have := (may_b hm (by omega)).1; omega⟩
  have hB : jb < n := by have := (may_b hm (by omega)).2; omega
  have s1 := sd c ja hA zc'
  have s2 := sd2 (fv c) ja (by omega) c jb hB zc'
  rw [hja, hjb, Int.toNat_natCast, Int.toNat_natCast]
  generalize bmpF (bmpF b.co ja (fv c)) jb (fv c) = C2 at *
  generalize bmpF b.co ja (fv c) = C1 at *
  obtain ⟨⟨code, outs, dim, par⟩, done, co, ⟨⟨g0, g1, g2⟩, gy, gp⟩⟩ := b
  obtain ⟨xo, xa, xb, xn⟩ := x
  dsimp only at *
  subst h
  rw [f412 _ _ rfl, b412]
  simp -implicitDefEqProofs [csg, h0', hx, hc, kc1', kx1', kc2, kx2, s1, s2, hja, hjb]
 ·-- difference
  simp only [h, Int.reduceEq, if_false, if_true]
  obtain ⟨ja, hja⟩ : ∃ j : Nat, x.a = j := ⟨x.a.toNat, by have := (may_a hm (by omega)).1; omega⟩
  have hA : ja < n := by have := (may_a hm (by omega)).2; omega
  obtain ⟨jb, hjb⟩ : ∃ j : Nat, x.b = j := ⟨x.b.toNat, by have := (may_b hm (by omega)).1; omega⟩
  have hB : jb < n := by have := (may_b hm (by omega)).2; omega
  have s1 := sd c ja hA zc'
  have s2 := sd2 (fv c) ja (by omega) (fz (-fv c)) jb hB zn
  rw [fv_fz] at s2
  rw [hja, hjb, Int.toNat_natCast, Int.toNat_natCast]
  generalize bmpF (bmpF b.co ja (fv c)) jb (-fv c) = C2 at *
  generalize bmpF b.co ja (fv c) = C1 at *
  generalize fz (-fv c) = z1 at *
  obtain ⟨⟨code, outs, dim, par⟩, done, co, ⟨⟨g0, g1, g2⟩, gy, gp⟩⟩ := b
  obtain ⟨xo, xa, xb, xn⟩ := x
  dsimp only at *
  subst h
  rw [f412 _ _ rfl, b412]
  simp -implicitDefEqProofs [csg, h0', hx, hc, kc1', kx1', kc2, kx2, cn, s1, s2, hja, hjb]
 ·-- product
  simp only [h, Int.reduceEq, if_false, if_true]
  obtain ⟨ja, hja⟩ : ∃ j : Nat, x.a = j := ⟨x.a.toNat, by have := (may_a hm (by omega)).1; omega⟩
  have hA : ja < n := by have := (may_a hm (by omega)).2; omega
  obtain ⟨jb, hjb⟩ : ∃ j : Nat, x.b = j := ⟨x.b.toNat, by have := (may_b hm (by omega)).1; omega⟩
  have hB : jb < n := by have := (may_b hm (by omega)).2; omega
  obtain ⟨da, hda⟩ : ∃ u, b.done[ja]? = some u := ⟨_, List.getElem?_eq_getElem (by omega)⟩
  obtain ⟨hda1, hda2⟩ := List.getElem?_eq_some_iff.1 hda
  have hda3 : (ja : Int) < b.done.length := by omega
  have zda := zd da (List.mem_of_getElem? hda)
  have vda := sz_fv zda (by decide)
  obtain ⟨db, hdb⟩ : ∃ u, b.done[jb]? = some u := ⟨_, List.getElem?_eq_getElem (by omega)⟩
  obtain ⟨hdb1, hdb2⟩ := List.getElem?_eq_some_iff.1 hdb
  have hdb3 : (jb : Int) < b.done.length := by omega
  have zdb := zd db (List.mem_of_getElem? hdb)
  have vdb := sz_fv zdb (by decide)
  have z1 := sz_mul (fv c) (fv db)
  have z2 := sz_mul (fv c) (fv da)
  have m1 := frac_mul (T := T) c db (by omega) (by omega)
  have m2 := frac_mul (T := T) c da (by omega) (by omega)
  have s1 := sd (fz (fv c * fv db)) ja hA (by rw [fsz_fz]; omega)
  have s2 := sd2 (fv c * fv db) ja (by omega) (fz (fv c * fv da)) jb hB (by rw [fsz_fz]; omega)
  rw [fv_fz] at s1 s2
  rw [gq hja hda, gq hjb hdb, hja, hjb, Int.toNat_natCast, Int.toNat_natCast]
  generalize bmpF (bmpF b.co ja (fv c * fv db)) jb (fv c * fv da) = C2 at *
  generalize bmpF b.co ja (fv c * fv db) = C1 at *
  generalize fz (fv c * fv db) = u1 at *
  generalize fz (fv c * fv da) = u2 at *
  clear sd sd2 z1 z2
  obtain ⟨⟨code, outs, dim, par⟩, done, co, ⟨⟨g0, g1, g2⟩, gy, gp⟩⟩ := b
  obtain ⟨xo, xa, xb, xn⟩ := x
  dsimp only at *
  subst h
  rw [f412 _ _ rfl, b412]
  simp -implicitDefEqProofs [csg, h0', hx, hc, kc1', kx1', kc2, kx2, m1, m2, s1, s2, hja, hjb, hda, hdb, hda1, hdb1, hda2, hdb2, hda3, hdb3]
 ·-- quotient
  simp only [h, Int.reduceEq, if_false, if_true]
  obtain ⟨ja, hja⟩ : ∃ j : Nat, x.a = j := ⟨x.a.toNat, by have := (may_a hm (by omega)).1; omega⟩
  have hA : ja < n := by have := (may_a hm (by omega)).2; omega
  obtain ⟨jb, hjb⟩ : ∃ j : Nat, x.b = j := ⟨x.b.toNat, by have := (may_b hm (by omega)).1; omega⟩
  have hB : jb < n := by have := (may_b hm (by omega)).2; omega
  obtain ⟨db, hdb⟩ : ∃ u, b.done[jb]? = some u := ⟨_, List.getElem?_eq_getElem (by omega)⟩
  obtain ⟨hdb1, hdb2⟩ := List.getElem?_eq_some_iff.1 hdb
  have hdb3 : (jb : Int) < b.done.length := by omega
  have zdb := zd db (List.mem_of_getElem? hdb)
  have vdb := sz_fv zdb (by decide)
  have q1 := back_quo (T := T) n ny np b x c r db ja jb hja hjb hcl hA hB hdb zo zc zr zdb
  rw [gq hjb hdb, hja, hjb, Int.toNat_natCast, Int.toNat_natCast]
  generalize bmpF (bmpF b.co ja (fv c / fv db)) jb (-(fv c / fv db * fv r)) = C2 at *
  clear sd sd2
  obtain ⟨⟨code, outs, dim, par⟩, done, co, ⟨⟨g0, g1, g2⟩, gy, gp⟩⟩ := b
  obtain ⟨xo, xa, xb, xn⟩ := x
  dsimp only at *
  subst h
  subst hja
  subst hjb
  rw [f412 _ _ rfl, b412]
  simp -implicitDefEqProofs [csg, h0', hx, hc, kc1', kx1', kc2, kx2, q1, hr, kr1, kr2, kr1']
 ·-- power
  simp only [h, Int.reduceEq, if_false, if_true]
  obtain ⟨ja, hja⟩ : ∃ j : Nat, x.a = j := ⟨x.a.toNat, by have := (may_a hm (by omega)).1; omega⟩
  have hA : ja < n := by have := (may_a hm (by omega)).2; omega
  obtain ⟨da, hda⟩ : ∃ u, b.done[ja]? = some u := ⟨_, List.getElem?_eq_getElem (by omega)⟩
  obtain ⟨hda1, hda2⟩ := List.getElem?_eq_some_iff.1 hda
  have hda3 : (ja : Int) < b.done.length := by omega
  have zda := zd da (List.mem_of_getElem? hda)
  have vda := sz_fv zda (by decide)
  obtain ⟨e1, e2⟩ := may_e hm h
  have q1 := back_pow (T := T) n ny np b x c r da ja hja e1 e2 hcl hA hda zo zc zr zda
  have et : turnW (b.done.map fv) x (fv r) = (if 0 < x.b then powZ (fv da) (x.b - 1) else if x.b < 0 then fv r / fv da else 0) := by
   unfold turnW
   rw [gq hja hda]
  rw [et, hja, Int.toNat_natCast]
  generalize (if 0 < x.b then powZ (fv da) (x.b - 1) else if x.b < 0 then fv r / fv da else 0) = tq at *
  generalize bmpF b.co ja (fv c * (x.b * tq)) = C2 at *
  clear sd sd2
  obtain ⟨⟨code, outs, dim, par⟩, done, co, ⟨⟨g0, g1, g2⟩, gy, gp⟩⟩ := b
  obtain ⟨xo, xa, xb, xn⟩ := x
  dsimp only at *
  subst h
  subst hja
  rw [f412 _ _ rfl, b412]
  simp -implicitDefEqProofs [csg, h0', hx, hc, kc1', kx1', kc2, kx2, q1, hr, kr1, kr2, kr1']
end
section
variable {T : Tbl} [CLimb T] [CNat T] [CProd T] [CTwos T] [CQuot T] [CQuotD T] [CWhole T] [CCommon T] [CFrac T] [CFrac3 T] [CFrac5 T] [CPow T] [CDigits T] [CText T] [CJoin T] [CRow T] [CTape T] [CEval T] [CGauge T] [CPull T]
theorem frac_sizeB (x : Fz) (hx : fsz x ≤ 30000) : callF T 223 [efz x] = some (.i .i64 (sizF x)) := by
 have h1 := fsz_a x
 have h2 := fsz_d x
 have c1 := twos_len (T := T) x.2.1 (by omega)
 have c2 := twos_len (T := T) x.2.2 (by omega)
 have b1 := blen_le' (x := val x.2.1) (k := 30000) (Nat.le_trans (ofN_length_le x.2.1) (by omega))
 have b2 := blen_le' (x := val x.2.2) (k := 30000) (Nat.le_trans (ofN_length_le x.2.2) (by omega))
 have w : IntKind.wrap .i64 ((blen (val x.2.1) : Int) + (blen (val x.2.2) : Int)) = ((sizF x : Nat) : Int) := by
  have e : ((sizF x : Nat) : Int) = (blen (val x.2.1) : Int) + (blen (val x.2.2) : Int) := by unfold sizF; omega
  rw [e]
  exact wrap_i64 _ (by omega)
 rw [f223 _ rfl, b223]
 generalize sizF x = S at *
 generalize blen (val x.2.1) = B1 at *
 generalize blen (val x.2.2) = B2 at *
 simp -implicitDefEqProofs [c1, c2, w]
theorem gauge_takeB (s p L : Int) (x : Fz) (hx : fsz x ≤ 30000) : callH T 411 [.ptr (.bor 0) 0 3 0 0, efz x] [(.bor 0, bxG 0 s p L)] = some (.b (decide ((sizF x : Int) ≤ L)), [(.bor 0, bxG 0 (cntS s) (cntP p x) L)]) := by
 have h1 := frac_sizeB (T := T) x hx
 have h2 := gauge_note (T := T) s p L (sizF x)
 unfold cntP
 rw [f411 _ _ rfl, b411]
 generalize cntS s = s' at *
 generalize (if p < (sizF x : Int) then (sizF x : Int) else p) = p' at *
 generalize (sizF x : Int) = z at *
 simp -implicitDefEqProofs [h1, h2]
theorem pull_all (g : PoF) (hy : g.y ≠ []) (hl : g.y.length ≤ 1000) (hl2 : g.p.length ≤ 1000) : callF T 414 [ept g] = some (.sl (rowF (g.t :: (g.y ++ g.p))) .an) := by
 obtain ⟨⟨g0, g1, g2⟩, gy, gp⟩ := g
 dsimp only
 dsimp only at hy hl hl2
 have hne : ¬ rowF gy = [] := fun h => hy (by have := congrArg List.length h; simpa using this)
 have h1 : 1 + gy.length ≤ 4294967296 := by omega
 have h2 : 1 + gy.length + gp.length ≤ 4294967296 := by omega
 have h3 : 1 + gy.length ≤ gy.length + 1 := by omega
 have h4 : ∀ c : List AV, List.take (1 + gy.length) (c :: rowF gy) = c :: rowF gy := fun c => List.take_of_length_le (by simp; omega)
 have h5 : 1 + gy.length + gp.length ≤ gy.length + gp.length + 1 := by omega
 have h6 : ∀ c : List AV, List.take (1 + gy.length + gp.length) (c :: (rowF gy ++ rowF gp)) = c :: (rowF gy ++ rowF gp) := fun c => List.take_of_length_le (by simp; omega)
 have h7 : wkL (rowF gy ++ rowF gp) = rowF gy ++ rowF gp := by
  have : rowF gy ++ rowF gp = rowF (gy ++ gp) := by simp [rowF]
  rw [this, rowF_wk]
 have e : rowF ((g0, g1, g2) :: (gy ++ gp)) = [.b g0, .sl (u32s g1) .an, .sl (u32s g2) .an] :: (rowF gy ++ rowF gp) := by simp [rowF]
 rw [e, f414 _ rfl, b414]
 simp -implicitDefEqProofs [hne, h1, h2, h3, h4, h5, h6, h7, rowF_head]
def stGw (F : List Fz) (L : Int) (i : Nat) (s p : Int) : St := ⟨[(0, .ptr (.bor 0) 0 3 0 0), (1, .sl (rowF F) .an), (8, .sl (rowF F) .an), (9, .i .i64 F.length), (10, .i .i64 i)], [(.bor 0, bxG 0 s p L)], 4⟩
theorem gw_ok (F : List Fz) (L : Int) (i : Nat) (s p : Int) (x : Fz) (hi : i < F.length) (hl : F.length ≤ 1000) (hg : F[i]? = some x) (hx : fsz x ≤ 30000) (hf : (sizF x : Int) ≤ L) :
  evX (orc T) T 1 l413_0 (stGw F L i s p) = some (.n, stGw F L (i + 1) (cntS s) (cntP p x)) := by
 have ht := gauge_takeB (T := T) s p L x hx
 rw [decide_eq_true hf] at ht
 have hws := wrapS hi (by omega)
 have hge := (List.getElem?_eq_some_iff.1 hg).2
 have hi' : (i : Int) < F.length := by omega
 generalize cntS s = s' at *
 generalize cntP p x = p' at *
 unfold stGw
 simp -implicitDefEqProofs [l413_0, hi, hi', hg, hge, hws, ht]
theorem gw_bad (F : List Fz) (L : Int) (i : Nat) (s p : Int) (x : Fz) (hi : i < F.length) (hl : F.length ≤ 1000) (hg : F[i]? = some x) (hx : fsz x ≤ 30000) (hf : ¬ (sizF x : Int) ≤ L) :
  evX (orc T) T 1 l413_0 (stGw F L i s p) = some (.r, ⟨[(4, .i .i64 i), (5, .b false)], [(.bor 0, bxG 0 (cntS s) (cntP p x) L)], 4⟩) := by
 have ht := gauge_takeB (T := T) s p L x hx
 rw [decide_eq_false hf] at ht
 have hge := (List.getElem?_eq_some_iff.1 hg).2
 have hi' : (i : Int) < F.length := by omega
 generalize cntS s = s' at *
 generalize cntP p x = p' at *
 unfold stGw
 simp -implicitDefEqProofs [l413_0, hi, hi', hg, hge, ht]
theorem gw_end (F : List Fz) (L s p : Int) : isEx (evX (orc T) T 1 l413_0 (stGw F L F.length s p)) = true ∧
  finX 1 0 (.norm false [1]) (evX (orc T) T 1 l413_0 (stGw F L F.length s p)) = some (.n, ⟨[(1, .sl (rowF F) .an)], [(.bor 0, bxG 0 s p L)], 4⟩) := by
 unfold stGw
 constructor <;> simp -implicitDefEqProofs [l413_0]
theorem gw_fin (i s p L : Int) : finX 1 0 (.norm false [1]) (some (.r, (⟨[(4, .i .i64 i), (5, .b false)], [(.bor 0, bxG 0 s p L)], 4⟩ : St))) = some (.r, ⟨[(4, .i .i64 i), (5, .b false)], [(.bor 0, bxG 0 s p L)], 4⟩) := by
 simp -implicitDefEqProofs
theorem gw_loop (qs : List Rat) (L : Nat) (hl : qs.length ≤ 1000) (hw : ∀ q ∈ qs, sz q ≤ 30000) (s p : Int) :
  ∃ r, (∃ s' p' : Int, (firstL L qs 0 = none ∧ r = (Ex.n, (⟨[(1, .sl (rowF (fzs qs)) .an)], [(.bor 0, bxG 0 s' p' L)], 4⟩ : St))) ∨ (∃ k : Nat, firstL L qs 0 = some k ∧ r = (.r, ⟨[(4, .i .i64 k), (5, .b false)], [(.bor 0, bxG 0 s' p' L)], 4⟩))) ∧
   loopN T 1 0 (.norm false [1]) l413_0 (stGw (fzs qs) L 0 s p) = some r := by
 refine loopN_ex (fun x : Nat × Int × Int => stGw (fzs qs) L x.1 x.2.1 x.2.2) (fun x => x.1 ≤ qs.length ∧ firstL L (qs.drop x.1) x.1 = firstL L qs 0) (fun x => qs.length - x.1) _ ?_ (0, s, p) ⟨Nat.zero_le _, rfl⟩
 rintro ⟨i, s, p⟩ ⟨hi, hf⟩
 dsimp only at *
 have hfl : (fzs qs).length = qs.length := fzs_length _
 by_cases hlt : i < qs.length
 ·have hd : qs.drop i = qs[i] :: qs.drop (i + 1) := List.drop_eq_getElem_cons hlt
  have hg : (fzs qs)[i]? = some (fz qs[i]) := by simp [fzs, hlt]
  have hs : fsz (fz qs[i]) ≤ 30000 := hw _ (List.getElem_mem hlt)
  rw [hd, firstL] at hf
  by_cases hb : L < sizQ qs[i]
  ·right
   rw [if_pos hb] at hf
   have e := gw_bad (T := T) (fzs qs) L i s p _ (by omega) (by omega) hg hs (by unfold sizQ at hb; omega)
   refine ⟨_, ⟨cntS s, cntP p (fz qs[i]), .inr ⟨i, hf.symm, rfl⟩⟩, by rw [e]; rfl, by rw [e, gw_fin]⟩
  ·left
   rw [if_neg hb] at hf
   exact ⟨(i + 1, cntS s, cntP p (fz qs[i])), ⟨by dsimp only; omega, hf⟩, by dsimp only; omega, gw_ok (T := T) (fzs qs) L i s p _ (by omega) (by omega) hg hs (by unfold sizQ at hb; omega)⟩
 ·right
  have : i = qs.length := by omega
  subst this
  rw [List.drop_length, firstL] at hf
  have e := gw_end (T := T) (fzs qs) L s p
  rw [hfl] at e
  exact ⟨_, ⟨s, p, .inl ⟨hf.symm, rfl⟩⟩, e⟩
theorem gauge_row (qs : List Rat) (L : Nat) (hl : qs.length ≤ 1000) (hw : ∀ q ∈ qs, sz q ≤ 30000) (s p : Int) :
  ∃ s' p' : Int, callH T 413 [.ptr (.bor 0) 0 3 0 0, .sl (rowF (fzs qs)) .an] [(.bor 0, bxG 0 s p L)] = some (.tup [.i .i64 (match firstL L qs 0 with | some k => (k : Int) | none => (qs.length : Int)), .b (firstL L qs 0).isNone], [(.bor 0, bxG 0 s' p' L)]) := by
 obtain ⟨r, ⟨s', p', hr⟩, hloop⟩ := gw_loop (T := T) qs L hl hw s p
 refine ⟨s', p', ?_⟩
 have hfl : (fzs qs).length = qs.length := fzs_length _
 rw [f413 _ _ rfl, b413]
 unfold stGw at hloop
 simp only [Int.natCast_zero] at hloop
 rcases hr with ⟨h, rfl⟩ | ⟨k, h, rfl⟩
 ·rw [h]
  rw [hfl] at hloop
  generalize fzs qs = F at *
  simp -implicitDefEqProofs [hloop, hfl]
 ·rw [h]
  rw [hfl] at hloop
  generalize fzs qs = F at *
  simp -implicitDefEqProofs [hloop, hfl]
end
abbrev fa1 : BId := .fld (.fld (.loc 20) 0) 8009
abbrev fa2 : BId := .fld (.fld (.loc 20) 0) 10009
abbrev fb1 : BId := .fld (.fld (.loc 50) 0) 8009
abbrev fb2 : BId := .fld (.fld (.loc 50) 0) 10009
abbrev z5 : List AV := [.b (fz 0).1, .sl (u32s (fz 0).2.1) .an, .sl (u32s (fz 0).2.2) .an, .bs fa1 4 3 0 0, .bs fa2 5 3 0 0]
abbrev bkX (n ny np : Nat) (b : Bk) : Heap :=
 [(.loc 8, ⟨1, .str, 5, [[.b false, .sl [] .an, .sl [] .an, .sl [] .an, .sl [] .an]]⟩), (.loc 9, ⟨2, .str, 4, [[.i .i64 0, .i .i64 0, .i .i64 0, .i .i64 0]]⟩),
  (.loc 10, ⟨3, .str, 5, [z5]⟩), (fa1, ⟨4, .own, 3, []⟩), (fa2, ⟨5, .own, 3, []⟩),
  (.loc 52, ⟨6, .str, 11, [[.sl (rowI b.t.code) .an, .sl (ints b.t.outs) .an, .i .i64 b.t.dim, .i .i64 b.t.par, .sl (rowF b.done) .an, .bs (.loc 45) 7 3 0 n, .b b.g.t.1, .sl (u32s b.g.t.2.1) .an, .sl (u32s b.g.t.2.2) .an,
   .bs fb1 8 3 0 ny, .bs fb2 9 3 0 np]]⟩),
  (.loc 45, ⟨7, .own, 3, rowF b.co⟩), (fb1, ⟨8, .own, 3, rowF b.g.y⟩), (fb2, ⟨9, .own, 3, rowF b.g.p⟩)]
def stSd (n ny np : Nat) (W : List Fz) (bits : Int) (b : Bk) (i : Nat) : St :=
 ⟨[(2, .sl (rowF W) .an), (3, .i .i64 bits), (8, .ptr (.loc 8) 1 5 0 0), (9, .ptr (.loc 9) 2 4 0 0), (10, .ptr (.loc 10) 3 5 0 0), (11, .sl (rowF b.done) .an), (13, .ptr (.loc 52) 6 11 0 0),
  (54, .sl (ints b.t.outs) .an), (55, .i .i64 b.t.outs.length), (56, .i .i64 i)], bkX n ny np b, 11⟩
def stBk (n ny np : Nat) (L : Int) (b : Bk) (i s p : Int) : St :=
 ⟨[(8, .ptr (.loc 8) 1 5 0 0), (9, .ptr (.loc 9) 2 4 0 0), (10, .ptr (.loc 10) 3 5 0 0), (13, .ptr (.loc 52) 6 11 0 0), (16, .ptr (.fld (.loc 70) 7) 10 3 0 0), (17, .i .i64 i)], bkX n ny np b ++ [(.fld (.loc 70) 7, bxG 10 s p L)], 12⟩
def endSd (n ny np : Nat) (bits : Int) (b : Bk) : Ex × St :=
 (.n, ⟨[(3, .i .i64 bits), (8, .ptr (.loc 8) 1 5 0 0), (9, .ptr (.loc 9) 2 4 0 0), (10, .ptr (.loc 10) 3 5 0 0), (11, .sl (rowF b.done) .an), (13, .ptr (.loc 52) 6 11 0 0)], bkX n ny np b, 11⟩)
def endBk (n ny np : Nat) (L : Int) (b : Bk) (s p : Int) : Ex × St :=
 (.n, ⟨[(8, .ptr (.loc 8) 1 5 0 0), (9, .ptr (.loc 9) 2 4 0 0), (10, .ptr (.loc 10) 3 5 0 0), (13, .ptr (.loc 52) 6 11 0 0), (16, .ptr (.fld (.loc 70) 7) 10 3 0 0)], bkX n ny np b ++ [(.fld (.loc 70) 7, bxG 10 s p L)], 12⟩)
def endBad (i : Int) : Ex × St :=
 (.r, ⟨[(8, .ptr (.loc 8) 1 5 0 0), (9, .ptr (.loc 9) 4 4 0 0)], [(.loc 8, ⟨1, .str, 5, [[.b (fz 0).1, .sl (u32s (fz 0).2.1) .an, .sl (u32s (fz 0).2.2) .an, .bs fa1 2 3 0 0, .bs fa2 3 3 0 0]]⟩), (fa1, ⟨2, .own, 3, []⟩), (fa2, ⟨3, .own, 3, []⟩),
  (.loc 9, ⟨4, .str, 4, [[.i .i64 6, .i .i64 0, .i .i64 2, .i .i64 i]]⟩)], 6⟩)
section
variable {T : Tbl} [CLimb T] [CNat T] [CProd T] [CTwos T] [CQuot T] [CQuotD T] [CWhole T] [CCommon T] [CFrac T] [CFrac3 T] [CFrac5 T] [CPow T] [CDigits T] [CText T] [CJoin T] [CRow T] [CTape T] [CEval T] [CGauge T] [CPull T]
theorem sd_round (n ny np : Nat) (W : List Fz) (bits : Int) (b : Bk) (i k : Nat) (w : Fz) (hi : i < b.t.outs.length) (hl : b.t.outs.length ≤ 1000) (hg : b.t.outs[i]? = some (k : Int)) (hw : W[i]? = some w) (hn : b.co.length = n) (hk : k < n)
  (hx : ∀ x ∈ b.co, fsz x ≤ 30000) (hc : fsz w ≤ 30000) :
  evX (orc T) T 0 l397_0 (stSd n ny np W bits b i) = some (.n, stSd n ny np W bits { b with co := bmpF b.co k (fv w) } (i + 1)) := by
 have hs := back_send1 (T := T) n ny np b k w hn hk hx hc
 have hws := wrapS hi (by omega)
 have hge := (List.getElem?_eq_some_iff.1 hg).2
 obtain ⟨hw1, hw2⟩ := List.getElem?_eq_some_iff.1 hw
 have hi' : (i : Int) < b.t.outs.length := by omega
 have hw1' : (i : Int) < W.length := by omega
 generalize bmpF b.co k (fv w) = C1 at *
 unfold stSd
 generalize fz 0 = Z at *
 obtain ⟨⟨code, outs, dim, par⟩, done, co, ⟨⟨g0, g1, g2⟩, gy, gp⟩⟩ := b
 dsimp only at *
 simp -implicitDefEqProofs [l397_0, hi, hi', hg, hge, hw, hw1, hw1', hw2, hws, hs]
theorem bk_round (n ny np : Nat) (L : Int) (b b' : Bk) (i : Nat) (s p : Int) (c : Fz) (hc : b.co[i]? = some c) (zc : fsz c ≤ 29000) (hf : (sizF (fz (fv c)) : Int) ≤ L)
  (ht : callH T 412 [bkP, .i .i64 i] (bkN n ny np b) = some (.tup [], bkN n ny np b')) (hn : b.co.length = n) (hn2 : n ≤ 1000) (ht1 : b'.t = b.t) (ht2 : b'.done = b.done) :
  evX (orc T) T 0 l397_1 (stBk n ny np L b i s p) = some (.n, stBk n ny np L b' ((i : Int) - 1) (cntS s) (cntP p (fz (fv c)))) := by
 have cn := frac_normB (T := T) c (by omega)
 have zq := sz_fv zc (by decide)
 have tk := gauge_takeB (T := T) s p L (fz (fv c)) (by rw [fsz_fz]; omega)
 rw [decide_eq_true hf] at tk
 obtain ⟨kc1, kc2⟩ := List.getElem?_eq_some_iff.1 hc
 have kc1' : (i : Int) < n := by omega
 have hw : IntKind.wrap .i64 ((i : Int) - 1) = (i : Int) - 1 := wrap_i64 _ (by omega)
 generalize cntS s = s' at *
 generalize cntP p (fz (fv c)) = p' at *
 generalize fz (fv c) = q at *
 unfold stBk
 generalize fz 0 = Z at *
 obtain ⟨⟨code, outs, dim, par⟩, done, co, ⟨⟨g0, g1, g2⟩, gy, gp⟩⟩ := b
 obtain ⟨⟨code', outs', dim', par'⟩, done', co', ⟨⟨g0', g1', g2'⟩, gy', gp'⟩⟩ := b'
 dsimp only at *
 cases ht1
 subst ht2
 simp -implicitDefEqProofs [l397_1, hc, kc1', kc2, cn, tk, ht, hw]
theorem bk_bits (n ny np : Nat) (L : Int) (b : Bk) (i : Nat) (s p : Int) (c : Fz) (hc : b.co[i]? = some c) (zc : fsz c ≤ 29000) (hf : ¬ (sizF (fz (fv c)) : Int) ≤ L) (hn : b.co.length = n) (hn2 : n ≤ 1000) :
  evX (orc T) T 0 l397_1 (stBk n ny np L b i s p) = some (endBad i) := by
 have cn := frac_normB (T := T) c (by omega)
 have zq := sz_fv zc (by decide)
 have tk := gauge_takeB (T := T) s p L (fz (fv c)) (by rw [fsz_fz]; omega)
 rw [decide_eq_false hf] at tk
 obtain ⟨kc1, kc2⟩ := List.getElem?_eq_some_iff.1 hc
 have kc1' : (i : Int) < n := by omega
 generalize cntS s = s' at *
 generalize cntP p (fz (fv c)) = p' at *
 generalize fz (fv c) = q at *
 unfold stBk endBad
 obtain ⟨⟨code, outs, dim, par⟩, done, co, ⟨⟨g0, g1, g2⟩, gy, gp⟩⟩ := b
 dsimp only at *
 simp -implicitDefEqProofs [l397_1, hc, kc1', kc2, cn, tk]
theorem bk_fin (i : Int) : finX 0 2 (.norm false [8, 9, 10, 13, 16]) (some (endBad i)) = some (endBad i) := by
 unfold endBad
 simp -implicitDefEqProofs
theorem bk_end (n ny np : Nat) (L : Int) (b : Bk) (s p : Int) : isEx (evX (orc T) T 0 l397_1 (stBk n ny np L b (-1) s p)) = true ∧
  finX 0 2 (.norm false [8, 9, 10, 13, 16]) (evX (orc T) T 0 l397_1 (stBk n ny np L b (-1) s p)) = some (endBk n ny np L b s p) := by
 unfold stBk endBk
 generalize fz 0 = Z at *
 obtain ⟨⟨code, outs, dim, par⟩, done, co, ⟨⟨g0, g1, g2⟩, gy, gp⟩⟩ := b
 constructor <;> simp -implicitDefEqProofs [l397_1]
theorem sd_end (n ny np : Nat) (W : List Fz) (bits : Int) (b : Bk) : isEx (evX (orc T) T 0 l397_0 (stSd n ny np W bits b b.t.outs.length)) = true ∧
  finX 0 0 (.norm false [3, 8, 9, 10, 11, 13]) (evX (orc T) T 0 l397_0 (stSd n ny np W bits b b.t.outs.length)) = some (endSd n ny np bits b) := by
 unfold stSd endSd
 generalize fz 0 = Z at *
 obtain ⟨⟨code, outs, dim, par⟩, done, co, ⟨⟨g0, g1, g2⟩, gy, gp⟩⟩ := b
 constructor <;> simp -implicitDefEqProofs [l397_0]
end
def sendF : List Int → List Fz → List Fz → List Fz
 | o :: os, w :: ws, co => sendF os ws (bmpF co o.toNat (fv w))
 | _, _, co => co
theorem sendF_v : ∀ (os : List Int) (ws co : List Fz), (sendF os ws co).map fv = sendQ os (ws.map fv) (co.map fv)
 | [], _, _ => rfl
 | _ :: _, [], _ => rfl
 | o :: os, w :: ws, co => by rw [sendF, sendF_v os ws, bmpF_v]; rfl
def nice (co : List Fz) : Prop := ∀ u ∈ co, u = blk ∨ u = fz (fv u)
theorem nice_bmp {co : List Fz} (h : nice co) (k : Nat) (q : Rat) : nice (bmpF co k q) := by
 intro u hu
 rcases List.mem_or_eq_of_mem_set hu with h2 | h2
 ·exact h u h2
 ·right; rw [h2, fv_fz]
theorem nice_thr {co : List Fz} (h : nice co) (D : List Fz) (x : Ins) (r c : Rat) : nice (thrF D x r c co) := by
 unfold thrF
 repeat' split
 all_goals first
  | exact h
  | exact nice_bmp h _ _
  | exact nice_bmp (nice_bmp h _ _) _ _
theorem nice_sz {co : List Fz} (h : nice co) {k : Nat} {u : Fz} (hu : co[k]? = some u) : fsz u ≤ sz (fv u) := by
 rcases h u (List.mem_of_getElem? hu) with h2 | h2
 ·rw [h2]; exact Nat.zero_le _
 ·exact Nat.le_of_eq (by rw [← fsz_fz, ← h2])
theorem bmp_fzs (l : List Rat) (i : Int) (q : Rat) : bmpF (fzs l) i.toNat q = fzs (bmp l i q) := by
 have e : fv ((fzs l).getD i.toNat blk) = gI l i := by
  unfold gI fzs
  rw [List.getD_eq_getElem?_getD, List.getD_eq_getElem?_getD, List.getElem?_map]
  cases l[i.toNat]? with
  | none => exact fv_blk
  | some x => exact fv_fz x
 unfold bmpF bmp
 rw [e]
 simp [fzs, List.map_set]
theorem thrH_f (x : Ins) (c : Rat) (g : Po) : thrH x c g.f = (thrG x c g).f := by
 unfold thrH
 by_cases h : c = 0
 ·subst h
  rw [if_pos rfl, thrG_zero]
 ·rw [if_neg h]
  unfold thrG Po.f
  repeat' split
  all_goals simp only [bmp_fzs, fv_fz]
theorem bmp_szQ {l : List Rat} {K S : Nat} (i : Int) {q : Rat} (h : ∀ u ∈ l, sz u ≤ K) (h1 : 1 ≤ K) (hq : sz q ≤ S) : ∀ u ∈ bmp l i q, sz u ≤ K + S + 1 := by
 intro u hu
 rcases List.mem_or_eq_of_mem_set hu with h2 | h2
 ·have := h u h2; omega
 ·rw [h2]
  have h3 := sz_add (gI l i) q
  have h4 := gI_sz (a := i) h1 h
  omega
theorem thrG_sz {g : Po} {K : Nat} (h : PvS g K) (h1 : 1 ≤ K) (x : Ins) {c : Rat} (hc : sz c ≤ 129) : PvS (thrG x c g) (K + 130) := by
 have up : PvS g (K + 130) := ⟨by have := h.t; omega, fun q hq => by have := h.y q hq; omega, fun q hq => by have := h.p q hq; omega⟩
 unfold thrG
 repeat' split
 ·exact ⟨by have := sz_add g.t c; have := h.t; dsimp only; omega, up.y, up.p⟩
 ·exact ⟨up.t, fun q hq => bmp_szQ x.a h.y h1 hc q hq, up.p⟩
 ·exact ⟨up.t, up.y, fun q hq => bmp_szQ x.a h.p h1 hc q hq⟩
 ·exact up
section
variable {T : Tbl} [CLimb T] [CNat T] [CProd T] [CTwos T] [CQuot T] [CQuotD T] [CWhole T] [CCommon T] [CFrac T] [CFrac3 T] [CFrac5 T] [CPow T] [CDigits T] [CText T] [CJoin T] [CRow T] [CTape T] [CEval T] [CGauge T] [CPull T]
theorem sd_loop (n ny np : Nat) (W : List Fz) (bits : Int) (b : Bk) (hn : b.co.length = n) (ho : ∀ o ∈ b.t.outs, 0 ≤ o ∧ o < n) (hwl : W.length = b.t.outs.length) (hol : b.t.outs.length ≤ 6) (hw : ∀ u ∈ W, fsz u ≤ 1000) (hz : ∀ u ∈ b.co, fsz u ≤ 1) (hni : nice b.co) :
  ∃ co, co = sendF b.t.outs W b.co ∧ co.length = n ∧ nice co ∧ (∀ u ∈ co, fsz u ≤ 7000) ∧ loopN T 0 0 (.norm false [3, 8, 9, 10, 11, 13]) l397_0 (stSd n ny np W bits b 0) = some (endSd n ny np bits { b with co := co }) := by
 have := loopN_ex (T := T) (k := 0) (id := 0) (g2 := .norm false [3, 8, 9, 10, 11, 13]) (c := l397_0) (fun x : Nat × List Fz => stSd n ny np W bits { b with co := x.2 } x.1)
  (fun x => x.1 ≤ b.t.outs.length ∧ x.2.length = n ∧ nice x.2 ∧ (∀ u ∈ x.2, fsz u ≤ 1 + x.1 * 1002) ∧ sendF (b.t.outs.drop x.1) (W.drop x.1) x.2 = sendF b.t.outs W b.co) (fun x => b.t.outs.length - x.1)
  (fun r => ∃ co, co = sendF b.t.outs W b.co ∧ co.length = n ∧ nice co ∧ (∀ u ∈ co, fsz u ≤ 7000) ∧ r = endSd n ny np bits { b with co := co }) ?_ (0, b.co) ⟨Nat.zero_le _, hn, hni, fun u hu => by have := hz u hu; dsimp only; omega, rfl⟩
 ·obtain ⟨r, ⟨co, h1, h2, h3, h4, rfl⟩, h5⟩ := this
  exact ⟨co, h1, h2, h3, h4, h5⟩
 rintro ⟨i, co⟩ ⟨hi, hcl, hnc, hsz, hF⟩
 dsimp only at *
 by_cases hlt : i < b.t.outs.length
 ·left
  have hlw : i < W.length := by omega
  obtain ⟨o, hg⟩ : ∃ o, b.t.outs[i]? = some o := ⟨_, List.getElem?_eq_getElem hlt⟩
  obtain ⟨w, hgw⟩ : ∃ w, W[i]? = some w := ⟨_, List.getElem?_eq_getElem hlw⟩
  have hd : b.t.outs.drop i = o :: b.t.outs.drop (i + 1) := by rw [List.drop_eq_getElem_cons hlt, (List.getElem?_eq_some_iff.1 hg).2]
  have hdw : W.drop i = w :: W.drop (i + 1) := by rw [List.drop_eq_getElem_cons hlw, (List.getElem?_eq_some_iff.1 hgw).2]
  obtain ⟨o1, o2⟩ := ho _ (List.mem_of_getElem? hg)
  have zw := hw _ (List.mem_of_getElem? hgw)
  rw [hd, hdw, sendF] at hF
  obtain ⟨k, rfl⟩ : ∃ k : Nat, o = k := ⟨o.toNat, by omega⟩
  rw [Int.toNat_natCast] at hF
  have hb : i * 1002 ≤ 6 * 1002 := Nat.mul_le_mul_right _ (by omega)
  have e := sd_round (T := T) n ny np W bits { b with co := co } i k w hlt (by dsimp only; omega) hg hgw hcl (by omega) (fun u hu => by have := hsz u hu; omega) (by omega)
  refine ⟨(i + 1, bmpF co k (fv w)), ⟨by dsimp only; omega, by simpa using hcl, nice_bmp hnc _ _, fun u hu => ?_, hF⟩, by dsimp only; omega, e⟩
  have h9 := bmpF_sz (S := 1000) k hsz (by omega) (sz_fv zw (by decide)) u hu
  show fsz u ≤ 1 + (i + 1) * 1002
  rw [Nat.succ_mul]
  exact Nat.le_trans h9 (by generalize i * 1002 = z; omega)
 ·right
  have : i = b.t.outs.length := by omega
  subst this
  rw [List.drop_length, sendF] at hF
  ·have hb : b.t.outs.length * 1002 ≤ 6 * 1002 := Nat.mul_le_mul_right _ (by omega)
   refine ⟨_, ⟨co, hF, hcl, hnc, fun u hu => by have := hsz u hu; omega, rfl⟩, sd_end (T := T) n ny np W bits { b with co := co }⟩
  ·intro o os w ws h
   cases h
def BkEnd (n ny np L : Nat) (t : Tp) (D : List Fz) (R : (List Rat × Po) × Option Nat) (r : Ex × St) : Prop :=
 (∃ i, R.2 = some i ∧ r = endBad (i : Nat)) ∨ (R.2 = none ∧ PvS R.1.2 3000 ∧ R.1.2.y.length = ny ∧ R.1.2.p.length = np ∧ ∃ (co : List Fz) (s p : Int), r = endBk n ny np L ⟨t, D, co, R.1.2.f⟩ s p)
theorem bk_loop (n ny np L : Nat) (t : Tp) (D co0 : List Fz) (g0 : Po) (ht : OkTp t) (hn : t.code.length = n) (hn2 : n ≤ 20) (hL : L ≤ 4096) (hD : D.length = n) (hy : (ny : Int) = t.dim) (hp : (np : Int) = t.par) (zD : ∀ u ∈ D, fsz u ≤ 129)
  (h1 : co0.length = n) (h2 : nice co0) (h3 : ∀ u ∈ co0, fsz u ≤ 7000) (h4 : PvS g0 1) (h5 : g0.y.length = ny) (h6 : g0.p.length = np) (s0 p0 : Int) :
  ∃ r, BkEnd n ny np L t D (backR L t.code (D.map fv) n (co0.map fv) g0) r ∧ loopN T 0 2 (.norm false [8, 9, 10, 13, 16]) l397_1 (stBk n ny np L ⟨t, D, co0, g0.f⟩ ((n : Int) - 1) s0 p0) = some r := by
 refine loopN_ex (T := T) (k := 0) (id := 2) (g2 := .norm false [8, 9, 10, 13, 16]) (c := l397_1) (fun x : Nat × List Fz × Po × Int × Int => stBk n ny np L ⟨t, D, x.2.1, x.2.2.1.f⟩ ((x.1 : Int) - 1) x.2.2.2.1 x.2.2.2.2)
  (fun x => x.1 ≤ n ∧ x.2.1.length = n ∧ nice x.2.1 ∧ (∀ u ∈ x.2.1, fsz u ≤ 7000 + (n - x.1) * 1036) ∧ PvS x.2.2.1 (1 + (n - x.1) * 130) ∧ x.2.2.1.y.length = ny ∧ x.2.2.1.p.length = np ∧ backR L t.code (D.map fv) x.1 (x.2.1.map fv) x.2.2.1 = backR L t.code (D.map fv) n (co0.map fv) g0) (fun x => x.1)
  _ ?_ (n, co0, g0, s0, p0) ⟨Nat.le_refl _, h1, h2, fun u hu => by have := h3 u hu; dsimp only; omega, by dsimp only; rw [Nat.sub_self, Nat.zero_mul]; exact h4, h5, h6, rfl⟩
 rintro ⟨m, co, g, s, p⟩ ⟨hm, hcl, hnc, hsz, hgs, hgy, hgp, hR⟩
 dsimp only at *
 cases m with
 | zero =>
  right
  have e := bk_end (T := T) n ny np L ⟨t, D, co, g.f⟩ s p
  rw [backR] at hR
  have em : ((0 : Nat) : Int) - 1 = -1 := rfl
  rw [em]
  refine ⟨_, .inr ?_, e⟩
  rw [← hR]
  have hb : (n - 0) * 130 ≤ 20 * 130 := Nat.mul_le_mul_right _ (by omega)
  have hP : PvS g 3000 := ⟨by have := hgs.t; omega, fun q hq => by have := hgs.y q hq; omega, fun q hq => by have := hgs.p q hq; omega⟩
  exact ⟨rfl, hP, hgy, hgp, co, s, p, rfl⟩
 | succ k =>
  have hk : k < n := by omega
  have em : ((k + 1 : Nat) : Int) - 1 = k := by omega
  obtain ⟨c, hc⟩ : ∃ c, co[k]? = some c := ⟨_, List.getElem?_eq_getElem (by omega)⟩
  obtain ⟨r, hr⟩ : ∃ r, D[k]? = some r := ⟨_, List.getElem?_eq_getElem (by omega)⟩
  obtain ⟨x, hx⟩ : ∃ x, t.code[k]? = some x := ⟨_, List.getElem?_eq_getElem (by omega)⟩
  have hmay := ht.may k x hx
  have b1 : (n - (k + 1)) * 1036 ≤ 19 * 1036 := Nat.mul_le_mul_right _ (by omega)
  have b2 : (n - (k + 1)) * 130 ≤ 19 * 130 := Nat.mul_le_mul_right _ (by omega)
  have zc := hsz c (List.mem_of_getElem? hc)
  have ec : gI (co.map fv) k = fv c := gI_map rfl hc
  have er : gI (D.map fv) k = fv r := gI_map rfl hr
  rw [em]
  rw [backR, hx] at hR
  dsimp only at hR
  rw [ec, er] at hR
  by_cases hf : L < sizQ (fv c)
  ·right
   rw [if_pos hf] at hR
   have e := bk_bits (T := T) n ny np L ⟨t, D, co, g.f⟩ k s p c hc (by omega) (by unfold sizQ at hf; omega) hcl (by omega)
   rw [e]
   refine ⟨_, .inl ⟨k, ?_, rfl⟩, rfl, bk_fin k⟩
   rw [← hR]
  ·left
   rw [if_neg hf] at hR
   have zq := sizQ_sz (q := fv c) (b := L) (by omega)
   have zc9 := nice_sz hnc hc
   have zr := zD r (List.mem_of_getElem? hr)
   have th := back_thr (T := T) n ny np ⟨t, D, co, g.f⟩ x k c r hx hmay hD hcl (by rw [← hgy]; exact fzs_length _) (by rw [← hgp]; exact fzs_length _) hy hp hc hr (by omega) zD (fun u hu => by have := hsz u hu; omega)
    (by show sz g.t ≤ _; have := hgs.t; omega) (fun u hu => by obtain ⟨q, hq, rfl⟩ := List.mem_map.1 hu; have := hgs.y q hq; rw [fsz_fz]; omega) (fun u hu => by obtain ⟨q, hq, rfl⟩ := List.mem_map.1 hu; have := hgs.p q hq; rw [fsz_fz]; omega)
   dsimp only at th
   rw [thrH_f] at th
   have e := bk_round (T := T) n ny np L ⟨t, D, co, g.f⟩ ⟨t, D, thrF D x (fv r) (fv c) co, (thrG x (fv c) g).f⟩ k s p c hc (by omega) (by unfold sizQ at hf; omega) th hcl (by omega) rfl rfl
   refine ⟨(k, thrF D x (fv r) (fv c) co, thrG x (fv c) g, cntS s, cntP p (fz (fv c))), ⟨by dsimp only; omega, by simpa using hcl, nice_thr hnc _ _ _ _, fun u hu => ?_, ?_, ?_, ?_, ?_⟩, by dsimp only; omega, e⟩
   ·have h9 := thrF_sz hmay zD (by omega) (sz_fv zr (by decide)) hsz (by omega) u hu
    show fsz u ≤ 7000 + (n - k) * 1036
    rw [show n - k = n - (k + 1) + 1 by omega, Nat.succ_mul]
    exact Nat.le_trans h9 (by generalize (n - (k + 1)) * 1036 = z; omega)
   ·have := thrG_sz hgs (by omega) x (c := fv c) (by omega)
    dsimp only
    rw [show n - k = n - (k + 1) + 1 by omega, Nat.add_mul, ← Nat.add_assoc]
    exact this
   ·exact (thrG_len _ _ _).1.trans hgy
   ·exact (thrG_len _ _ _).2.trans hgp
   ·dsimp only
    rw [thrF_v]
    exact hR
end
theorem blkrow (n : Nat) : wkL (List.replicate n [.b false, .sl [] .nl, .sl [] .nl]) = rowF (List.replicate n blk) := by
 rw [wkL_map, List.map_replicate]
 simp [rowF, wkR, wkA]
section
variable {T : Tbl} [CLimb T] [CNat T] [CProd T] [CTwos T] [CQuot T] [CQuotD T] [CWhole T] [CCommon T] [CFrac T] [CFrac3 T] [CFrac5 T] [CPow T] [CDigits T] [CText T] [CJoin T] [CRow T] [CTape T] [CEval T] [CGauge T] [CRun T] [CIfc T] [CPull T]
theorem zero_own (d p : Int) (ny np : Nat) (h1 : cap300 d = ny) (h2 : cap300 p = np) : callH T 2395 [.i .i64 d, .i .i64 p] [] = some (.agg [.b (fz 0).1, .sl (u32s (fz 0).2.1) .an, .sl (u32s (fz 0).2.2) .an, .bs (.fld (.loc 7) 9) 1 3 0 ny, .bs (.fld (.loc 9) 9) 2 3 0 np],
  [(.fld (.loc 7) 9, ⟨1, .own, 3, rowF (List.replicate ny (fz 0))⟩), (.fld (.loc 9) 9, ⟨2, .own, 3, rowF (List.replicate np (fz 0))⟩)]) := by
 have := pull_zero_own (T := T) d p
 rw [h1, h2] at this
 exact this
theorem back_form (t : Tp) (x : PoF) (w : List Fz) (bits : Int) (h : w.length ≠ t.outs.length) : callF T 397 [etp t, ept x, .sl (rowF w) .an, .i .i64 bits] = some (.tup [ept (zeroP 0 0).f, fltA 2 0 0 0]) := by
 have hz := zero_own (T := T) 0 0 0 0 rfl rfl
 have h' : ¬ (w.length : Int) = t.outs.length := by omega
 have e : (zeroP 0 0).f = ⟨fz 0, [], []⟩ := rfl
 rw [e]
 generalize fz 0 = Z at *
 obtain ⟨code, outs, dim, par⟩ := t
 obtain ⟨⟨x0, x1, x2⟩, xy, xp⟩ := x
 dsimp only at *
 rw [f397 _ rfl, b397]
 simp -implicitDefEqProofs [hz, h']
theorem back_run (t : Tp) (x : PoF) (w : List Fz) (bits : Int) (h : w.length = t.outs.length) (D : List Fz) (k a : Nat) (hk : k ≠ 0) (hr : callF T 384 [etp t, ept x, .i .i64 bits] = some (.tup [.sl (rowF D) .an, fltA k 0 0 a])) : callF T 397 [etp t, ept x, .sl (rowF w) .an, .i .i64 bits] = some (.tup [ept (zeroP 0 0).f, fltA k 0 0 a]) := by
 have hz := zero_own (T := T) 0 0 0 0 rfl rfl
 have h' : (w.length : Int) = t.outs.length := by omega
 have hk' : ¬ (k : Int) = 0 := by omega
 have e : (zeroP 0 0).f = ⟨fz 0, [], []⟩ := rfl
 rw [e]
 generalize fz 0 = Z at *
 generalize (k : Int) = kk at *
 generalize (a : Int) = aa at *
 obtain ⟨code, outs, dim, par⟩ := t
 obtain ⟨⟨x0, x1, x2⟩, xy, xp⟩ := x
 dsimp only at *
 rw [f397 _ rfl, b397]
 simp -implicitDefEqProofs [hz, h, hr, hk']
def backE (lim : Nat) (R : (List Rat × Po) × Option Nat) : AV :=
 match R with
 | (_, some i) => .tup [ept (zeroP 0 0).f, fltA 6 0 2 i]
 | (s, none) => match firstL lim (allP s.2) 0 with | some k => .tup [ept (zeroP 0 0).f, fltA 6 0 3 k] | none => .tup [ept s.2.f, fltA 0 0 0 0]
theorem back_good (t : Tp) (x : PoF) (w : List Fz) (bits : Int) (D : List Rat) (hok : OkTp t) (hn2 : t.code.length ≤ 20) (hlen : w.length = t.outs.length) (hw : ∀ u ∈ w, fsz u ≤ 1000) (hD : D.length = t.code.length) (zD : ∀ q ∈ D, sz q ≤ 129)
  (hr : callF T 384 [etp t, ept x, .i .i64 bits] = some (.tup [.sl (rowF (fzs D)) .an, fltA 0 0 0 0])) :
  callF T 397 [etp t, ept x, .sl (rowF w) .an, .i .i64 bits] = some (backE (limN bits) (backR (limN bits) t.code D t.code.length (sendQ t.outs (w.map fv) (List.replicate t.code.length 0)) (zeroP t.dim.toNat t.par.toNat))) := by
 obtain ⟨hl1, hl2⟩ := limN_I bits
 have hg := gauge_new (T := T) bits
 rw [hl1] at hg
 have d1 := hok.d1; have d2 := hok.d2; have p1 := hok.p1; have p2 := hok.p2; have ol := hok.ol
 have hz := zero_own (T := T) 0 0 0 0 rfl rfl
 have hz2 := zero_own (T := T) t.dim t.par t.dim.toNat t.par.toNat (by unfold cap300; omega) (by unfold cap300; omega)
 have hM : ∀ dd clk, callM (orc T) T 2395 [.i .i64 t.dim, .i .i64 t.par] dd clk = callMr (callH T 2395 [.i .i64 t.dim, .i .i64 t.par] []) dd clk := fun dd clk => callM_row CPull.h2395 rfl
 have hyd : ((t.dim.toNat : Nat) : Int) = t.dim := by omega
 have hpd : ((t.par.toNat : Nat) : Int) = t.par := by omega
 have hZ := blkrow t.code.length
 have hFD : (fzs D).length = t.code.length := by rw [fzs_length, hD]
 have hcl : (t.code.length : Int) ≤ 4294967296 := by omega
 have hw1 : IntKind.wrap .i64 ((t.code.length : Int) - 1) = (t.code.length : Int) - 1 := wrap_i64 _ (by omega)
 obtain ⟨co, hco, hco1, hco2, hco3, hsd⟩ := sd_loop (T := T) t.code.length t.dim.toNat t.par.toNat w bits ⟨t, fzs D, List.replicate t.code.length blk, (zeroP t.dim.toNat t.par.toNat).f⟩ (by simp) hok.outs hlen (by show t.outs.length ≤ 6; omega) hw
  (fun u hu => by rw [List.eq_of_mem_replicate hu]; exact Nat.zero_le _) (fun u hu => .inl (List.eq_of_mem_replicate hu))
 have hnz : PvS (zeroP t.dim.toNat t.par.toNat) 1 := ⟨Nat.le_of_eq sz_zero, fun q hq => by rw [List.eq_of_mem_replicate hq]; exact Nat.le_of_eq sz_zero, fun q hq => by rw [List.eq_of_mem_replicate hq]; exact Nat.le_of_eq sz_zero⟩
 obtain ⟨r, hr1, hbk⟩ := bk_loop (T := T) t.code.length t.dim.toNat t.par.toNat (limN bits) t (fzs D) co (zeroP t.dim.toNat t.par.toNat) hok rfl hn2 hl2 hFD hyd hpd
  (fun u hu => by obtain ⟨q, hq, rfl⟩ := List.mem_map.1 hu; exact zD q hq) hco1 hco2 hco3 hnz (by simp [zeroP]) (by simp [zeroP]) 0 0
 have e1 : (fzs D).map fv = D := by simp [fzs, Function.comp_def]
 have e2 : co.map fv = sendQ t.outs (w.map fv) (List.replicate t.code.length 0) := by
  rw [hco, sendF_v, List.map_replicate, fv_blk]
 rw [e1, e2] at hr1
 generalize backR (limN bits) t.code D t.code.length (sendQ t.outs (w.map fv) (List.replicate t.code.length 0)) (zeroP t.dim.toNat t.par.toNat) = R at *
 have ez : (zeroP t.dim.toNat t.par.toNat).f = ⟨fz 0, List.replicate t.dim.toNat (fz 0), List.replicate t.par.toNat (fz 0)⟩ := by simp [zeroP, Po.f, fzs]
 have ez0 : (zeroP 0 0).f = ⟨fz 0, [], []⟩ := rfl
 rw [ez] at hsd hbk
 unfold stSd endSd at hsd
 unfold stBk at hbk
 simp only [bkX, List.cons_append, List.nil_append] at hbk
 simp only [Int.natCast_zero] at hsd
 unfold backE
 rw [ez0]
 have hne : (zeroP t.dim.toNat t.par.toNat).y.length = t.dim.toNat := by simp [zeroP]
 clear hnz hok hw hD zD hco hco1 hco2 hco3 e1 e2 hl1 hl2 ez ez0 hne
 generalize hny : t.dim.toNat = ny at *
 generalize hnp : t.par.toNat = np at *
 generalize hnn : t.code.length = n at *
 generalize fzs D = DD at *
 have hlen' : (w.length : Int) = t.outs.length := by omega
 rcases hr1 with ⟨i, hi, rfl⟩ | ⟨hi, hP, hy, hp, co', s', p', rfl⟩
 ·obtain ⟨s, o⟩ := R
  dsimp only at hi
  subst hi
  dsimp only
  unfold endBad at hbk
  generalize (i : Int) = ii at *
  obtain ⟨code, outs, dim, par⟩ := t
  obtain ⟨⟨x0, x1, x2⟩, xy, xp⟩ := x
  dsimp only at *
  rw [f397 _ rfl, b397]
  simp -implicitDefEqProofs [hz, hz2, hM, hlen, hlen', hr, hFD, hZ, hcl, hg, hw1, hsd, hbk]
 ·obtain ⟨⟨cq, g⟩, o⟩ := R
  dsimp only at hi hP hy hp hbk
  subst hi
  dsimp only
  have ca := pull_all (T := T) g.f (by
   intro h
   have h9 : (fzs g.y).length = 0 := by rw [show fzs g.y = [] from h]; rfl
   rw [fzs_length] at h9
   omega) (by show (fzs g.y).length ≤ 1000; rw [fzs_length]; omega) (by show (fzs g.p).length ≤ 1000; rw [fzs_length]; omega)
  obtain ⟨s2, p2', cr⟩ := gauge_row (T := T) (allP g) (limN bits) (by unfold allP; simp; omega) (fun q hq => by
   unfold allP at hq
   rcases List.mem_cons.1 hq with rfl | hq
   ·have := hP.t; omega
   ·rcases List.mem_append.1 hq with hq | hq
    ·have := hP.y q hq; omega
    ·have := hP.p q hq; omega) s' p'
  have ef : fzs (allP g) = g.f.t :: (g.f.y ++ g.f.p) := by unfold allP Po.f fzs; simp
  rw [ef] at cr
  generalize g.f.t :: (g.f.y ++ g.f.p) = AL at *
  unfold endBk at hbk
  simp only [bkX, List.cons_append, List.nil_append] at hbk
  have hfy : g.f.y.length = ny := by rw [← hy]; exact fzs_length _
  have hfp : g.f.p.length = np := by rw [← hp]; exact fzs_length _
  clear hP hy hp ef
  generalize g.f = gf at *
  generalize ((allP g).length : Int) = al at *
  have hty : List.take ny gf.y = gf.y := List.take_of_length_le (by omega)
  have htp : List.take np gf.p = gf.p := List.take_of_length_le (by omega)
  cases hf : firstL (limN bits) (allP g) 0 with
  | some k =>
   rw [hf] at cr
   dsimp only [Option.isNone] at cr ⊢
   generalize (k : Int) = kk at *
   obtain ⟨code, outs, dim, par⟩ := t
   obtain ⟨⟨x0, x1, x2⟩, xy, xp⟩ := x
   obtain ⟨⟨f0, f1, f2⟩, fy, fp⟩ := gf
   dsimp only at *
   rw [f397 _ rfl, b397]
   simp -implicitDefEqProofs [hz, hz2, hM, hlen, hlen', hr, hFD, hZ, hcl, hg, hw1, hsd, hbk, ca, cr, hfy, hfp, hty, htp]
  | none =>
   rw [hf] at cr
   dsimp only [Option.isNone] at cr ⊢
   obtain ⟨code, outs, dim, par⟩ := t
   obtain ⟨⟨x0, x1, x2⟩, xy, xp⟩ := x
   obtain ⟨⟨f0, f1, f2⟩, fy, fp⟩ := gf
   dsimp only at *
   rw [f397 _ rfl, b397]
   simp -implicitDefEqProofs [hz, hz2, hM, hlen, hlen', hr, hFD, hZ, hcl, hg, hw1, hsd, hbk, ca, cr, hfy, hfp, hty, htp]
theorem pull_back (t : Tp) (x : PoF) (w : List Fz) (bits : Int) (hs : TpS t) (hx : PoS x 1000) (hc : t.code.length ≤ 20) (hw : ∀ u ∈ w, fsz u ≤ 1000) :
  callF T 397 [etp t, ept x, .sl (rowF w) .an, .i .i64 bits] = some (.tup [ept (backT (limN bits) t x.v (w.map fv)).1.f, fltA (backT (limN bits) t x.v (w.map fv)).2.1 0 (backT (limN bits) t x.v (w.map fv)).2.2.1 (backT (limN bits) t x.v (w.map fv)).2.2.2]) := by
 have hr := run_tape (T := T) t x bits hs hx
 have hlim := (limN_I bits).2
 unfold backT
 rw [List.length_map]
 by_cases h1 : w.length ≠ t.outs.length
 ·rw [if_pos h1]
  exact back_form (T := T) t x w bits h1
 ·rw [if_neg h1]
  have h1' : w.length = t.outs.length := by omega
  by_cases hk : (tapeR (limN bits) t x.v).2.1 ≠ 0
  ·rw [if_pos hk]
   exact back_run (T := T) t x w bits h1' _ _ _ hk hr
  ·rw [if_neg hk]
   have hk' : (tapeR (limN bits) t x.v).2.1 = 0 := by omega
   have hf : fitT t x.v.y.length x.v.p.length = true := by
    cases hf : fitT t x.v.y.length x.v.p.length with
    | true => rfl
    | false => unfold tapeR at hk'; rw [hf] at hk'; simp at hk'
   have e1 : tapeR (limN bits) t x.v = runR (limN bits) x.v t.code [] := by unfold tapeR; rw [if_pos hf]
   rw [e1] at hr hk' ⊢
   obtain ⟨e2, E, e3, e4⟩ := runR_ok _ _ _ _ hk'
   rw [hk', e2] at hr
   have hg := back_good (T := T) t x w bits _ (fitT_spec hf).1 hc h1' hw (by rw [e3]; simpa using e4) (runR_sz hlim _ _ (by simp)) hr
   rw [hg]
   generalize backR (limN bits) t.code (runR (limN bits) x.v t.code []).1 t.code.length (sendQ t.outs (w.map fv) (List.replicate t.code.length 0)) (zeroP t.dim.toNat t.par.toNat) = R
   obtain ⟨s, o⟩ := R
   unfold backE
   cases o with
   | some i => rfl
   | none =>
    dsimp only
    cases firstL (limN bits) (allP s.2) 0 with
    | some k => rfl
    | none => rfl
end
class CLaw11b (T : Tbl) : Prop where
class CFig (T : Tbl) : Prop where
def prim344 : List AV → Option AV
 | [.s s, .s [47, 46]] => if s.length ≤ 1000000 then some (.i .i64 (Lib.indexAny s [47, 46])) else none
 | _ => none
def prim194 : List AV → Option AV
 | [.s s, .s [c]] => some (.i .i64 (Lib.indexByte s c))
 | _ => none
def prim361 : List AV → Option AV
 | [.s s, .s [c]] => some (.i .i64 (Lib.countByte s c))
 | _ => none
def prim343 : List AV → Option AV
 | [.s [48], .i .i64 n] => if 0 ≤ n ∧ n ≤ 64 then some (.s (List.replicate n.toNat 48)) else none
 | _ => none
class CStr (T : Tbl) : Prop where
class CSplit (T : Tbl) : Prop where
def splitC (c : UInt8) : List UInt8 → List (List UInt8)
 | [] => [[]]
 | b :: l => if b = c then [] :: splitC c l else match splitC c l with
  | [] => [[b]]
  | p :: r => (b :: p) :: r
section
variable {T : Tbl} [CStr T] [CSplit T]
def stSp (c : UInt8) (N : Nat) (ps : List (List UInt8)) (s : List UInt8) : St :=
 ⟨[(0, .s s), (1, .s [c]), (2, .i .i64 0), (3, .i .i64 ((N : Int) - 1)), (9, .bs (.loc 31) 1 1 0 N), (10, .i .i64 ps.length)], [(.loc 31, ⟨1, .own, 1, rowsT ps ++ List.replicate (N - ps.length) [.s []]⟩)], 3⟩
end
abbrev flt (k a : Int) : AV := .agg [.i .i64 k, .i .i64 0, .i .i64 0, .i .i64 a]
def isCut (c : UInt8) : Bool := c == 47 || c == 46
def cutN : List UInt8 → Nat
 | [] => 0
 | c :: r => if isCut c then 0 else cutN r + 1
def figB (z : Int) (neg : Bool) (s : List UInt8) (c : UInt8) (at_ : Nat) : Rat × Int × Int :=
 let rest := s.drop at_
 if 0 ≤ wrongI rest then (0, 1, wrongI rest + at_)
 else if c = 47 then (if rd rest = 0 then (0, 2, at_) else (mkRat z (rd rest), 0, 0))
 else (mkRat (sg neg (z.natAbs * 10 ^ rest.length + rd rest)) (10 ^ rest.length), 0, 0)
def figR (s : List UInt8) : Rat × Int × Int :=
 let first := s.take (cutN s)
 if 0 ≤ wrongZ first then (0, 1, wrongZ first + minus first)
 else if cutN s < s.length then figB (readZ first) (s.head? = some 45) s (s.getD (cutN s) 0) (cutN s + 1)
 else (mkRat (readZ first) 1, 0, 0)
def readL : List (List UInt8) → Nat → List Rat → List Rat × Int × Int
 | [], _, acc => (acc, 0, 0)
 | w :: ws, k, acc => if (figR w).2.1 = 0 then readL ws (k + w.length + 1) (acc ++ [(figR w).1]) else ([], (figR w).2.1, (figR w).2.2 + k)
def rowR (s : List UInt8) : List Rat × Int × Int := if s = [] then ([], 0, 0) else readL (splitC 44 s) 0 []
section
variable {T : Tbl} [CLimb T] [CNat T] [CProd T] [CTwos T] [CQuot T] [CQuotD T] [CDigits T] [CText T] [CWhole T] [CCommon T] [CFrac T] [CFrac2 T] [CStr T] [CSplit T] [CPow T] [CFig T] [CJoin T] [CRow T] [CRow2 T]
def stRR (ws : List (List UInt8)) (y : Nat × Nat × List Rat) : St :=
 ⟨[(3, .ptr (.loc 3) 1 4 0 0), (4, .bs (.loc 4) 2 3 0 y.2.2.length), (5, .i .i64 y.2.1), (14, .sl (rowsT ws) .an), (15, .i .i64 ws.length), (16, .i .i64 y.1)],
  [(.loc 3, ⟨1, .str, 4, [[.i .i64 0, .i .i64 0, .i .i64 0, .i .i64 0]]⟩), (.loc 4, ⟨2, .own, 3, rowF (fzs y.2.2)⟩)], 4⟩
def resRR (r : List Rat × Int × Int) : Option (Ex × St) :=
 if r.2.1 = 0 then some (.n, ⟨[(3, .ptr (.loc 3) 1 4 0 0), (4, .bs (.loc 4) 2 3 0 r.1.length)], [(.loc 3, ⟨1, .str, 4, [[.i .i64 0, .i .i64 0, .i .i64 0, .i .i64 0]]⟩), (.loc 4, ⟨2, .own, 3, rowF (fzs r.1)⟩)], 4⟩)
 else some (.r, ⟨[(2, .sl [] .an), (3, .ptr (.loc 3) 1 4 0 0)], [(.loc 3, ⟨1, .str, 4, [[.i .i64 r.2.1, .i .i64 0, .i .i64 0, .i .i64 r.2.2]]⟩)], 3⟩)
end
end Go.Ab
section
namespace Go.Ab
end Go.Ab
end
namespace Go.Ab
def longT (t : Tp) (many words : Nat) : Bool := ((t.code.take many).any fun i => decide (words < fsz i.n)) || decide (many < t.code.length) || decide (many < t.outs.length)
theorem longT_false {t : Tp} {many words : Nat} (h : longT t many words = false) : t.code.length ≤ many ∧ t.outs.length ≤ many ∧ ∀ i ∈ t.code, fsz i.n ≤ words := by
 unfold longT at h
 simp only [Bool.or_eq_false_iff, decide_eq_false_iff_not, List.any_eq_false, decide_eq_true_eq] at h
 obtain ⟨⟨h1, h2⟩, h3⟩ := h
 rw [List.take_of_length_le (by omega)] at h1
 exact ⟨by omega, by omega, fun x hx => by have := h1 x hx; omega⟩
def longP (x : PoF) (many words : Nat) : Bool := decide (words < fsz x.t) || longB x.y many words || longB x.p many words
theorem longP_false {x : PoF} {many words : Nat} (h : longP x many words = false) (hm : many ≤ 1000) : PoS x words := by
 unfold longP at h
 simp only [Bool.or_eq_false_iff, decide_eq_false_iff_not] at h
 obtain ⟨⟨h1, h2⟩, h3⟩ := h
 obtain ⟨a1, a2⟩ := longB_false h2
 obtain ⟨b1, b2⟩ := longB_false h3
 exact ⟨by omega, a2, b2, by omega, by omega⟩
section
variable {T : Tbl} [CRef02 T] [CRef04 T] [CRef05 T] [CRef07 T] [CRef06 T] [CRef08 T] [CRef09 T] [CRef11 T] [CLaw09 T] [CLaw11 T] [CLaw24 T]
def stLT (t : Tp) (many words i : Nat) : St := ⟨[(1, .i .i64 many), (2, .i .i64 words), (3, .ptr (.loc 3) 1 4 0 0), (7, .i .i64 i)], [(.loc 3, bxT t)], 3⟩
def enLT (t : Tp) (many : Nat) : Ex × St := (.n, ⟨[(1, .i .i64 many), (3, .ptr (.loc 3) 1 4 0 0)], [(.loc 3, bxT t)], 3⟩)
theorem longT_loop (t : Tp) (many words : Nat) (hm : many ≤ 1000) :
  loopN T 0 0 (.norm false [1, 3]) l379_0 (stLT t many words 0) = if (t.code.take many).any (fun i => decide (words < fsz i.n)) = true then some (.r, ⟨[(6, .b true)], [], 2⟩) else some (enLT t many) := by
 have e0 : t.code.take many = (t.code.take many).drop 0 := rfl
 rw [e0]
 obtain ⟨n, hn⟩ : ∃ n, n = (t.code.take many).length := ⟨_, rfl⟩
 have hn' : n ≤ many ∧ n ≤ t.code.length ∧ (n = many ∨ n = t.code.length) := by rw [hn, List.length_take]; omega
 refine until_loop (stLT t many words) n (fun i => if ((t.code.take many).drop i).any (fun x => decide (words < fsz x.n)) = true then some (.r, ⟨[(6, .b true)], [], 2⟩) else some (enLT t many)) (fun i hi => ?_) ?_
 ·have h1 : i < t.code.length := by omega
  have h2 : (i : Int) < t.code.length := by omega
  have h3 : i < many := by omega
  have h4 : (i : Int) < many := by omega
  have hg : t.code[i]? = some (t.code[i]'h1) := List.getElem?_eq_getElem h1
  have hws2 := wrapS h3 (by omega)
  have c := ref09_long (T := T) (t.code[i]'h1).n words
  have key : ((t.code.take many).drop i).any (fun x => decide (words < fsz x.n)) = (decide (words < fsz (t.code[i]'h1).n) || ((t.code.take many).drop (i + 1)).any fun x => decide (words < fsz x.n)) := by
   rw [List.drop_eq_getElem_cons (by rw [← hn]; exact hi), List.any_cons, List.getElem_take]
  by_cases he : words < fsz (t.code[i]'h1).n
  ·right
   rw [if_pos (by rw [key, decide_eq_true he, Bool.true_or])]
   rw [decide_eq_true he] at c
   unfold stLT bxT
   clear key he hn hn'
   constructor <;> simp -implicitDefEqProofs [l379_0, h1, h2, h3, h4, hg, c]
  ·left
   refine ⟨?_, by simp only [key, decide_eq_false he, Bool.false_or]⟩
   rw [decide_eq_false he] at c
   unfold stLT bxT
   clear key he hn hn'
   simp -implicitDefEqProofs [l379_0, h1, h2, h3, h4, hg, hws2, c]
 ·rw [List.drop_of_length_le (by omega), if_neg (by simp)]
  unfold stLT enLT bxT
  by_cases hc : n < t.code.length
  ·have h5 : n = many := by omega
   have h6 : (n : Int) < t.code.length := by omega
   subst h5
   constructor <;> simp -implicitDefEqProofs [l379_0, hc, h6]
  ·have h5 : ¬ (n : Int) < t.code.length := by omega
   constructor <;> simp -implicitDefEqProofs [l379_0, hc, h5]
theorem ref24_long (t : Tp) (many words : Nat) (hm : many ≤ 1000) : callF T 379 [etp t, .i .i64 many, .i .i64 words] = some (.b (longT t many words)) := by
 have h := longT_loop (T := T) t many words hm
 unfold stLT enLT bxT at h
 simp only [Int.natCast_zero] at h
 unfold longT
 generalize ((t.code.take many).any fun i => decide (words < fsz i.n)) = B at *
 obtain ⟨code, outs, dim, par⟩ := t
 dsimp only at *
 rw [f379 _ rfl, b379]
 cases B with
 | true =>
  rw [if_pos rfl] at h
  simp -implicitDefEqProofs [h]
 | false =>
  rw [if_neg (by decide)] at h
  by_cases h1 : many < code.length
  ·have h2 : (many : Int) < code.length := by omega
   simp -implicitDefEqProofs [h, h1, h2]
  ·have h2 : ¬ (many : Int) < code.length := by omega
   have e : decide ((many : Int) < outs.length) = decide (many < outs.length) := by
    by_cases h3 : many < outs.length
    ·rw [decide_eq_true h3, decide_eq_true (by omega)]
    ·rw [decide_eq_false h3, decide_eq_false (by omega)]
   simp -implicitDefEqProofs [h, h1, h2, e]
theorem ref21_long (x : PoF) (many words : Nat) (hm : many ≤ 1000) : callF T 380 [ept x, .i .i64 many, .i .i64 words] = some (.b (longP x many words)) := by
 have c1 := ref09_long (T := T) x.t words
 have c2 := ref11_longB (T := T) x.y many words hm
 have c3 := ref11_longB (T := T) x.p many words hm
 unfold longP
 generalize decide (words < fsz x.t) = B1 at *
 generalize longB x.y many words = B2 at *
 generalize longB x.p many words = B3 at *
 obtain ⟨⟨n, a, d⟩, y, p⟩ := x
 dsimp only at *
 rw [f380 _ rfl, b380]
 cases B1 <;> cases B2 <;> simp -implicitDefEqProofs [c1, c2, c3]
theorem law21_to (x : PoF) (hy : x.y.length ≤ 1000) (hp : x.p.length ≤ 1000) : callF T 383 [ept x] = some (ept x) := by
 have c1 := law09_to (T := T) x.t
 have c2 := law11_to (T := T) x.y (by omega)
 have c3 := law11_to (T := T) x.p (by omega)
 obtain ⟨⟨n, a, d⟩, y, p⟩ := x
 dsimp only at *
 rw [f383 _ rfl, b383]
 simp -implicitDefEqProofs [c1, c2, c3]
@[simp] theorem ints_hd (l : List Int) : Option.all (fun r => decide (r.length = 1)) (ints l).head? = true := by cases l <;> rfl
def fC : BId := .fld (.loc 3) 0
def stTT (t : Tp) (i : Nat) : St := ⟨[(1, .ptr (.loc 1) 1 4 0 0), (2, .ptr (.loc 2) 2 4 0 0), (3, .ptr (.loc 3) 3 4 0 0), (4, .i .i64 i)],
 [(.loc 1, bxT t), (.loc 2, ⟨2, .str, 4, [[.sl [] .an, .sl [] .an, .i .i64 0, .i .i64 0]]⟩), (.loc 3, ⟨3, .str, 4, [[.bs fC 4 6 0 i, .bs (.loc 13) 5 1 0 t.outs.length, .i .i64 t.dim, .i .i64 t.par]]⟩), (fC, ⟨4, .own, 6, rowI (t.code.take i)⟩), (.loc 13, ⟨5, .own, 1, ints t.outs⟩)], 7⟩
theorem toT_round (t : Tp) (i : Nat) (hi : i < t.code.length) (hl : t.code.length ≤ 1000) : evX (orc T) T 0 l382_0 (stTT t i) = some (.n, stTT t (i + 1)) := by
 have hws := wrapS hi (by omega)
 have hb : i ≤ 4294967295 := by omega
 have hg : t.code[i]? = some (t.code[i]'hi) := List.getElem?_eq_getElem hi
 have hn := law09_to (T := T) (t.code[i]'hi).n
 have hi' : (i : Int) < t.code.length := by omega
 have hml : (t.code.take i).length = i := by simp; omega
 have ht : List.take i (t.code.take i) = t.code.take i := List.take_of_length_le (by omega)
 have e := take_succ t.code hi
 have hp := rowI_push hml (t.code[i]'hi)
 rw [ht] at hp
 unfold stTT bxT fC
 rw [e]
 clear e
 generalize t.code.take i = M at *
 simp -implicitDefEqProofs [l382_0, hi, hi', hws, hb, hg, hn, hml, ht, hp]
theorem toT_loop (t : Tp) (hl : t.code.length ≤ 1000) : loopN T 0 0 (.norm false [2, 3]) l382_0 (stTT t 0) =
  some (.n, ⟨[(2, .ptr (.loc 2) 1 4 0 0), (3, .ptr (.loc 3) 2 4 0 0)], [(.loc 2, ⟨1, .str, 4, [[.sl [] .an, .sl [] .an, .i .i64 0, .i .i64 0]]⟩), (.loc 3, ⟨2, .str, 4, [[.bs fC 3 6 0 t.code.length, .bs (.loc 13) 4 1 0 t.outs.length, .i .i64 t.dim, .i .i64 t.par]]⟩), (fC, ⟨3, .own, 6, rowI t.code⟩), (.loc 13, ⟨4, .own, 1, ints t.outs⟩)], 6⟩) := by
 refine range_loop (stTT t) t.code.length _ (fun i hi => toT_round t i hi hl) ?_
 unfold stTT bxT fC
 rw [List.take_of_length_le (Nat.le_refl _)]
 constructor <;> simp -implicitDefEqProofs [l382_0]
theorem law24_to (t : Tp) (hl : t.code.length ≤ 1000) (ho : t.outs.length ≤ 1000) : callF T 382 [etp t] = some (etp t) := by
 have ht : List.take t.code.length t.code = t.code := List.take_of_length_le (by omega)
 have hs : List.take t.outs.length t.outs = t.outs := List.take_of_length_le (by omega)
 have h := toT_loop (T := T) t hl
 unfold stTT bxT fC at h
 simp only [Int.natCast_zero, List.take_zero, rowI_nil] at h
 obtain ⟨code, outs, dim, par⟩ := t
 dsimp only at *
 have ho2 : outs.length ≤ 4294967296 := by omega
 rw [f382 _ rfl, b382]
 simp -implicitDefEqProofs [ht, hs, ho2, h]
end
section
variable {T : Tbl} [CLimb T] [CNat T] [CProd T] [CTwos T] [CQuot T] [CQuotD T] [CWhole T] [CCommon T] [CFrac T] [CFrac3 T] [CFrac5 T] [CPow T] [CTape T] [CGauge T] [CEval T] [CRun T] [CIfc T] [CDigits T] [CText T] [CJoin T] [CRow T] [CPull T]
variable [CRef02 T] [CRef04 T] [CRef05 T] [CRef07 T] [CRef06 T] [CRef08 T] [CRef09 T] [CRef11 T] [CLaw09 T] [CLaw11 T] [CLaw24 T] [CLaw28 T]
theorem row_add2 (a b : List Fz) (ha : a.length ≤ 1000) (hb : b.length ≤ 1000) (za : ∀ x ∈ a, fsz x ≤ 400) (zb : ∀ x ∈ b, fsz x ≤ 400) :
  callF T 267 [.sl [[.sl (rowF a) .an], [.sl (rowF b) .an]] .an] = some (if b.length = a.length then .tup [.sl (rowF (fzs (addP (a.map fv) b))) .an, .b true] else .tup [.sl [] .an, .b false]) := by
 by_cases h : b.length = a.length
 ·rw [if_pos h]
  exact row_add (T := T) a [b] ha (by simp) (B := 400) za (fun r hr x hx => by rw [List.mem_singleton.1 hr] at hx; exact zb x hx) (by decide) (by simp) (fun r hr => by rw [List.mem_singleton.1 hr]; exact h)
 ·rw [if_neg h]
  exact row_add_bad0 (T := T) a b [] ha (fun x hx => Nat.le_trans (za x hx) (by decide)) (by decide) h
def sumG (a b : PoF) : PoF := ⟨fz (fv a.t + fv b.t), fzs (addP (a.y.map fv) b.y), fzs (addP (a.p.map fv) b.p)⟩
theorem pull_add (a b : PoF) (ha : PoS a 400) (hb : PoS b 400) : callF T 391 [ept a, ept b] = some (if b.y.length = a.y.length ∧ b.p.length = a.p.length then .tup [ept (sumG a b), .b true] else .tup [ept (zeroG 0 0), .b false]) := by
 have c1 := row_add2 (T := T) a.y b.y ha.yl hb.yl ha.y hb.y
 have c2 := row_add2 (T := T) a.p b.p ha.pl hb.pl ha.p hb.p
 have c3 := frac_add (T := T) a.t b.t (Nat.le_trans ha.t (by decide)) (Nat.le_trans hb.t (by decide))
 have c4 := pull_zero (T := T) 0 0
 unfold sumG
 generalize fz (fv a.t + fv b.t) = Z at *
 generalize fzs (addP (a.y.map fv) b.y) = Y at *
 generalize fzs (addP (a.p.map fv) b.p) = W at *
 generalize zeroG 0 0 = O at *
 clear ha hb
 obtain ⟨⟨x0, x1, x2⟩, xy, xp⟩ := a
 obtain ⟨⟨y0, y1, y2⟩, yy, yp⟩ := b
 obtain ⟨⟨o0, o1, o2⟩, oy, op⟩ := O
 obtain ⟨z0, z1, z2⟩ := Z
 dsimp only at *
 rw [f391 _ rfl, b391]
 by_cases h1 : yy.length = xy.length
 ·rw [if_pos h1] at c1
  by_cases h2 : yp.length = xp.length
  ·rw [if_pos h2] at c2
   rw [if_pos ⟨h1, h2⟩]
   simp -implicitDefEqProofs [c1, c2, c3, c4]
  ·rw [if_neg h2] at c2
   rw [if_neg (fun h => h2 h.2)]
   simp -implicitDefEqProofs [c1, c2, c3, c4]
 ·rw [if_neg h1] at c1
  rw [if_neg (fun h => h1 h.1)]
  by_cases h2 : yp.length = xp.length
  ·rw [if_pos h2] at c2
   simp -implicitDefEqProofs [c1, c2, c3, c4]
  ·rw [if_neg h2] at c2
   simp -implicitDefEqProofs [c1, c2, c3, c4]
def t28 : Tp := ⟨[⟨3, 0, 0, (false, [], [])⟩, ⟨4, 0, 0, (false, [], [])⟩, ⟨9, 0, 1, (false, [], [])⟩], [2], 1, 1⟩
def p28 : PoF := ⟨(false, [], []), [fz 3], [fz 5]⟩
theorem law28_works : callF T 390 [] = some (.b true) := by
 have k2 := frac_of (T := T) 2 (by decide) (by decide)
 have k3 := frac_of (T := T) 3 (by decide) (by decide)
 have k5 := frac_of (T := T) 5 (by decide) (by decide)
 have q2 : ((2 : Int) : Rat) = 2 := rfl
 have q3 : ((3 : Int) : Rat) = 3 := rfl
 have q5 : ((5 : Int) : Rat) = 5 := rfl
 rw [q2] at k2
 rw [q3] at k3
 rw [q5] at k5
 have hs : TpS t28 := ⟨⟨by decide, by decide, fun i hi => by
  simp only [t28, List.mem_cons, List.not_mem_nil, or_false] at hi
  rcases hi with rfl | rfl | rfl <;> decide, by decide, by decide⟩, fun i hi => by
  simp only [t28, List.mem_cons, List.not_mem_nil, or_false] at hi
  rcases hi with rfl | rfl | rfl <;> decide⟩
 have f2 : fsz (fz 2) ≤ 1000 := by decide +kernel
 have f3 : fsz (fz 3) ≤ 1000 := by decide +kernel
 have f5 : fsz (fz 5) ≤ 1000 := by decide +kernel
 have a1 := pull_back (T := T) t28 p28 [fz 2] 100 hs ⟨by decide, fun u hu => by rw [List.mem_singleton.1 hu]; exact f3, fun u hu => by rw [List.mem_singleton.1 hu]; exact f5, by decide, by decide⟩ (by decide) (fun u hu => by rw [List.mem_singleton.1 hu]; exact f2)
 have e1 : backT (limN 100) t28 p28.v ([fz 2].map fv) = (⟨0, [10], [6]⟩, 0, 0, 0) := by
  obtain ⟨v1, v2, v3, v4⟩ : (backT (limN 100) t28 p28.v ([fz 2].map fv)).1.t = 0 ∧ (backT (limN 100) t28 p28.v ([fz 2].map fv)).1.y = [10] ∧ (backT (limN 100) t28 p28.v ([fz 2].map fv)).1.p = [6] ∧ (backT (limN 100) t28 p28.v ([fz 2].map fv)).2 = (0, 0, 0) := by decide +kernel
  generalize backT (limN 100) t28 p28.v ([fz 2].map fv) = R at *
  obtain ⟨⟨a, b, c⟩, d⟩ := R
  dsimp only at v1 v2 v3 v4
  rw [v1, v2, v3, v4]
 rw [e1] at a1
 have s1 : ∀ q ∈ [(10 : Rat)], sz q ≤ 1 := by
  intro q hq
  rw [List.mem_singleton.1 hq]
  exact szle1 (by decide) (by decide)
 have s2 : ∀ q ∈ [(6 : Rat)], sz q ≤ 1 := by
  intro q hq
  rw [List.mem_singleton.1 hq]
  exact szle1 (by decide) (by decide)
 have t1 := row_text (T := T) (fzs [10]) (by decide) (fun x hx => Nat.le_trans (fzs_sz s1 x hx) (by decide))
 have t2 := row_text (T := T) (fzs [6]) (by decide) (fun x hx => Nat.le_trans (fzs_sz s2 x hx) (by decide))
 have et1 : List.intercalate [44] (txts (fzs [10])) = [49, 48] := by decide +kernel
 have et2 : List.intercalate [44] (txts (fzs [6])) = [54] := by decide +kernel
 rw [et1] at t1
 rw [et2] at t2
 have c0 := frac_sign (T := T) (fz 0) (by decide +kernel)
 have e0 : sgQ (fv (fz 0)) = 0 := by decide +kernel
 rw [e0] at c0
 have ef : (⟨0, [10], [6]⟩ : Po).f = ⟨fz 0, fzs [10], fzs [6]⟩ := rfl
 rw [ef] at a1
 clear e1 s1 s2 et1 et2 hs f2 f3 f5 q2 q3 q5 e0 ef
 unfold p28 at a1
 generalize fzs [10] = A at *
 generalize fzs [6] = B at *
 generalize fz 0 = F0 at *
 generalize fz 2 = F2 at *
 generalize fz 3 = F3 at *
 generalize fz 5 = F5 at *
 replace a1 : callF T 397 [.agg [.sl [[.i .i64 3, .i .i64 0, .i .i64 0, .b false, .sl [] .an, .sl [] .an], [.i .i64 4, .i .i64 0, .i .i64 0, .b false, .sl [] .an, .sl [] .an], [.i .i64 9, .i .i64 0, .i .i64 1, .b false, .sl [] .an, .sl [] .an]] .an, .sl [[.i .i64 2]] .an, .i .i64 1, .i .i64 1],
  .agg [.b false, .sl [] .an, .sl [] .an, .sl [[.b F3.1, .sl (u32s F3.2.1) .an, .sl (u32s F3.2.2) .an]] .an, .sl [[.b F5.1, .sl (u32s F5.2.1) .an, .sl (u32s F5.2.2) .an]] .an], .sl [[.b F2.1, .sl (u32s F2.2.1) .an, .sl (u32s F2.2.2) .an]] .an, .i .i64 100] = some (.tup [.agg [.b F0.1, .sl (u32s F0.2.1) .an, .sl (u32s F0.2.2) .an, .sl (rowF A) .an, .sl (rowF B) .an], fltA 0 0 0 0]) := a1
 rw [f390 _ rfl, b390]
 simp -implicitDefEqProofs [a1, t1, t2, k2, k3, k5, c0]
theorem addP_szQ {a b : List Fz} {B : Nat} (h1 : 1 ≤ B) (ha : ∀ x ∈ a, fsz x ≤ B) (hb : ∀ x ∈ b, fsz x ≤ B) : ∀ u ∈ fzs (addP (a.map fv) b), fsz u ≤ 2 * B + 1 := by
 intro u hu
 obtain ⟨q, hq, rfl⟩ := List.mem_map.1 hu
 unfold addP at hq
 rw [List.zipWith_map_left] at hq
 obtain ⟨i, hi, e⟩ := List.getElem_of_mem hq
 rw [List.length_zipWith] at hi
 rw [List.getElem_zipWith] at e
 have z1 := sz_fv (ha _ (List.getElem_mem (show i < a.length by omega))) h1
 have z2 := sz_fv (hb _ (List.getElem_mem (show i < b.length by omega))) h1
 have := sz_add (fv a[i]) (fv b[i])
 rw [fsz_fz, ← e]
 omega
end
class CLaw26 (T : Tbl) : Prop where
def headT (t : Tp) (n : Nat) : Tp := ⟨t.code.take n, List.replicate t.outs.length 0, t.dim, t.par⟩
theorem sm_of {t : Tp} {many words : Nat} (h : longT t many words = false) (hm : many ≤ 1000) (hw : words ≤ 1000) (d1 : -9223372036854775808 ≤ t.dim) (d2 : t.dim < 9223372036854775808) : TpS t := by
 obtain ⟨h1, h2, h3⟩ := longT_false h
 exact ⟨⟨by omega, by omega, fun i hi => by have := h3 i hi; omega, d1, d2⟩, fun i hi => by have := h3 i hi; omega⟩
def t62 : Tp := ⟨[⟨3, 0, 0, (false, [], [])⟩, ⟨2, 0, 0, (false, [], [])⟩, ⟨10, 0, 1, (false, [], [])⟩], [2], 1, 0⟩
def p62 : PoF := ⟨fz 2, [fz 6], []⟩
def p60 : PoF := ⟨(false, [], []), [fz 6], []⟩
theorem addP_Q (p : List Rat) (l : List Fz) : addP p l = addQL p (l.map fv) := by
 unfold addP addQL
 rw [List.zipWith_map_right]
theorem sumG_f (g h : Po) : sumG g.f h.f = (addPo g h).f := by
 have e : ∀ a b : List Rat, addP ((fzs a).map fv) (fzs b) = addQL a b := fun a b => by rw [addP_Q, fv_fzs, fv_fzs]
 unfold sumG addPo Po.f
 dsimp only
 rw [fv_fz, fv_fz, e, e]
theorem firstL_none {lim : Nat} : ∀ {l : List Rat} {k : Nat}, firstL lim l k = none → ∀ q ∈ l, sizQ q ≤ lim
 | [], _, _ => fun q hq => by cases hq
 | a :: l, k, h => by
  unfold firstL at h
  by_cases ha : lim < sizQ a
  ·rw [if_pos ha] at h; cases h
  ·rw [if_neg ha] at h
   intro q hq
   rcases List.mem_cons.1 hq with rfl | hq
   ·omega
   ·exact firstL_none h q hq
theorem backL_len (code : List Ins) (D : List Rat) : ∀ (n : Nat) (co : List Rat) (g : Po), (backL code D n co g).2.y.length = g.y.length ∧ (backL code D n co g).2.p.length = g.p.length
 | 0, co, g => ⟨rfl, rfl⟩
 | n + 1, co, g => by
  unfold backL
  cases hx : code[n]? with
  | none => exact ⟨rfl, rfl⟩
  | some x =>
   dsimp only
   obtain ⟨h1, h2⟩ := backL_len code D n (thrC D x (gI D n) (gI co n) co) (thrG x (gI co n) g)
   exact ⟨h1.trans (thrG_len _ _ _).1, h2.trans (thrG_len _ _ _).2⟩
theorem backT_ok {lim : Nat} {t : Tp} {P : Po} {w : List Rat} (hw : (backT lim t P w).2.1 = 0) : (backT lim t P w).2.2 = (0, 0) ∧ (backT lim t P w).1.y.length = t.dim.toNat ∧ (backT lim t P w).1.p.length = t.par.toNat ∧ ∀ q ∈ allP (backT lim t P w).1, sizQ q ≤ lim := by
 unfold backT at hw ⊢
 by_cases h1 : w.length ≠ t.outs.length
 ·rw [if_pos h1] at hw; cases hw
 ·rw [if_neg h1] at hw ⊢
  by_cases h2 : (tapeR lim t P).2.1 ≠ 0
  ·rw [if_pos h2] at hw; exact absurd hw h2
  ·rw [if_neg h2] at hw ⊢
   have hb := backR_L lim t.code (tapeR lim t P).1 t.code.length (sendQ t.outs w (List.replicate t.code.length 0)) (zeroP t.dim.toNat t.par.toNat)
   obtain ⟨l1, l2⟩ := backL_len t.code (tapeR lim t P).1 t.code.length (sendQ t.outs w (List.replicate t.code.length 0)) (zeroP t.dim.toNat t.par.toNat)
   generalize backR lim t.code (tapeR lim t P).1 t.code.length (sendQ t.outs w (List.replicate t.code.length 0)) (zeroP t.dim.toNat t.par.toNat) = R at *
   obtain ⟨s, o⟩ := R
   cases o with
   | some i => cases hw
   | none =>
    dsimp only at hw hb ⊢
    rw [← hb rfl] at l1 l2
    cases hf : firstL lim (allP s.2) 0 with
    | some k => rw [hf] at hw; cases hw
    | none =>
     refine ⟨rfl, ?_, ?_, firstL_none hf⟩
     ·rw [l1]; simp [zeroP]
     ·rw [l2]; simp [zeroP]
section
variable {T : Tbl} [CLimb T] [CNat T] [CProd T] [CTwos T] [CQuot T] [CQuotD T] [CWhole T] [CCommon T] [CFrac T] [CFrac3 T] [CFrac5 T] [CPow T] [CTape T] [CGauge T] [CEval T] [CRun T] [CIfc T] [CDigits T] [CText T] [CJoin T] [CRow T] [CPull T]
variable [CRef02 T] [CRef04 T] [CRef05 T] [CRef07 T] [CRef06 T] [CRef08 T] [CRef09 T] [CRef11 T] [CLaw09 T] [CLaw11 T] [CLaw24 T] [CLaw27l T] [CLaw28 T]
abbrev eway (x y : PoF) (bits : Int) : AV := .agg [.b x.t.1, .sl (u32s x.t.2.1) .an, .sl (u32s x.t.2.2) .an, .sl (rowF x.y) .an, .sl (rowF x.p) .an, .b y.t.1, .sl (u32s y.t.2.1) .an, .sl (u32s y.t.2.2) .an, .sl (rowF y.y) .an, .sl (rowF y.p) .an, .i .i64 bits]
def longW (x y : PoF) (bits : Int) : Bool := longP x 6 2 || longP y 6 2 || decide (500 < bits)
theorem law27_long (x y : PoF) (bits : Int) : callF T 385 [eway x y bits] = some (.b (longW x y bits)) := by
 have c1 : callF T 380 [ept x, .i .i64 6, .i .i64 2] = some (.b (longP x 6 2)) := ref21_long (T := T) x 6 2 (by decide)
 have c2 : callF T 380 [ept y, .i .i64 6, .i .i64 2] = some (.b (longP y 6 2)) := ref21_long (T := T) y 6 2 (by decide)
 unfold longW
 generalize longP x 6 2 = B1 at *
 generalize longP y 6 2 = B2 at *
 obtain ⟨⟨x0, x1, x2⟩, xy, xp⟩ := x
 obtain ⟨⟨y0, y1, y2⟩, yy, yp⟩ := y
 rw [f385 _ rfl, b385]
 cases B1 <;> cases B2 <;> simp -implicitDefEqProofs [c1, c2]
theorem law28_linear (t : Tp) (x y : PoF) (bits : Int) (u v : List Fz) (d1 : -9223372036854775808 ≤ t.dim) (d2 : t.dim < 9223372036854775808) :
  callF T 375 [etp t, eway x y bits, .agg [.sl (rowF u) .an, .sl (rowF v) .an]] = some (.b true) := by
 have cw := law28_works (T := T)
 have c1 : callF T 379 [etp t, .i .i64 12, .i .i64 2] = some (.b (longT t 12 2)) := ref24_long (T := T) t 12 2 (by decide)
 have c2 := law27_long (T := T) x y bits
 have c3 : callF T 286 [.sl (rowF u) .an, .i .i64 8, .i .i64 2] = some (.b (longB u 8 2)) := ref11_longB (T := T) u 8 2 (by decide)
 have c4 : callF T 286 [.sl (rowF v) .an, .i .i64 8, .i .i64 2] = some (.b (longB v 8 2)) := ref11_longB (T := T) v 8 2 (by decide)
 by_cases hL : (longT t 12 2 || longW x y bits || longB u 8 2 || longB v 8 2) = true
 ·generalize longT t 12 2 = B1 at *
  generalize longW x y bits = B2 at *
  generalize longB u 8 2 = B3 at *
  generalize longB v 8 2 = B4 at *
  obtain ⟨code, outs, dim, par⟩ := t
  obtain ⟨⟨x0, x1, x2⟩, xy, xp⟩ := x
  obtain ⟨⟨y0, y1, y2⟩, yy, yp⟩ := y
  dsimp only at *
  rw [f375 _ rfl, b375]
  cases B1 with
  | true => simp -implicitDefEqProofs [c1, cw]
  | false =>
   cases B2 with
   | true => simp -implicitDefEqProofs [c1, c2, cw]
   | false =>
    cases B3 with
    | true => simp -implicitDefEqProofs [c1, c2, c3, cw]
    | false =>
     cases B4 with
     | true => simp -implicitDefEqProofs [c1, c2, c3, c4, cw]
     | false => simp at hL
 simp only [Bool.or_eq_true, not_or, Bool.not_eq_true] at hL
 obtain ⟨⟨⟨h1, h2⟩, h3⟩, h4⟩ := hL
 have hs := sm_of h1 (by decide) (by decide) d1 d2
 obtain ⟨hc1, hc2, _⟩ := longT_false h1
 unfold longW at h2
 simp only [Bool.or_eq_false_iff] at h2
 have hx0 := longP_false h2.1.1 (by decide)
 have hx : PoS x 1000 := ⟨Nat.le_trans hx0.t (by decide), fun u hu => Nat.le_trans (hx0.y u hu) (by decide), fun u hu => Nat.le_trans (hx0.p u hu) (by decide), hx0.yl, hx0.pl⟩
 obtain ⟨m3, w3⟩ := longB_false h3
 obtain ⟨m4, w4⟩ := longB_false h4
 have h2' : longW x y bits = false := by unfold longW; simp only [Bool.or_eq_false_iff]; exact h2
 rw [h1] at c1
 rw [h2'] at c2
 rw [h3] at c3
 rw [h4] at c4
 have t1 := law24_to (T := T) t (by omega) (by omega)
 have t2 := law21_to (T := T) x hx.yl hx.pl
 have t3 := law11_to (T := T) u (by omega)
 have t4 := law11_to (T := T) v (by omega)
 have hadd := row_add2 (T := T) u v (by omega) (by omega) (fun a h => Nat.le_trans (w3 a h) (by decide)) (fun a h => Nat.le_trans (w4 a h) (by decide))
 have bu := pull_back (T := T) t x u 1500 hs hx (by omega) (fun a h => Nat.le_trans (w3 a h) (by decide))
 have bv := pull_back (T := T) t x v 1500 hs hx (by omega) (fun a h => Nat.le_trans (w4 a h) (by decide))
 have hlim : limN 1500 = 1500 := by decide
 rw [hlim] at bu bv
 by_cases hl : v.length = u.length
 ·rw [if_pos hl] at hadd
  have bs := pull_back (T := T) t x (fzs (addP (u.map fv) v)) 1500 hs hx (by omega) (fun a h => Nat.le_trans (addP_szQ (by decide) w3 w4 a h) (by decide))
  rw [hlim, fv_fzs, addP_Q] at bs
  rw [addP_Q] at hadd
  by_cases k1 : (backT 1500 t x.v (u.map fv)).2.1 = 0
  ·obtain ⟨u1, u2, u3, u4⟩ := backT_ok k1
   by_cases k2 : (backT 1500 t x.v (v.map fv)).2.1 = 0
   ·obtain ⟨v1, v2, v3, v4⟩ := backT_ok k2
    by_cases k3 : (backT 1500 t x.v (addQL (u.map fv) (v.map fv))).2.1 = 0
    ·obtain ⟨s1, s2, s3, s4⟩ := backT_ok k3
     have key := backT_add 1500 t x.v (u.map fv) (v.map fv) (by simp [hl]) k1 k2 k3
     rw [key, k3, s1] at bs
     rw [k1, u1] at bu
     rw [k2, v1] at bv
     rw [key] at s2 s3 s4
     have ok := backT_ok k1
     have zG : ∀ g : Po, (∀ q ∈ allP g, sizQ q ≤ 1500) → g.y.length = t.dim.toNat → g.p.length = t.par.toNat → t.dim ≤ 6 → t.par ≤ 6 → PoS g.f 400 := by
      intro g hg hy hp hd hpp
      have z : ∀ q ∈ allP g, sz q ≤ 400 := fun q hq => by have := sizQ_sz (q := q) (b := 1500) (hg q hq); omega
      refine ⟨z _ (List.mem_cons_self), fun a ha => ?_, fun a ha => ?_, ?_, ?_⟩
      ·obtain ⟨q, hq, rfl⟩ := List.mem_map.1 ha
       exact z q (List.mem_cons_of_mem _ (List.mem_append_left _ hq))
      ·obtain ⟨q, hq, rfl⟩ := List.mem_map.1 ha
       exact z q (List.mem_cons_of_mem _ (List.mem_append_right _ hq))
      ·show (fzs g.y).length ≤ _; rw [fzs_length]; omega
      ·show (fzs g.p).length ≤ _; rw [fzs_length]; omega
     have hdp : t.dim ≤ 6 ∧ t.par ≤ 6 := by
      have hk : (tapeR 1500 t x.v).2.1 = 0 := by
       unfold backT at k1
       split at k1
       ·cases k1
       ·split at k1
        ·rename_i hh; exact absurd k1 hh
        ·rename_i hh; omega
      have hf : fitT t x.v.y.length x.v.p.length = true := by
       cases hf : fitT t x.v.y.length x.v.p.length with
       | true => rfl
       | false => unfold tapeR at hk; rw [hf] at hk; simp at hk
      exact ⟨(fitT_spec hf).1.d2, (fitT_spec hf).1.p2⟩
     have zu := zG _ u4 u2 u3 hdp.1 hdp.2
     have zv := zG _ v4 v2 v3 hdp.1 hdp.2
     have zs := zG _ s4 s2 s3 hdp.1 hdp.2
     have pa := pull_add (T := T) _ _ zu zv
     rw [if_pos ⟨by show (fzs _).length = (fzs _).length; rw [fzs_length, fzs_length, v2, u2], by show (fzs _).length = (fzs _).length; rw [fzs_length, fzs_length, v3, u3]⟩, sumG_f] at pa
     have q1 := frac_same (T := T) _ _ (Nat.le_trans zs.t (by decide)) (Nat.le_trans zs.t (by decide))
     have q2 := row_same (T := T) _ _ zs.yl (fun a h => Nat.le_trans (zs.y a h) (by decide)) (fun a h => Nat.le_trans (zs.y a h) (by decide))
     have q3 := row_same (T := T) _ _ zs.pl (fun a h => Nat.le_trans (zs.p a h) (by decide)) (fun a h => Nat.le_trans (zs.p a h) (by decide))
     simp only [decide_true, and_self] at q1 q2 q3
     clear key zG hdp zu zv zs u1 u2 u3 u4 v1 v2 v3 v4 s1 s2 s3 s4 k1 k2 k3 ok hx hx0 hs h2 h2' hlim hc1 hc2 w3 w4
     generalize (addPo (backT 1500 t x.v (u.map fv)).1 (backT 1500 t x.v (v.map fv)).1).f = G3 at *
     generalize (backT 1500 t x.v (u.map fv)).1.f = G1 at *
     generalize (backT 1500 t x.v (v.map fv)).1.f = G2 at *
     generalize fzs (addQL (u.map fv) (v.map fv)) = S at *
     obtain ⟨code, outs, dim, par⟩ := t
     obtain ⟨⟨x0, x1, x2⟩, xy, xp⟩ := x
     obtain ⟨⟨y0, y1, y2⟩, yy, yp⟩ := y
     obtain ⟨⟨g0, g1, g2⟩, gy, gp⟩ := G1
     obtain ⟨⟨j0, j1, j2⟩, jy, jp⟩ := G2
     obtain ⟨⟨l0, l1, l2⟩, ly, lp⟩ := G3
     dsimp only at *
     rw [f375 _ rfl, b375]
     simp -implicitDefEqProofs [c1, c2, c3, c4, cw, t1, t2, t3, t4, hadd, bu, bv, bs, pa, q1, q2, q3]
    ·have hk : ¬ (((backT 1500 t x.v (addQL (u.map fv) (v.map fv))).2.1 : Nat) : Int) = 0 := by omega
     rw [k1, u1] at bu
     rw [k2, v1] at bv
     clear k1 k2 k3 u1 u2 u3 u4 v1 v2 v3 v4
     generalize (backT 1500 t x.v (addQL (u.map fv) (v.map fv))).1.f = G3 at *
     generalize (((backT 1500 t x.v (addQL (u.map fv) (v.map fv))).2.1 : Nat) : Int) = kc at *
     generalize (((backT 1500 t x.v (addQL (u.map fv) (v.map fv))).2.2.1 : Nat) : Int) = sc at *
     generalize (((backT 1500 t x.v (addQL (u.map fv) (v.map fv))).2.2.2 : Nat) : Int) = ac at *
     generalize fzs (addQL (u.map fv) (v.map fv)) = S at *
     generalize (backT 1500 t x.v (u.map fv)).1.f = G1 at *
     generalize (backT 1500 t x.v (v.map fv)).1.f = G2 at *
     generalize (((backT 1500 t x.v (u.map fv)).2.1 : Nat) : Int) = ka at *
     generalize (((backT 1500 t x.v (v.map fv)).2.1 : Nat) : Int) = kb at *
     generalize (((backT 1500 t x.v (u.map fv)).2.2.1 : Nat) : Int) = sa at *
     generalize (((backT 1500 t x.v (v.map fv)).2.2.1 : Nat) : Int) = sb at *
     generalize (((backT 1500 t x.v (u.map fv)).2.2.2 : Nat) : Int) = aa at *
     generalize (((backT 1500 t x.v (v.map fv)).2.2.2 : Nat) : Int) = ab at *
     clear hx hx0 hs h2 h2' hlim hc1 hc2 w3 w4
     obtain ⟨code, outs, dim, par⟩ := t
     obtain ⟨⟨x0, x1, x2⟩, xy, xp⟩ := x
     obtain ⟨⟨y0, y1, y2⟩, yy, yp⟩ := y
     obtain ⟨⟨g0, g1, g2⟩, gy, gp⟩ := G1
     obtain ⟨⟨j0, j1, j2⟩, jy, jp⟩ := G2
     obtain ⟨⟨l0, l1, l2⟩, ly, lp⟩ := G3
     dsimp only at *
     rw [f375 _ rfl, b375]
     simp -implicitDefEqProofs [c1, c2, c3, c4, cw, t1, t2, t3, t4, hadd, bu, bv, bs, hk]
   ·have hk : ¬ (((backT 1500 t x.v (v.map fv)).2.1 : Nat) : Int) = 0 := by omega
    rw [k1, u1] at bu
    clear k1 k2 u1 u2 u3 u4
    generalize (backT 1500 t x.v (addQL (u.map fv) (v.map fv))).1.f = G3 at *
    generalize (((backT 1500 t x.v (addQL (u.map fv) (v.map fv))).2.1 : Nat) : Int) = kc at *
    generalize (((backT 1500 t x.v (addQL (u.map fv) (v.map fv))).2.2.1 : Nat) : Int) = sc at *
    generalize (((backT 1500 t x.v (addQL (u.map fv) (v.map fv))).2.2.2 : Nat) : Int) = ac at *
    generalize fzs (addQL (u.map fv) (v.map fv)) = S at *
    generalize (backT 1500 t x.v (u.map fv)).1.f = G1 at *
    generalize (backT 1500 t x.v (v.map fv)).1.f = G2 at *
    generalize (((backT 1500 t x.v (u.map fv)).2.1 : Nat) : Int) = ka at *
    generalize (((backT 1500 t x.v (v.map fv)).2.1 : Nat) : Int) = kb at *
    generalize (((backT 1500 t x.v (u.map fv)).2.2.1 : Nat) : Int) = sa at *
    generalize (((backT 1500 t x.v (v.map fv)).2.2.1 : Nat) : Int) = sb at *
    generalize (((backT 1500 t x.v (u.map fv)).2.2.2 : Nat) : Int) = aa at *
    generalize (((backT 1500 t x.v (v.map fv)).2.2.2 : Nat) : Int) = ab at *
    clear hx hx0 hs h2 h2' hlim hc1 hc2 w3 w4
    obtain ⟨code, outs, dim, par⟩ := t
    obtain ⟨⟨x0, x1, x2⟩, xy, xp⟩ := x
    obtain ⟨⟨y0, y1, y2⟩, yy, yp⟩ := y
    obtain ⟨⟨g0, g1, g2⟩, gy, gp⟩ := G1
    obtain ⟨⟨j0, j1, j2⟩, jy, jp⟩ := G2
    obtain ⟨⟨l0, l1, l2⟩, ly, lp⟩ := G3
    dsimp only at *
    rw [f375 _ rfl, b375]
    simp -implicitDefEqProofs [c1, c2, c3, c4, cw, t1, t2, t3, t4, hadd, bu, bv, bs, hk]
  ·have hk : ¬ (((backT 1500 t x.v (u.map fv)).2.1 : Nat) : Int) = 0 := by omega
   clear k1
   generalize (backT 1500 t x.v (addQL (u.map fv) (v.map fv))).1.f = G3 at *
   generalize (((backT 1500 t x.v (addQL (u.map fv) (v.map fv))).2.1 : Nat) : Int) = kc at *
   generalize (((backT 1500 t x.v (addQL (u.map fv) (v.map fv))).2.2.1 : Nat) : Int) = sc at *
   generalize (((backT 1500 t x.v (addQL (u.map fv) (v.map fv))).2.2.2 : Nat) : Int) = ac at *
   generalize fzs (addQL (u.map fv) (v.map fv)) = S at *
   generalize (backT 1500 t x.v (u.map fv)).1.f = G1 at *
   generalize (backT 1500 t x.v (v.map fv)).1.f = G2 at *
   generalize (((backT 1500 t x.v (u.map fv)).2.1 : Nat) : Int) = ka at *
   generalize (((backT 1500 t x.v (v.map fv)).2.1 : Nat) : Int) = kb at *
   generalize (((backT 1500 t x.v (u.map fv)).2.2.1 : Nat) : Int) = sa at *
   generalize (((backT 1500 t x.v (v.map fv)).2.2.1 : Nat) : Int) = sb at *
   generalize (((backT 1500 t x.v (u.map fv)).2.2.2 : Nat) : Int) = aa at *
   generalize (((backT 1500 t x.v (v.map fv)).2.2.2 : Nat) : Int) = ab at *
   clear hx hx0 hs h2 h2' hlim hc1 hc2 w3 w4
   obtain ⟨code, outs, dim, par⟩ := t
   obtain ⟨⟨x0, x1, x2⟩, xy, xp⟩ := x
   obtain ⟨⟨y0, y1, y2⟩, yy, yp⟩ := y
   obtain ⟨⟨g0, g1, g2⟩, gy, gp⟩ := G1
   obtain ⟨⟨j0, j1, j2⟩, jy, jp⟩ := G2
   obtain ⟨⟨l0, l1, l2⟩, ly, lp⟩ := G3
   dsimp only at *
   rw [f375 _ rfl, b375]
   simp -implicitDefEqProofs [c1, c2, c3, c4, cw, t1, t2, t3, t4, hadd, bu, bv, bs, hk]
 ·rw [if_neg hl] at hadd
  have bs : callF T 397 [etp t, ept x, .sl [] .an, .i .i64 1500] = some (.tup [ept (backT (limN 1500) t x.v []).1.f, fltA (backT (limN 1500) t x.v []).2.1 0 (backT (limN 1500) t x.v []).2.2.1 (backT (limN 1500) t x.v []).2.2.2]) := pull_back (T := T) t x [] 1500 hs hx (by omega) (fun a h => by cases h)
  generalize (backT (limN 1500) t x.v []).1.f = G3 at *
  generalize (((backT (limN 1500) t x.v []).2.1 : Nat) : Int) = kc at *
  generalize (((backT (limN 1500) t x.v []).2.2.1 : Nat) : Int) = sc at *
  generalize (((backT (limN 1500) t x.v []).2.2.2 : Nat) : Int) = ac at *
  generalize (backT 1500 t x.v (u.map fv)).1.f = G1 at *
  generalize (backT 1500 t x.v (v.map fv)).1.f = G2 at *
  generalize (((backT 1500 t x.v (u.map fv)).2.1 : Nat) : Int) = ka at *
  generalize (((backT 1500 t x.v (v.map fv)).2.1 : Nat) : Int) = kb at *
  generalize (((backT 1500 t x.v (u.map fv)).2.2.1 : Nat) : Int) = sa at *
  generalize (((backT 1500 t x.v (v.map fv)).2.2.1 : Nat) : Int) = sb at *
  generalize (((backT 1500 t x.v (u.map fv)).2.2.2 : Nat) : Int) = aa at *
  generalize (((backT 1500 t x.v (v.map fv)).2.2.2 : Nat) : Int) = ab at *
  clear hx hx0 hs h2 h2' hlim hc1 hc2 w3 w4
  obtain ⟨code, outs, dim, par⟩ := t
  obtain ⟨⟨x0, x1, x2⟩, xy, xp⟩ := x
  obtain ⟨⟨y0, y1, y2⟩, yy, yp⟩ := y
  obtain ⟨⟨g0, g1, g2⟩, gy, gp⟩ := G1
  obtain ⟨⟨j0, j1, j2⟩, jy, jp⟩ := G2
  obtain ⟨⟨l0, l1, l2⟩, ly, lp⟩ := G3
  dsimp only at *
  rw [f375 _ rfl, b375]
  simp -implicitDefEqProofs [c1, c2, c3, c4, cw, t1, t2, t3, t4, hadd, bu, bv, bs]
end
end Go.Ab