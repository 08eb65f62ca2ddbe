/-
  A calculus of values, boxes and code, and what functions of the program compute, proved in it.
  Conditions: none beyond those that the theorems state. (Part 3.)
-/
import Derived.Test.YtebcadckeepbdaaGreatDoorPart2

set_option linter.unusedSectionVars false
set_option linter.unusedVariables false
set_option linter.unusedSimpArgs false
set_option linter.unnecessarySimpa false

namespace Go.Ab
section
open Go.RowKit
mutual
def wkA : AV → AV
 | .sl els _ => .sl (wkL els) .an
 | .agg cs => .agg (wkR cs)
 | .tup cs => .tup (wkR cs)
 | .i k n => .i k n
 | .b x => .b x
 | .s l => .s l
 | .raw v => .raw v
 | .ep cs o => .ep cs o
 | .bs id g z off n => .bs id g z off n
 | .ptr id g z i o => .ptr id g z i o
 | .ifc t x => .ifc t x
 | .dead => .dead
def wkR : List AV → List AV
 | [] => []
 | c :: r => wkA c :: wkR r
def wkL : List (List AV) → List (List AV)
 | [] => []
 | r :: l => wkR r :: wkL l
end
def wkIf (ex : Bool) (x : AV) : AV := if ex then x else wkA x
def rlC (σn : BId → BId) (σg : Nat → Nat) : AV → AV
 | .bs id g z off n => .bs (σn id) (σg g) z off n
 | .ptr id g z i o => .ptr (σn id) (σg g) z i o
 | .agg _ | .tup _ | .ifc .. => .dead
 | x => x
def rl1 (σn : BId → BId) (σg : Nat → Nat) : AV → AV
 | .agg cs => .agg (cs.map (rlC σn σg))
 | x => rlC σn σg x
def rlA (σn : BId → BId) (σg : Nat → Nat) : AV → AV
 | .tup cs => .tup (cs.map (rl1 σn σg))
 | x => rl1 σn σg x
def rfC : AV → List BId
 | .bs id _ _ _ _ => [id]
 | .ptr id _ _ _ _ => [id]
 | _ => []
def rf1 : AV → List BId
 | .agg cs => cs.flatMap rfC
 | x => rfC x
def rfA : AV → List BId
 | .tup cs => cs.flatMap rf1
 | x => rf1 x
def rlBox (ex : Bool) (σn : BId → BId) (σg : Nat → Nat) (bx : Box) : Box :=
 ⟨σg bx.gen, bx.kind, bx.z, if bx.kind = .str then bx.els.map fun r => r.map fun c => rlC σn σg (wkIf ex c) else if ex then bx.els else wkL bx.els⟩
def kids (h : Heap) (b : BId) : List BId :=
 match h.lookup b with
 | some bx => if bx.kind = .str then bx.els.flatMap fun r => r.flatMap rfC else []
 | none => []
def reach (h : Heap) : Nat → List BId → List BId → List BId
 | 0, _, acc => acc
 | _, [], acc => acc
 | n + 1, b :: todo, acc => if acc.contains b then reach h n todo acc else reach h n (kids h b ++ todo) (acc ++ [b])
def bors : Nat → List BId
 | 0 => []
 | k + 1 => bors k ++ [.bor k]
def pickH (h : Heap) (ids : List BId) : Heap := ids.filterMap fun b => (h.lookup b).map fun bx => (b, bx)
def genIx : Heap → Nat → Nat → Nat
 | [], _, j => j
 | p :: l, g, j => if p.2.gen = g then j else genIx l g (j + 1)
def sigG (k : Nat) (hp : Heap) (g : Nat) : Nat := if g ≤ k then g else genIx hp g (k + 1)
def normS (ex : Bool) (k : Nat) (live : List Nat) (st : St) : St :=
 let env := live.map fun t => (t, st.env.get t)
 let hp := pickH st.heap (reach st.heap 40 (bors k ++ env.flatMap fun p => rfA p.2) [])
 ⟨env.map fun p => (p.1, rlA id (sigG k hp) (wkIf ex p.2)), hp.map fun p => (p.1, rlBox ex id (sigG k hp) p.2), k + hp.length + 2⟩
inductive Gh where
 | nil (t z : Nat)                      -- an empty list, told as a row of the call's own
 | frz (t : Nat)                        -- a row of the call's own, told as a value
 | norm (ex : Bool) (live : List Nat)
 | fld (t : Nat) (i o z : Nat)          -- an empty list in a field of the box that slot t points to
inductive AX where
 | skip
 | reg (ops : List AO)
 | draw (ops : List DO)
 | seq (a b : AX)
 | cond (c : Opd) (x y : AX)
 | block (id : Nat) (c : AX)
 | loop (c : AX)
 | exit (id : Nat)
 | ret
 | note (c : AX) (g : Gh)
 | pre (g : Gh) (c : AX)   -- ahead of c
 | scope (c : AX)
 | lp (id : Nat) (g : Gh) (c : AX) (g2 : Gh)   -- a loop in its block: told by g ahead of it, by g2 behind
 | bad
 | drawT (hd tl : List AO)
 | drawM (hd tl : List AO)
 | prim (f : List AV → Option AV)   -- no code: a function known by its contract
def AX.isPrim : AX → Option (List AV → Option AV)
 | .prim f => some f
 | _ => none
def AX.isBad : AX → Bool
 | .bad => true
 | _ => false
def mname : Nat → String
 | 1 => "Of"
 | 2 => "Neg"
 | 3 => "Add"
 | 4 => "Sub"
 | 5 => "Mul"
 | 6 => "Quo"
 | 7 => "Pow"
 | 8 => "Fits"
 | _ => ""
structure AFx where
 np : Nat
 nt : Nat
 res : List RV
 body : AX
 lent : Option (List Bool)
 exact : Bool
abbrev Tbl := Nat → Option AFx
def methsA (af : AFx) : List (String × Nat) := af.res.filterMap fun r => match r with | .cell j (some u) => some (mname j, u) | _ => none
def tyNum (T : Tbl) (k : Nat) : Nat := match T (1000000 + k) with | some af => af.np | none => 0
def methsT (T : Tbl) (k : Nat) : List (String × Nat) := match T (1000000 + k) with | some af => if af.body.isBad then methsA af else [] | none => []
inductive Ex where
 | n
 | x (id : Nat)
 | r
def ghS (k : Nat) (g : Gh) (st : St) : Option St :=
 match g with
 | .nil t z =>
  match st.env.get t with
  | .sl [] .nl => some ⟨(t, .bs (.loc t) st.clk z 0 0) :: st.env, (.loc t, ⟨st.clk, .own, z, []⟩) :: st.heap, st.clk + 1⟩
  | _ => none
 | .frz t => (frz st.heap (st.env.get t)).map fun y => ⟨(t, y) :: st.env, shareIds (refs (st.env.get t)) st.heap, st.clk⟩
 | .norm ex live => some (normS ex k live st)
 | .fld t i o z =>
  match st.env.get t with
  | .ptr b g z0 _ _ =>
   match boxAt st.heap b g z0 with
   | some bx =>
    match bx.els[i]? with
    | some r =>
     match r[o]? with
     | some (.sl [] .nl) =>
      if bx.kind = .str ∧ (st.heap.lookup (.fld b o)).isNone then
       some ⟨st.env, (b, { bx with els := bx.els.set i (r.set o (.bs (.fld b o) st.clk z 0 0)) }) :: (.fld b o, ⟨st.clk, .own, z, []⟩) :: st.heap, st.clk + 1⟩
      else none
     | _ => none
    | none => none
   | none => none
  | _ => none
structure Orc where
 call : Nat → List AV → Heap → Option (AV × Heap)
 loop : Nat → AX → St → Option (Ex × St)
def rootsM : List Bool → List AV → List BId
 | m :: ms, x :: xs => (if m then rfA x else []) ++ rootsM ms xs
 | _, _ => []
def nameIx : List BId → BId → Nat → Nat
 | [], _, j => j
 | b :: l, x, j => if b = x then j else nameIx l x (j + 1)
def inN (l : List BId) (b : BId) : BId := .bor (nameIx l b 0)
def inG (hp : Heap) (g : Nat) : Nat := genIx hp g 0
def outN (l : List BId) (d : Nat) (b : BId) : BId :=
 match b with
 | .bor i => l.getD i (.fld (.loc d) i)
 | .loc n => .fld (.loc d) n
 | .fld b o => .fld (.fld (.loc d) 0) (match b with | .loc n => 1000 + 1000 * n + o | _ => o)
def outG (hp : Heap) (clk : Nat) (g : Nat) : Nat :=
 match hp[g]? with
 | some p => p.2.gen
 | none => clk + (g - hp.length)
def callX (O : Orc) (T : Tbl) (u : Nat) (xs : List AV) (d : Option Nat) (st : St) : Option St :=
 match T u with
 | none => none
 | some af =>
  match af.lent with
  | none =>
   (xs.mapM (frz1 st.heap)).bind fun ys => (O.call u (ys.map (wkIf af.exact)) []).bind fun r =>
    some ⟨putE st.env d r.1, if scalar r.1 then st.heap else shareIds (xs.flatMap refs) st.heap, st.clk⟩
  | some ms =>
   (frzM st.heap ms xs).bind fun ys =>
    let h1 := shareIds (refsM ms xs) st.heap
    let l := reach h1 40 (rootsM ms xs) []
    let hp := pickH h1 l
    if hp.map (·.1) = l ∧ l.Nodup then
     (O.call u (ys.map fun y => rlA (inN l) (inG hp) (wkIf af.exact y)) (hp.map fun p => (inN l p.1, rlBox af.exact (inN l) (inG hp) p.2))).bind fun r =>
      let hb' := r.2.map fun p => (outN l (d.getD 0) p.1, rlBox true (outN l (d.getD 0)) (outG hp st.clk) p.2)
      let r' := rlA (outN l (d.getD 0)) (outG hp st.clk) r.1
      if (hb'.map (·.1)).Nodup && refOk hb' r' && heapOk hb' then
       some ⟨putE st.env d r', hb' ++ (h1.filter fun p => !(l.contains p.1 || (hb'.map (·.1)).contains p.1)), st.clk + r.2.length + 2⟩
      else none
    else none
def opX (O : Orc) (T : Tbl) (op : AOp) (d : Option Nat) (st : St) : Option St :=
 match op with
 | .call u args => callX O T u (args.map (ev st.env.get)) d st
 | .ifc k x => some ⟨putE st.env d (.ifc (tyNum T k) (ev st.env.get x)), st.heap, st.clk⟩
 | .inv nm k u r args =>
  match ev st.env.get r with
  | .ifc t y => if t = tyNum T k ∧ (nm, u) ∈ methsT T k then callX O T u (y :: args.map (ev st.env.get)) d st else none
  | _ => none
 | .alloc .. | .store .. | .mks .. | .app .. | .xop .. => (stepW op d st.env.get st.heap st.clk).map fun q => ⟨putE st.env d q.1, q.2.1, q.2.2⟩
 | .bsl z zs len ps => (bslAV z zs len st.heap (ps.map fun p => (p.1, ev st.env.get p.2))).map fun q => ⟨putE st.env d q.1, q.2, st.clk⟩
 | op => (stepQ op st.env.get st.heap).map fun x => ⟨putE st.env d x, st.heap, st.clk⟩
def gX (O : Orc) (T : Tbl) (x : AV) (want : Bool) (op : AOp) (d : Option Nat) (st : St) : Option St :=
 match x with
 | .b v => if v = want then opX O T op d st else some ⟨putE st.env d (.tup []), st.heap, st.clk⟩
 | .tup _ => some ⟨putE st.env d (.tup []), st.heap, st.clk⟩
 | _ => none
def stepX (O : Orc) (T : Tbl) (o : AO) (st : St) : Option St :=
 match o.guard with
 | none => opX O T o.op o.dst st
 | some (t, want) => gX O T (st.env.get t) want o.op o.dst st
def runX (O : Orc) (T : Tbl) : List AO → St → Option St
 | [], st => some st
 | o :: r, st => (stepX O T o st).bind (runX O T r)
open Classical in
noncomputable def keepD (op : AOp) (e : Env) (older : List Heap) (x : AV) : Bool := op.free || decide (∀ h' ∈ older, stepQ op e.get h' = some x)
theorem keepD_spec {op : AOp} {e : Env} {older : List Heap} {x : AV} (h : keepD op e older x = true) : op.free = true ∨ ∀ h' ∈ older, stepQ op e.get h' = some x := by
 classical
 unfold keepD at h
 rw [Bool.or_eq_true] at h
 rcases h with h | h
 ·exact .inl h
 ·exact .inr (of_decide_eq_true h)
noncomputable def opD (O : Orc) (T : Tbl) (op : AOp) (e : Env) (h : Heap) (older : List Heap) : Option AV :=
 match op with
 | .call u args =>
  match T u with
  | none => none
  | some af => if af.lent.isNone && (args.map (ev e.get)).all noRef then (O.call u ((args.map (ev e.get)).map (wkIf af.exact)) []).map (·.1) else none
 | .ifc k x => some (.ifc (tyNum T k) (ev e.get x))
 | .inv nm k u r args =>
  match ev e.get r with
  | .ifc t y =>
   if t = tyNum T k ∧ (nm, u) ∈ methsT T k then
    match T u with
    | none => none
    | some af => if af.lent.isNone && (drp1 y :: args.map (ev e.get)).all noRef then (O.call u ((drp1 y :: args.map (ev e.get)).map (wkIf af.exact)) []).map (·.1) else none
   else none
  | _ => none
 | .bsl z zs len ps =>
  if (ps.map fun p => (p.1, ev e.get p.2)).all (fun p => noRef p.2) then (bslAV z zs len [] (ps.map fun p => (p.1, ev e.get p.2))).map (·.1) else none
 | .app z (.c (.sl [] .nl)) y => cpnAV z (ev e.get y)
 | op => (stepQ op e.get h).bind fun x => if keepD op e older x then some x else none
theorem opD_app {O : Orc} {T : Tbl} {z : Nat} {x0 y : Opd} {e : Env} {h : Heap} {older : List Heap} (hc : x0 ≠ .c (.sl [] .nl)) : opD O T (.app z x0 y) e h older = none := by
 cases x0 with
 | t n => simp [opD, stepQ]
 | c a =>
  cases a
  case sl els f =>
   cases els with
   | nil => cases f <;> first | exact absurd rfl hc | simp [opD, stepQ]
   | cons r l => simp [opD, stepQ]
  all_goals simp [opD, stepQ]
noncomputable def qX (O : Orc) (T : Tbl) (o : AO) (e : Env) (h : Heap) (older : List Heap) : Option (AV × Bool) :=
 match o.guard with
 | none => (opD O T o.op e h older).map fun x => (x, true)
 | some (t, want) =>
  match e.get t with
  | .b v => if v = want then (opD O T o.op e h older).map fun x => (x, true) else some (.tup [], false)
  | .tup [] => some (.tup [], false)
  | _ => none
abbrev PendX := List (Nat × AOp × Env × AV)
open Classical in
noncomputable def pendOk (pend : PendX) (h : Heap) : Bool := decide (∀ p ∈ pend, 0 < p.1 → stepQ p.2.1 p.2.2.1.get h = some p.2.2.2)
def pendAdd (o : DO) (n : Nat) (e : Env) (r : AV × Bool) (pend : PendX) : PendX :=
 if r.2 && !o.ao.op.free && decide (n < o.hi) then (o.hi - n, o.ao.op, e, r.1) :: pend else pend
noncomputable def drawX (O : Orc) (T : Tbl) : List DO → Env → Heap → Nat → List Heap → PendX → Option St
 | [], e, h, clk, _, _ => some ⟨e, h, clk⟩
 | o :: r, e, h, clk, older, pend =>
  match o.ao.op.writes with
  | true => if o.ao.guard.isNone then (stepW o.ao.op o.ao.dst e.get h clk).bind fun q => if pendOk pend q.2.1 then drawX O T r (putE e o.ao.dst q.1) q.2.1 q.2.2 (h :: older) (pend.map fun p => (p.1 - 1, p.2)) else none else none
  | false => (qX O T o.ao e h (older.take (older.length - o.lo))).bind fun x => drawX O T r (putE e o.ao.dst x.1) h clk older (pendAdd o older.length e x pend)
noncomputable def headX (O : Orc) (T : Tbl) (tl : List AO) : List AO → Env → Heap → Nat → Option St
 | [], e, h, clk => runX O T tl ⟨e, h, clk⟩
 | o :: r, e, h, clk => (qX O T o e h []).bind fun x => headX O T tl r (putE e o.dst x.1) h clk
def contB (c0 : Nat) (op : AOp) (e : Env) (l : List Nat) : Bool := l.all fun g => decide (g < c0) || (slotsM op).any fun t => (gnA (e.get t)).contains g
def boxB (c0 : Nat) (op : AOp) (e : Env) (hp : Heap) : Bool := hp.all fun p => if p.2.kind = .str then p.2.els.all fun r => r.all fun x => contB c0 op e (gnA x) else true
def AOp.lentN : AOp → Option (Nat × List Opd)
 | .call u args => if 2000 ≤ u ∧ u < 3000 then some (u, args) else none
 | _ => none
def geB (clk : Nat) (l : List Nat) : Bool := l.all fun g => decide (clk ≤ g)
def geH (clk : Nat) (hp : Heap) : Bool := hp.all fun p => if p.2.kind = .str then p.2.els.all fun r => r.all fun x => geB clk (gnA x) else true
def callM (O : Orc) (T : Tbl) (u : Nat) (xs : List AV) (d clk : Nat) : Option (AV × Heap × Nat) :=
 match T u with
 | none => none
 | some af =>
  match af.lent with
  | none => none
  | some _ =>
   if xs.all noRef = true then
    (O.call u (xs.map fun y => rlA (inN []) (inG []) (wkIf af.exact y)) []).bind fun r =>
     let hb' := r.2.map fun p => (outN [] d p.1, rlBox true (outN [] d) (outG [] clk) p.2)
     let r' := rlA (outN [] d) (outG [] clk) r.1
     if (hb'.map (·.1)).Nodup ∧ geB clk (gnA r') = true ∧ geH clk hb' = true then some (r', hb', clk + (r.2.length + 2)) else none
   else none
def freshS (h0 : Heap) (op : AOp) (e : Env) : Bool :=
 match op with
 | .store _ x _ => match ev e.get x with | .ptr id _ _ _ _ => (h0.lookup id).isNone | _ => false
 | _ => false
noncomputable def headM (O : Orc) (T : Tbl) (tl : List AO) (h0 : Heap) (c0 : Nat) : List AO → Env → Heap → Nat → Option St
 | [], e, h, clk => runX O T tl ⟨e, h, clk⟩
 | o :: r, e, h, clk =>
  match o.op.maker with
  | true =>
   match o.guard, o.dst with
   | none, some d => (stepW o.op (some d) e.get [] clk).bind fun q => if (h.lookup (.loc d)).isNone && boxB c0 o.op e q.2.1 then headM O T tl h0 c0 r (putE e (some d) q.1) (q.2.1 ++ h) q.2.2 else none
   | _, _ => none
  | false =>
   match o.op.isStore with
   | true =>
    match o.guard, o.dst with
    | none, none => (stepW o.op none e.get h clk).bind fun q => if freshS h0 o.op e = true then headM O T tl h0 c0 r e q.2.1 q.2.2 else none
    | _, _ => none
   | false =>
    match o.op.lentN with
    | some ua =>
     match o.guard, o.dst with
     | none, some d => (callM O T ua.1 (ua.2.map (ev e.get)) d clk).bind fun q => if q.2.1.all (fun p => (h.lookup p.1).isNone) = true then headM O T tl h0 c0 r (putE e (some d) q.1) (q.2.1 ++ h) q.2.2 else none
     | _, _ => none
    | none => (qX O T o e h0 []).bind fun x => if contB c0 o.op e (gnA x.1) then headM O T tl h0 c0 r (putE e o.dst x.1) h clk else none
noncomputable def evX (O : Orc) (T : Tbl) (k : Nat) : AX → St → Option (Ex × St)
 | .skip, st => some (.n, st)
 | .reg l, st => (runX O T l st).map fun s => (.n, s)
 | .draw l, st => (drawX O T l st.env st.heap st.clk [] []).map fun s => (.n, s)
 | .drawT hd tl, st => (headX O T tl hd st.env st.heap st.clk).map fun s => (.n, s)
 | .drawM hd tl, st => (headM O T tl st.heap st.clk hd st.env st.heap st.clk).map fun s => (.n, s)
 | .bad, _ => none
 | .prim _, _ => none
 | .seq a b, st => (evX O T k a st).bind fun r => match r.1 with | .n => evX O T k b r.2 | _ => some r
 | .cond c x y, st => match ev st.env.get c with | .b t => if t then evX O T k x st else evX O T k y st | _ => none
 | .block id c, st => (evX O T k c st).bind fun r => match r.1 with | .x j => if j = id then some (.n, r.2) else some r | _ => some r
 | .loop c, st => O.loop k c st
 | .exit id, st => some (.x id, st)
 | .ret, st => some (.r, st)
 | .note c g, st => (evX O T k c st).bind fun r => match r.1 with | .n => (ghS k g r.2).map fun s => (.n, s) | _ => some r
 | .pre g c, st => (ghS k g st).bind fun s => evX O T k c s
 | .scope c, st => evX O T k c st
 | .lp id g c g2, st => (ghS k g st).bind fun s => (O.loop k c s).bind fun r => match r.1 with | .n => (ghS k g2 r.2).map fun s => (.n, s) | .x j => if j = id then (ghS k g2 r.2).map fun s => (.n, s) else some r | .r => some r
def endX (af : AFx) (k : Nat) (r : Ex × St) : Option (AV × Heap) :=
 match r.1 with
 | .x _ => none
 | _ =>
  (resAV r.2 af.res).bind fun x =>
  match af.lent with
  | none => (frz r.2.heap x).map fun y => (wkIf af.exact y, [])
  | some _ => let s := normS af.exact k [0] ⟨[(0, x)], r.2.heap, r.2.clk⟩; some (s.env.get 0, s.heap)
noncomputable def nextO (T : Tbl) (O : Orc) : Orc where
 call u xs hb :=
  match T u with
  | none => none
  | some af =>
   match af.body.isPrim with
   | some f => if hb = [] ∧ af.lent = none then (f xs).map fun x => (x, []) else none
   | none => if xs.length = af.np ∧ (af.lent = none → hb = []) then (evX O T hb.length af.body ⟨argEnv xs, hb, hb.length + 1⟩).bind (endX af hb.length) else none
 loop k c st := (evX O T k c st).bind fun r => match r.1 with | .n => O.loop k c r.2 | _ => some r
noncomputable def orcN (T : Tbl) : Nat → Orc
 | 0 => ⟨fun _ _ _ => none, fun _ _ _ => none⟩
 | n + 1 => nextO T (orcN T n)
end
section
open Go.RowKit
theorem wkR_get (l : List AV) (j : Nat) : (wkR l)[j]? = (l[j]?).map wkA := by
 induction l generalizing j with
 | nil => simp [wkR]
 | cons c l ih => cases j <;> simp [wkR, ih]
theorem wkR_len (l : List AV) : (wkR l).length = l.length := by
 induction l with
 | nil => rfl
 | cons c l ih => simp [wkR, ih]
theorem wkR_map (l : List AV) : wkR l = l.map wkA := by
 induction l with
 | nil => rfl
 | cons c l ih => simp [wkR, ih]
theorem wkL_map (l : List (List AV)) : wkL l = l.map wkR := by
 induction l with
 | nil => rfl
 | cons c l ih => simp [wkL, ih]
theorem wkL_get (l : List (List AV)) (j : Nat) : (wkL l)[j]? = (l[j]?).map wkR := by rw [wkL_map]; simp
theorem wkL_len (l : List (List AV)) : (wkL l).length = l.length := by rw [wkL_map]; simp
section
variable {w : World} {S : Nat → Nat → Prop} {M M' : Map} {clk clk' : Nat}
theorem CP.wk {v : Value} {x : AV} (h : CP w S v x) : CP w S v (wkA x) := by
 induction h with
 | i k n => simp only [wkA]; exact .i k n
 | b x => simp only [wkA]; exact .b x
 | s l => simp only [wkA]; exact .s l
 | raw v => simp only [wkA]; exact .raw v
 | dead v => simp only [wkA]; exact .dead v
 | agg vs cs hl h1 _ ih =>
  simp only [wkA]
  refine .agg vs _ (by rw [wkR_len]; exact hl) h1 fun j v c hv hc => ?_
  rw [wkR_get] at hc
  cases hcs : cs[j]? with
  | none => rw [hcs] at hc; cases hc
  | some c0 => rw [hcs] at hc; cases hc; exact ih j v c0 hv hcs
 | tup vs cs hl _ ih =>
  simp only [wkA]
  refine .tup vs _ (by rw [wkR_len]; exact hl) fun j v c hv hc => ?_
  rw [wkR_get] at hc
  cases hcs : cs[j]? with
  | none => rw [hcs] at hc; cases hc
  | some c0 => rw [hcs] at hc; cases hc; exact ih j v c0 hv hcs
 | slnil f hf => simp only [wkA, wkL]; exact .slnil _ (.inr rfl)
 | slz a f hf => simp only [wkA, wkL]; exact .slz a _ (.inr rfl)
 | sl blk off z cap els f u hf hfull hcap hmax hz hSc _ ih =>
  simp only [wkA]
  rw [← wkL_len els]
  refine .sl blk off z cap _ _ u (by intro h; cases h) (by intro h; cases h) (by rw [wkL_len]; exact hcap) hmax (fun i r hr => ?_) (fun i j hi hj => hSc i j (by rw [wkL_len] at hi; exact hi) hj) fun i r j c hr hc => ?_
  ·rw [wkL_get] at hr
   cases he : els[i]? with
   | none => rw [he] at hr; cases hr
   | some r0 => rw [he] at hr; cases hr; rw [wkR_len]; exact hz i r0 he
  ·rw [wkL_get] at hr
   cases he : els[i]? with
   | none => rw [he] at hr; cases hr
   | some r0 =>
    rw [he] at hr; cases hr
    rw [wkR_get] at hc
    cases hcs : r0[j]? with
    | none => rw [hcs] at hc; cases hc
    | some c0 => rw [hcs] at hc; cases hc; exact ih i r0 j c0 he hcs
 | ep blk off cs o u hSc _ ih => simp only [wkA]; exact .ep blk off cs o u hSc ‹_›
theorem C.wk {v : Value} {x : AV} (h : C w S M clk v x) : C w S M clk v (wkA x) := by
 induction h with
 | p h => exact .p h.wk
 | bs id g z off n v hg h h1 => simp only [wkA]; exact .bs id g z off n v hg h h1
 | ptr id g z i o v hg h h1 => simp only [wkA]; exact .ptr id g z i o v hg h h1
 | agg vs cs hl h1 _ ih =>
  simp only [wkA]
  refine .agg vs _ (by rw [wkR_len]; exact hl) h1 fun j v c hv hc => ?_
  rw [wkR_get] at hc
  cases hcs : cs[j]? with
  | none => rw [hcs] at hc; cases hc
  | some c0 => rw [hcs] at hc; cases hc; exact ih j v c0 hv hcs
 | tup vs cs hl _ ih =>
  simp only [wkA]
  refine .tup vs _ (by rw [wkR_len]; exact hl) fun j v c hv hc => ?_
  rw [wkR_get] at hc
  cases hcs : cs[j]? with
  | none => rw [hcs] at hc; cases hc
  | some c0 => rw [hcs] at hc; cases hc; exact ih j v c0 hv hcs
 | ifc t v x h _ => simp only [wkA]; exact .ifc t v x h
theorem CP.wkIf {v : Value} {x : AV} (ex : Bool) (h : CP w S v x) : CP w S v (wkIf ex x) := by
 unfold Go.Ab.wkIf; split
 ·exact h
 ·exact h.wk
theorem C.wkIf {v : Value} {x : AV} (ex : Bool) (h : C w S M clk v x) : C w S M clk v (wkIf ex x) := by
 unfold Go.Ab.wkIf; split
 ·exact h
 ·exact h.wk
structure Rlb (M M' : Map) (clk clk' : Nat) (σ : Nat → Nat) : Prop where
 fwd : ∀ g, g < clk → (M' (σ g) = M g ∨ M' (σ g) = none) ∧ σ g < clk'
theorem C.rlC {v : Value} {x : AV} {σn : BId → BId} {σg : Nat → Nat} (hr : Rlb M M' clk clk' σg) (h : C w S M clk v x) : C w S M' clk' v (rlC σn σg x) := by
 cases h with
 | p h =>
  cases h with
  | i k n => exact .p (.i k n)
  | b x => exact .p (.b x)
  | s l => exact .p (.s l)
  | raw v => exact .p (.raw v)
  | dead v => exact .p (.dead v)
  | agg => exact .p (.dead _)
  | tup => exact .p (.dead _)
  | slnil f hf => exact .p (.slnil f hf)
  | slz a f hf => exact .p (.slz a f hf)
  | sl blk off z cap els f u h1 h2 h3 h4 h5 h6 h7 => exact .p (.sl blk off z cap els f u h1 h2 h3 h4 h5 h6 h7)
  | ep blk off cs o u h1 h2 => exact .p (.ep blk off cs o u h1 h2)
 | bs id g z off n v hg h h1 =>
  obtain ⟨h2, h3⟩ := hr.fwd g hg
  refine .bs _ _ _ _ _ _ h3 ?_ h1
  rcases h2 with h2 | h2 <;> rw [h2]
  ·exact h
  ·trivial
 | ptr id g z i o v hg h h1 =>
  obtain ⟨h2, h3⟩ := hr.fwd g hg
  refine .ptr _ _ _ _ _ _ h3 ?_ h1
  rcases h2 with h2 | h2 <;> rw [h2]
  ·exact h
  ·trivial
 | agg vs cs => exact .p (.dead _)
 | tup vs cs => exact .p (.dead _)
 | ifc t v x => exact .p (.dead _)
theorem getElem?_mapped {α β : Type} {l : List α} {f : α → β} {j : Nat} {y : β} (h : (l.map f)[j]? = some y) : ∃ x, l[j]? = some x ∧ y = f x := by
 rw [List.getElem?_map] at h
 cases hx : l[j]? with
 | none => rw [hx] at h; cases h
 | some x => rw [hx] at h; cases h; exact ⟨x, rfl, rfl⟩
theorem C.rl1 {v : Value} {x : AV} {σn : BId → BId} {σg : Nat → Nat} (hr : Rlb M M' clk clk' σg) (h : C w S M clk v x) : C w S M' clk' v (rl1 σn σg x) := by
 cases x
 case agg cs =>
  obtain ⟨vs, rfl, hl, h1, hc⟩ := h.inv_agg
  refine .agg vs _ (by simpa using hl) h1 fun j v c hv hcj => ?_
  obtain ⟨c0, h2, rfl⟩ := getElem?_mapped hcj
  exact (hc j v c0 hv h2).rlC hr
 all_goals exact h.rlC (σn := σn) hr
theorem C.rlA {v : Value} {x : AV} {σn : BId → BId} {σg : Nat → Nat} (hr : Rlb M M' clk clk' σg) (h : C w S M clk v x) : C w S M' clk' v (rlA σn σg x) := by
 cases x
 case tup cs =>
  obtain ⟨vs, rfl, hl, hc⟩ := h.inv_tup
  refine .tup vs _ (by simpa using hl) fun j v c hv hcj => ?_
  obtain ⟨c0, h2, rfl⟩ := getElem?_mapped hcj
  exact (hc j v c0 hv h2).rl1 hr
 all_goals exact h.rl1 (σn := σn) hr
theorem BoxOk.rl {bx : Box} {ex : Bool} {σn : BId → BId} {σg : Nat → Nat} (hr : Rlb M M' clk clk' σg) (hM : M' (σg bx.gen) = M bx.gen) (h : BoxOk w S M clk bx) : BoxOk w S M' clk' (rlBox ex σn σg bx) := by
 obtain ⟨h1, h2, m, hm, h3⟩ := h
 -- each row of the new box
 have row : ∀ (i : Nat) (r : List AV), (rlBox ex σn σg bx).els[i]? = some r → ∃ r0, bx.els[i]? = some r0 ∧ r.length = r0.length ∧ ∀ (j : Nat) c, r[j]? = some c → ∃ c0, r0[j]? = some c0 ∧
   ((bx.kind = .str ∧ c = Go.Ab.rlC σn σg (wkIf ex c0)) ∨ (bx.kind ≠ .str ∧ c = wkIf ex c0)) := by
  intro i r hi
  unfold rlBox at hi
  simp only at hi
  split at hi
  ·rename_i hk
   obtain ⟨r0, h4, rfl⟩ := getElem?_mapped hi
   refine ⟨r0, h4, by simp, fun j c hc => ?_⟩
   obtain ⟨c0, h5, rfl⟩ := getElem?_mapped hc
   exact ⟨c0, h5, .inl ⟨hk, rfl⟩⟩
  ·rename_i hk
   split at hi
   ·rename_i he
    refine ⟨r, hi, rfl, fun j c hc => ⟨c, hc, .inr ⟨hk, by simp [wkIf, he]⟩⟩⟩
   ·rename_i he
    rw [wkL_map] at hi
    obtain ⟨r0, h4, rfl⟩ := getElem?_mapped hi
    refine ⟨r0, h4, by simp [wkR_len], fun j c hc => ?_⟩
    rw [wkR_map] at hc
    obtain ⟨c0, h5, rfl⟩ := getElem?_mapped hc
    exact ⟨c0, h5, .inr ⟨hk, by simp [wkIf, he]⟩⟩
 have hlen : (rlBox ex σn σg bx).els.length = bx.els.length := by
  unfold rlBox
  simp only
  split
  ·simp
  ·split
   ·rfl
   ·exact wkL_len _
 refine ⟨(hr.fwd _ h1).2, fun r hrm => ?_, m, by rw [← hm]; exact hM, ?_⟩
 ·obtain ⟨i, hi⟩ := List.getElem?_of_mem hrm
  obtain ⟨r0, h4, h5, _⟩ := row i r hi
  rw [h5]
  exact h2 r0 (List.mem_of_getElem? h4)
 ·cases m with
  | none =>
   refine ⟨?_, h3.2⟩
   have : (rlBox ex σn σg bx).els.length = 0 := by rw [hlen, h3.1]; rfl
   exact List.length_eq_zero_iff.1 this
  | some k =>
   obtain ⟨arr, e, h4, h5, h6, h7, h8⟩ := h3
   refine ⟨arr, e, h4, by rw [hlen]; exact h5, fun i r j c hi hj => ?_, h7, by rw [hlen]; exact h8⟩
   obtain ⟨r0, h9, h10, h11⟩ := row i r hi
   obtain ⟨c0, h12, h13⟩ := h11 j c hj
   obtain ⟨u, hu, ho, hC, hP⟩ := h6 i r0 j c0 h9 h12
   refine ⟨u, hu, ho, ?_, fun hk => ?_⟩
   ·rcases h13 with ⟨hk, rfl⟩ | ⟨hk, rfl⟩
    ·exact (hC.wkIf ex).rlC hr
    ·exact .p ((hP hk).wkIf ex)
   ·rcases h13 with ⟨hk', rfl⟩ | ⟨hk', rfl⟩
    ·exact absurd hk' hk
    ·exact (hP hk).wkIf ex
theorem HeapRel.rl {h h2 : Heap} {ex : Bool} {σn : BId → BId} {σg : Nat → Nat} {D : Nat → Prop} (hr : Rlb M M' clk clk' σg) (hh : HeapRel w S M clk h)
  (h1 : ∀ b' bx', h2.lookup b' = some bx' → ∃ b bx, h.lookup b = some bx ∧ bx' = rlBox ex σn σg bx ∧ M' (σg bx.gen) = M bx.gen ∧ b' = σn b ∧ D bx.gen)
  (h3 : ∀ g' m, M' g' = some m → ∃ b' bx', h2.lookup b' = some bx' ∧ bx'.gen = g')
  (h4 : ∀ g1 g2, D g1 → D g2 → σg g1 = σg g2 → g1 = g2)
  (h5 : ∀ g' m, M' g' = some m → ∃ g, M g = some m ∧ σg g = g') : HeapRel w S M' clk' h2 := by
 refine ⟨fun b' bx' hb => ?_, h3, fun b1 x1 b2 x2 hb1 hb2 hg => ?_, fun g g' k hg hg' => ?_⟩
 ·obtain ⟨b, bx, h6, rfl, h7, _⟩ := h1 b' bx' hb
  exact (hh.box b bx h6).rl hr h7
 ·obtain ⟨c1, y1, h6, rfl, _, rfl, d1⟩ := h1 b1 x1 hb1
  obtain ⟨c2, y2, h8, rfl, _, rfl, d2⟩ := h1 b2 x2 hb2
  rw [hh.gens _ _ _ _ h6 h8 (h4 _ _ d1 d2 hg)]
 ·obtain ⟨g1, h6, rfl⟩ := h5 _ _ hg
  obtain ⟨g2, h7, rfl⟩ := h5 _ _ hg'
  rw [hh.inj _ _ _ h6 h7]
theorem WRel.rl {cx : Cx} {h h2 : Heap} {ex : Bool} {σn : BId → BId} {σg : Nat → Nat} {D : Nat → Prop} (hr : Rlb M M' clk clk' σg) (hw : WRel cx S M clk h w) (hc : cx.clk0 ≤ clk')
  (h0 : ∀ g m, g < cx.clk0 → M' g = some m → M g = some m)
  (h1 : ∀ b' bx', h2.lookup b' = some bx' → ∃ b bx, h.lookup b = some bx ∧ bx' = rlBox ex σn σg bx ∧ M' (σg bx.gen) = M bx.gen ∧ b' = σn b ∧ D bx.gen)
  (h3 : ∀ g' m, M' g' = some m → ∃ b' bx', h2.lookup b' = some bx' ∧ bx'.gen = g')
  (h4 : ∀ g1 g2, D g1 → D g2 → σg g1 = σg g2 → g1 = g2)
  (h5 : ∀ g' m, M' g' = some m → ∃ g, M g = some m ∧ σg g = g') : WRel cx S M' clk' h2 w :=
 ⟨hw.heap.rl hr h1 h3 h4 h5, ⟨hw.ext.hS, hw.ext.hcell, hc, fun g m hg hm => hw.ext.hM g m hg (h0 g m hg hm), fun g k arr e hg hm hb => hw.ext.hblk g k arr e hg (h0 g _ hg hm) hb⟩, hw.fr, hw.Snew, hw.Slt,
  fun g k hm => let ⟨g1, h6, _⟩ := h5 g _ hm; hw.Mnew g1 k h6⟩
end
end
section
open Go.RowKit
section
variable {α β : Type} {P : Program} {K : St → Prop}
@[simp] theorem get_cons (t d : Nat) (x : AV) (e : Env) : Env.get ((d, x) :: e) t = if t = d then x else e.get t := by
 simp only [Env.get, List.lookup_cons]
 by_cases h : t = d
 ·subst h; simp
 ·have : (t == d) = false := by simpa using h
  simp [this, h]
@[simp] theorem get_nil (t : Nat) : Env.get [] t = .dead := rfl
@[simp] theorem runK_nil {st : St} : runK P [] st K ↔ K st := Iff.rfl
@[simp] theorem runK_cons {o : AO} {l : List AO} {st : St} : runK P (o :: l) st K ↔ stepK P o st fun st' => runK P l st' K := Iff.rfl
@[simp] theorem stepK_none {d : Option Nat} {op : AOp} {st : St} : stepK P ⟨d, none, op⟩ st K ↔ opK P op d st K := Iff.rfl
@[simp] theorem putE_none (e : Env) (x : AV) : putE e none x = e := rfl
@[simp] theorem putE_some (e : Env) (d : Nat) (x : AV) : putE e (some d) x = (d, x) :: e := rfl
@[simp] theorem ev_t (e : Nat → AV) (n : Nat) : ev e (.t n) = e n := rfl
@[simp] theorem ev_c (e : Nat → AV) (x : AV) : ev e (.c x) = x := rfl
@[simp] theorem thenK_normal {N : St → Prop} {Q : Exit → St → Prop} {st : St} : thenK N Q .normal st ↔ N st := Iff.rfl
@[simp] theorem thenK_exit {N : St → Prop} {Q : Exit → St → Prop} {st : St} {id : Nat} : thenK N Q (.exit id) st ↔ Q (.exit id) st := Iff.rfl
@[simp] theorem thenK_ret {N : St → Prop} {Q : Exit → St → Prop} {st : St} : thenK N Q .ret st ↔ Q .ret st := Iff.rfl
@[simp] theorem blockK_normal {id : Nat} {Q : Exit → St → Prop} {st : St} : blockK id Q .normal st ↔ Q .normal st := Iff.rfl
@[simp] theorem blockK_ret {id : Nat} {Q : Exit → St → Prop} {st : St} : blockK id Q .ret st ↔ Q .ret st := Iff.rfl
@[simp] theorem blockK_exit {id id' : Nat} {Q : Exit → St → Prop} {st : St} : blockK id Q (.exit id') st ↔ if id' = id then Q .normal st else Q (.exit id') st := Iff.rfl
def gK (P : Program) (x : AV) (want : Bool) (op : AOp) (d : Option Nat) (st : St) (K : St → Prop) : Prop :=
 match x with
 | .b v => if v = want then opK P op d st K else K ⟨putE st.env d (.tup []), st.heap, st.clk⟩
 | .tup _ => K ⟨putE st.env d (.tup []), st.heap, st.clk⟩
 | _ => False
@[simp] theorem stepK_some {d : Option Nat} {op : AOp} {t : Nat} {want : Bool} {st : St} : stepK P ⟨d, some (t, want), op⟩ st K ↔ gK P (st.env.get t) want op d st K := by
 unfold stepK gK
 rfl
@[simp] theorem gK_b {v want : Bool} {op : AOp} {d : Option Nat} {st : St} : gK P (.b v) want op d st K ↔ if v = want then opK P op d st K else K ⟨putE st.env d (.tup []), st.heap, st.clk⟩ := Iff.rfl
@[simp] theorem gK_tup {vs : List AV} {want : Bool} {op : AOp} {d : Option Nat} {st : St} : gK P (.tup vs) want op d st K ↔ K ⟨putE st.env d (.tup []), st.heap, st.clk⟩ := Iff.rfl
@[simp] theorem opK_bsl {z n : Nat} {zs : List AV} {ps : List (Nat × Opd)} {d : Option Nat} {st : St} : opK P (.bsl z zs n ps) d st K ↔ okK (bslAV z zs n st.heap (ps.map fun p => (p.1, ev st.env.get p.2))) fun q => K ⟨putE st.env d q.1, q.2, st.clk⟩ := Iff.rfl
@[simp] theorem opK_mov {x} {d : Option Nat} {st : St} : opK P (.mov x) d st K ↔ okK (stepQ (.mov x) st.env.get st.heap) fun x => K ⟨putE st.env d x, st.heap, st.clk⟩ := Iff.rfl
@[simp] theorem opK_pick {c a b} {d : Option Nat} {st : St} : opK P (.pick c a b) d st K ↔ okK (stepQ (.pick c a b) st.env.get st.heap) fun x => K ⟨putE st.env d x, st.heap, st.clk⟩ := Iff.rfl
@[simp] theorem opK_build {zs ps} {d : Option Nat} {st : St} : opK P (.build zs ps) d st K ↔ okK (stepQ (.build zs ps) st.env.get st.heap) fun x => K ⟨putE st.env d x, st.heap, st.clk⟩ := Iff.rfl
@[simp] theorem opK_load {n x} {d : Option Nat} {st : St} : opK P (.load n x) d st K ↔ okK (stepQ (.load n x) st.env.get st.heap) fun x => K ⟨putE st.env d x, st.heap, st.clk⟩ := Iff.rfl
@[simp] theorem opK_bin {o x y} {d : Option Nat} {st : St} : opK P (.bin o x y) d st K ↔ okK (stepQ (.bin o x y) st.env.get st.heap) fun x => K ⟨putE st.env d x, st.heap, st.clk⟩ := Iff.rfl
@[simp] theorem opK_eqs {g ls x y} {d : Option Nat} {st : St} : opK P (.eqs g ls x y) d st K ↔ okK (stepQ (.eqs g ls x y) st.env.get st.heap) fun x => K ⟨putE st.env d x, st.heap, st.clk⟩ := Iff.rfl
@[simp] theorem opK_eqnil {g x} {d : Option Nat} {st : St} : opK P (.eqnil g x) d st K ↔ okK (stepQ (.eqnil g x) st.env.get st.heap) fun x => K ⟨putE st.env d x, st.heap, st.clk⟩ := Iff.rfl
@[simp] theorem opK_eqb {g x y} {d : Option Nat} {st : St} : opK P (.eqb g x y) d st K ↔ okK (stepQ (.eqb g x y) st.env.get st.heap) fun x => K ⟨putE st.env d x, st.heap, st.clk⟩ := Iff.rfl
@[simp] theorem opK_un {o x} {d : Option Nat} {st : St} : opK P (.un o x) d st K ↔ okK (stepQ (.un o x) st.env.get st.heap) fun x => K ⟨putE st.env d x, st.heap, st.clk⟩ := Iff.rfl
@[simp] theorem opK_conv {k x} {d : Option Nat} {st : St} : opK P (.conv k x) d st K ↔ okK (stepQ (.conv k x) st.env.get st.heap) fun x => K ⟨putE st.env d x, st.heap, st.clk⟩ := Iff.rfl
@[simp] theorem opK_slc {z x lo hi mx} {d : Option Nat} {st : St} : opK P (.slc z x lo hi mx) d st K ↔ okK (stepQ (.slc z x lo hi mx) st.env.get st.heap) fun x => K ⟨putE st.env d x, st.heap, st.clk⟩ := Iff.rfl
@[simp] theorem opK_slstr {x lo hi} {d : Option Nat} {st : St} : opK P (.slstr x lo hi) d st K ↔ okK (stepQ (.slstr x lo hi) st.env.get st.heap) fun x => K ⟨putE st.env d x, st.heap, st.clk⟩ := Iff.rfl
@[simp] theorem opK_fad {n x} {d : Option Nat} {st : St} : opK P (.fad n x) d st K ↔ okK (stepQ (.fad n x) st.env.get st.heap) fun x => K ⟨putE st.env d x, st.heap, st.clk⟩ := Iff.rfl
@[simp] theorem opK_fld {o n x} {d : Option Nat} {st : St} : opK P (.fld o n x) d st K ↔ okK (stepQ (.fld o n x) st.env.get st.heap) fun x => K ⟨putE st.env d x, st.heap, st.clk⟩ := Iff.rfl
@[simp] theorem opK_iad {z x i} {d : Option Nat} {st : St} : opK P (.iad z x i) d st K ↔ okK (stepQ (.iad z x i) st.env.get st.heap) fun x => K ⟨putE st.env d x, st.heap, st.clk⟩ := Iff.rfl
@[simp] theorem opK_iaa {z n x i} {d : Option Nat} {st : St} : opK P (.iaa z n x i) d st K ↔ okK (stepQ (.iaa z n x i) st.env.get st.heap) fun x => K ⟨putE st.env d x, st.heap, st.clk⟩ := Iff.rfl
@[simp] theorem opK_ixs {x i} {d : Option Nat} {st : St} : opK P (.ixs x i) d st K ↔ okK (stepQ (.ixs x i) st.env.get st.heap) fun x => K ⟨putE st.env d x, st.heap, st.clk⟩ := Iff.rfl
@[simp] theorem opK_ixa {z l n x i} {d : Option Nat} {st : St} : opK P (.ixa z l n x i) d st K ↔ okK (stepQ (.ixa z l n x i) st.env.get st.heap) fun x => K ⟨putE st.env d x, st.heap, st.clk⟩ := Iff.rfl
@[simp] theorem opK_len {x} {d : Option Nat} {st : St} : opK P (.len x) d st K ↔ okK (stepQ (.len x) st.env.get st.heap) fun x => K ⟨putE st.env d x, st.heap, st.clk⟩ := Iff.rfl
@[simp] theorem opK_lens {x} {d : Option Nat} {st : St} : opK P (.lens x) d st K ↔ okK (stepQ (.lens x) st.env.get st.heap) fun x => K ⟨putE st.env d x, st.heap, st.clk⟩ := Iff.rfl
@[simp] theorem opK_lenc {n} {d : Option Nat} {st : St} : opK P (.lenc n) d st K ↔ okK (stepQ (.lenc n) st.env.get st.heap) fun x => K ⟨putE st.env d x, st.heap, st.clk⟩ := Iff.rfl
@[simp] theorem opK_mm {m xs} {d : Option Nat} {st : St} : opK P (.mm m xs) d st K ↔ okK (stepQ (.mm m xs) st.env.get st.heap) fun x => K ⟨putE st.env d x, st.heap, st.clk⟩ := Iff.rfl
@[simp] theorem opK_ext {x n} {d : Option Nat} {st : St} : opK P (.ext x n) d st K ↔ okK (stepQ (.ext x n) st.env.get st.heap) fun x => K ⟨putE st.env d x, st.heap, st.clk⟩ := Iff.rfl
@[simp] theorem opK_nilc {x} {d : Option Nat} {st : St} : opK P (.nilc x) d st K ↔ okK (stepQ (.nilc x) st.env.get st.heap) fun x => K ⟨putE st.env d x, st.heap, st.clk⟩ := Iff.rfl
@[simp] theorem opK_alloc {zs} {d : Option Nat} {st : St} : opK P (.alloc zs) d st K ↔ okK (stepW (.alloc zs) d st.env.get st.heap st.clk) fun q => K ⟨putE st.env d q.1, q.2.1, q.2.2⟩ := Iff.rfl
@[simp] theorem opK_store {n x v} {d : Option Nat} {st : St} : opK P (.store n x v) d st K ↔ okK (stepW (.store n x v) d st.env.get st.heap st.clk) fun q => K ⟨putE st.env d q.1, q.2.1, q.2.2⟩ := Iff.rfl
@[simp] theorem opK_mks {z zs l c} {d : Option Nat} {st : St} : opK P (.mks z zs l c) d st K ↔ okK (stepW (.mks z zs l c) d st.env.get st.heap st.clk) fun q => K ⟨putE st.env d q.1, q.2.1, q.2.2⟩ := Iff.rfl
@[simp] theorem opK_app {z x y} {d : Option Nat} {st : St} : opK P (.app z x y) d st K ↔ okK (stepW (.app z x y) d st.env.get st.heap st.clk) fun q => K ⟨putE st.env d q.1, q.2.1, q.2.2⟩ := Iff.rfl
@[simp] theorem unAV_neg (k : IntKind) (n : Int) : unAV .neg (.i k n) = some (.i k (k.wrap (0 - n))) := rfl
@[simp] theorem unAV_not (t : Bool) : unAV .not (.b t) = some (.b (!t)) := rfl
attribute [simp] stepQ stepW pickAV lenAV lensAV mmAV mmL mm2 extAV eqbAV eqnilAV nilcAV iadAV loadAV fadAV fldAV partL fillL eqsAV eqL evO exitP resAV resV argEnv bslAV frzP fillS shareIds appAV appR rowOf rowZ
@[simp] theorem binV_add {k : IntKind} {a b : Int} : binV .add (.i k a) (.i k b) = some (.i k (k.wrap (a + b))) := by simp [binV, binI]
@[simp] theorem binV_sub {k : IntKind} {a b : Int} : binV .sub (.i k a) (.i k b) = some (.i k (k.wrap (a - b))) := by simp [binV, binI]
@[simp] theorem binV_mul {k : IntKind} {a b : Int} : binV .mul (.i k a) (.i k b) = some (.i k (k.wrap (a * b))) := by simp [binV, binI]
@[simp] theorem binV_quo {k : IntKind} {a b : Int} : binV .quo (.i k a) (.i k b) = if b = 0 then none else some (.i k (k.wrap (a.tdiv b))) := by simp [binV, binI]
@[simp] theorem binV_rem {k : IntKind} {a b : Int} : binV .rem (.i k a) (.i k b) = if b = 0 then none else some (.i k (a.tmod b)) := by simp [binV, binI]
@[simp] theorem binV_eql {k : IntKind} {a b : Int} : binV .eql (.i k a) (.i k b) = some (.b (a == b)) := by simp [binV, binI]
@[simp] theorem binV_neq {k : IntKind} {a b : Int} : binV .neq (.i k a) (.i k b) = some (.b (a != b)) := by simp [binV, binI]
@[simp] theorem binV_lss {k : IntKind} {a b : Int} : binV .lss (.i k a) (.i k b) = some (.b (a < b)) := by simp [binV, binI]
@[simp] theorem binV_leq {k : IntKind} {a b : Int} : binV .leq (.i k a) (.i k b) = some (.b (a ≤ b)) := by simp [binV, binI]
@[simp] theorem binV_gtr {k : IntKind} {a b : Int} : binV .gtr (.i k a) (.i k b) = some (.b (a > b)) := by simp [binV, binI]
@[simp] theorem binV_geq {k : IntKind} {a b : Int} : binV .geq (.i k a) (.i k b) = some (.b (a ≥ b)) := by simp [binV, binI]
@[simp] theorem binV_eqls {a b : List UInt8} : binV .eql (.s a) (.s b) = some (.b (a == b)) := by simp [binV, binS]
@[simp] theorem binV_adds {a b : List UInt8} : binV .add (.s a) (.s b) = if a.length + b.length ≤ 9223372036854775807 then some (.s (a ++ b)) else none := by simp [binV, binS]
theorem wrap_i64 (n : Int) (h : -9223372036854775808 ≤ n ∧ n < 9223372036854775808) : IntKind.wrap .i64 n = n := by
 simp [IntKind.wrap, IntKind.signed, IntKind.bits] <;> (try split) <;> omega
end
end
section
open Go.RowKit
section
variable {cx : Cx} {Q : Exit → St → Prop} {st : St} {c : AC} {P : Program} {K : St → Prop}
@[simp] theorem lookup_bid {β : Type} (b b' : BId) (x : β) (l : List (BId × β)) : List.lookup b ((b', x) :: l) = if b = b' then some x else List.lookup b l := by
 rw [List.lookup_cons]
 by_cases h : b = b'
 ·subst h; simp
 ·have : (b == b') = false := by simpa using h
  simp [this, h]
attribute [simp] liveP storeAV allocAV mksAV exitB
attribute [simp] AOp.writes AOp.free slcAV bndO
@[simp] theorem bnd_i (k : IntKind) (n y : Int) : bnd (.i k n) y = if 0 ≤ n ∧ n ≤ y then some n.toNat else none := rfl
theorem WRel.sub {S : Nat → Nat → Prop} {M : Map} {st st' : St} {w : World} (hs : Sub st st') (hr : WRel cx S M st.clk st.heap w) : ∃ Mb, WRel cx S Mb st'.clk st'.heap w ∧ Ext w S M st.clk w S Mb st'.clk := by
 classical
 generalize hMb : (fun g => if Live st'.heap g then M g else none : Map) = Mb
 have hMb1 : ∀ g m, Mb g = some m → Live st'.heap g ∧ M g = some m := by
  intro g m hm
  rw [← hMb] at hm
  simp only at hm
  split at hm
  ·exact ⟨‹_›, hm⟩
  ·cases hm
 have hMb2 : ∀ g, Live st'.heap g → Mb g = M g := by intro g hg; rw [← hMb]; simp [hg]
 have hx : Ext w S M st.clk w S Mb st'.clk := ⟨fun _ _ hs => hs, fun _ _ _ _ hc => hc, hs.clk, fun g m _ hm => (hMb1 g m hm).2, fun _ _ arr _ _ _ hb => ⟨arr, hb, rfl⟩⟩
 refine ⟨Mb, ⟨⟨fun b bx hb => ?_, fun g m hm => (hMb1 g m hm).1, fun b bx b' bx' h1 h2 hg => ?_, fun g g' k h1 h2 => hr.heap.inj _ _ _ (hMb1 _ _ h1).2 (hMb1 _ _ h2).2⟩, hr.ext.trans hx, hr.fr, hr.Snew, hr.Slt, fun g k hm => hr.Mnew g k (hMb1 _ _ hm).2⟩, hx⟩
 ·obtain ⟨bx0, h0, h1⟩ := hs.heap b bx hb
  have hl : Live st'.heap bx.gen := ⟨b, bx, hb, rfl⟩
  have hbox := hr.heap.box b bx0 h0
  rcases h1 with rfl | ⟨hk, rfl⟩
  ·exact hbox.mono hx (hMb2 _ hl) (fun _ _ => rfl) fun _ _ _ hs => hs
  ·obtain ⟨b1, b2, m, hm, b3⟩ := hbox.mono hx (hMb2 bx0.gen hl) (fun _ _ => rfl) fun _ _ _ hs => hs
   refine ⟨b1, b2, m, hm, ?_⟩
   cases m with
   | none => exact ⟨b3.1, by simp⟩
   | some k =>
    obtain ⟨arr, e, hh, hsz, hc, ho, hlt⟩ := b3
    refine ⟨arr, e, hh, hsz, fun i r j c hi hj => ?_, fun hne => absurd rfl hne, hlt⟩
    obtain ⟨u, hu, h1, hC, hP⟩ := hc i r j c hi hj
    exact ⟨u, hu, h1, hC, fun _ => hP hk⟩
 ·obtain ⟨bx0, h3, h4⟩ := hs.heap b bx h1
  obtain ⟨bx0', h5, h6⟩ := hs.heap b' bx' h2
  have e1 : bx.gen = bx0.gen := by rcases h4 with rfl | ⟨_, rfl⟩ <;> rfl
  have e2 : bx'.gen = bx0'.gen := by rcases h6 with rfl | ⟨_, rfl⟩ <;> rfl
  exact hr.heap.gens _ _ _ _ h3 h5 (by rw [← e1, ← e2, hg])
def exitC (rs : List RV) (post : AV → Heap → Nat → Prop) : Exit → St → Prop :=
 fun ex st => (ex = .normal ∨ ex = .ret) ∧ ∃ r, resAV st rs = some r ∧ ∃ h' c', Sub ⟨[], st.heap, st.clk⟩ ⟨[], h', c'⟩ ∧ post r h' c'
end
end
section
open Go.RowKit
theorem genIx_le : ∀ (l : Heap) (g j : Nat), j ≤ genIx l g j ∧ genIx l g j ≤ j + l.length
 | [], g, j => by simp [genIx]
 | p :: l, g, j => by
  have := genIx_le l g (j + 1)
  simp only [genIx, List.length_cons]
  split <;> omega
theorem genIx_lt : ∀ (l : Heap) (g j : Nat), (∃ p ∈ l, p.2.gen = g) → genIx l g j < j + l.length
 | [], g, j, h => by obtain ⟨p, hp, _⟩ := h; simp at hp
 | p :: l, g, j, h => by
  simp only [genIx, List.length_cons]
  split
  ·omega
  ·rename_i hne
   obtain ⟨q, hq, he⟩ := h
   have hq' : q ∈ l := by
    rcases List.mem_cons.1 hq with rfl | h
    ·exact absurd he hne
    ·exact h
   have := genIx_lt l g (j + 1) ⟨q, hq', he⟩
   omega
theorem genIx_no : ∀ (l : Heap) (g j : Nat), (¬ ∃ p ∈ l, p.2.gen = g) → genIx l g j = j + l.length
 | [], g, j, h => by simp [genIx]
 | p :: l, g, j, h => by
  simp only [genIx, List.length_cons]
  rw [if_neg (fun he => h ⟨p, List.mem_cons_self, he⟩), genIx_no l g (j + 1) fun ⟨q, hq, he⟩ => h ⟨q, List.mem_cons_of_mem _ hq, he⟩]
  omega
theorem genIx_inj : ∀ (l : Heap) (g g' j : Nat), (∃ p ∈ l, p.2.gen = g) → (∃ p ∈ l, p.2.gen = g') → genIx l g j = genIx l g' j → g = g'
 | [], g, g', j, h, _, _ => by obtain ⟨p, hp, _⟩ := h; simp at hp
 | p :: l, g, g', j, h, h', he => by
  simp only [genIx] at he
  have low := genIx_le l g (j + 1)
  have low' := genIx_le l g' (j + 1)
  split at he <;> split at he
  ·rename_i h1 h2; rw [← h1, ← h2]
  ·omega
  ·omega
  ·rename_i h1 h2
   have tl : ∀ g, p.2.gen ≠ g → (∃ q ∈ p :: l, q.2.gen = g) → ∃ q ∈ l, q.2.gen = g := by
    intro g hne ⟨q, hq, he⟩
    rcases List.mem_cons.1 hq with rfl | h
    ·exact absurd he hne
    ·exact ⟨q, h, he⟩
   exact genIx_inj l g g' (j + 1) (tl g h1 h) (tl g' h2 h') he
theorem pickH_mem {h : Heap} {ids : List BId} {p : BId × Box} (hp : p ∈ pickH h ids) : h.lookup p.1 = some p.2 := by
 unfold pickH at hp
 obtain ⟨b, _, h2⟩ := List.mem_filterMap.1 hp
 cases hb : h.lookup b with
 | none => rw [hb] at h2; cases h2
 | some bx => rw [hb] at h2; cases h2; exact hb
theorem lookup_mem {β γ : Type} [BEq β] [LawfulBEq β] : ∀ (l : List (β × γ)) (b : β) (x : γ), l.lookup b = some x → (b, x) ∈ l := by
 intro l b x h
 induction l with
 | nil => cases h
 | cons p l ih =>
  obtain ⟨p1, p2⟩ := p
  rw [List.lookup_cons] at h
  split at h
  ·rename_i hb
   have := eq_of_beq hb
   subst this
   cases h
   exact List.mem_cons_self
  ·exact List.mem_cons_of_mem _ (ih h)
theorem mem_lookup {γ : Type} : ∀ (l : List (BId × γ)) (p : BId × γ), p ∈ l → ∃ x, l.lookup p.1 = some x := by
 intro l p h
 induction l with
 | nil => cases h
 | cons q l ih =>
  obtain ⟨q1, q2⟩ := q
  by_cases hb : p.1 = q1
  ·exact ⟨q2, by simp [hb]⟩
  ·rcases List.mem_cons.1 h with rfl | h
   ·exact absurd rfl hb
   ·obtain ⟨x, hx⟩ := ih h
    exact ⟨x, by simp [hb, hx]⟩
theorem pickH_lookup {h : Heap} {ids : List BId} {p : BId × Box} (hp : p ∈ pickH h ids) : (pickH h ids).lookup p.1 = some p.2 := by
 obtain ⟨x, hx⟩ := mem_lookup _ _ hp
 have h1 := pickH_mem (lookup_mem _ _ _ hx)
 rw [pickH_mem hp] at h1
 cases h1
 exact hx
theorem lookup_live (live : List Nat) (f : Nat → AV) (t : Nat) : (live.map fun t => (t, f t)).lookup t = if t ∈ live then some (f t) else none := by
 induction live with
 | nil => simp
 | cons s l ih =>
  by_cases h : t = s
  ·subst h; simp
  ·have h2 : (t == s) = false := by simpa using h
   simp [List.lookup_cons, h2, ih, h]
section
variable {cx : Cx} {st : St} {a : Act} {w : World}
theorem sigG_inj {k : Nat} {hp : Heap} {g g' : Nat} (h : ∃ p ∈ hp, p.2.gen = g) (h' : ∃ p ∈ hp, p.2.gen = g') (he : sigG k hp g = sigG k hp g') : g = g' := by
 unfold sigG at he
 have low := genIx_le hp g (k + 1)
 have low' := genIx_le hp g' (k + 1)
 split at he <;> split at he
 ·exact he
 ·omega
 ·omega
 ·exact genIx_inj _ _ _ _ h h' he
theorem Rel.norm {ex : Bool} {k : Nat} {live : List Nat} (hk : cx.clk0 = k + 1) (hr : Rel cx st a w) : Rel cx (normS ex k live st) a w := by
 obtain ⟨S, M, hr⟩ := hr
 generalize hids : reach st.heap 40 (bors k ++ (live.map fun t => (t, st.env.get t)).flatMap fun p => rfA p.2) [] = ids
 generalize hhp : pickH st.heap ids = hp
 have hn : normS ex k live st = ⟨(live.map fun t => (t, st.env.get t)).map fun p => (p.1, rlA id (sigG k hp) (wkIf ex p.2)), hp.map fun p => (p.1, rlBox ex id (sigG k hp) p.2), k + hp.length + 2⟩ := by
  rw [← hhp, ← hids]; rfl
 have hlk : ∀ b bx, hp.lookup b = some bx → st.heap.lookup b = some bx := by
  intro b bx hb
  have := lookup_mem _ _ _ hb
  rw [← hhp] at this
  exact pickH_mem this
 have hml : ∀ p ∈ hp, hp.lookup p.1 = some p.2 := by
  intro p hm
  rw [← hhp] at hm ⊢
  exact pickH_lookup hm
 classical
 generalize hM' : (fun g' => if h : ∃ g, (∃ p ∈ hp, p.2.gen = g) ∧ sigG k hp g = g' then M (Classical.choose h) else none : Map) = M'
 have hM1 : ∀ g, (∃ p ∈ hp, p.2.gen = g) → M' (sigG k hp g) = M g := by
  intro g hg
  rw [← hM']
  have h : ∃ g0, (∃ p ∈ hp, p.2.gen = g0) ∧ sigG k hp g0 = sigG k hp g := ⟨g, hg, rfl⟩
  simp only [dif_pos h]
  rw [sigG_inj (Classical.choose_spec h).1 hg (Classical.choose_spec h).2]
 have hM2 : ∀ g' m, M' g' = some m → ∃ g, (∃ p ∈ hp, p.2.gen = g) ∧ sigG k hp g = g' ∧ M g = some m := by
  intro g' m hm
  rw [← hM'] at hm
  simp only at hm
  split at hm
  ·rename_i h
   exact ⟨_, (Classical.choose_spec h).1, (Classical.choose_spec h).2, hm⟩
  ·cases hm
 have hrl : Rlb M M' st.clk (k + hp.length + 2) (sigG k hp) := by
  refine ⟨fun g hg => ⟨?_, ?_⟩⟩
  ·by_cases hin : ∃ p ∈ hp, p.2.gen = g
   ·exact .inl (hM1 g hin)
   ·right
    cases hm : M' (sigG k hp g) with
    | none => rfl
    | some m =>
     exfalso
     obtain ⟨g1, h1, h2, _⟩ := hM2 _ _ hm
     have hlt := genIx_lt hp g1 (k + 1) h1
     have hno := genIx_no hp g (k + 1) hin
     have hle := genIx_le hp g1 (k + 1)
     unfold sigG at h2
     split at h2 <;> split at h2
     ·subst h2; exact hin h1
     ·omega
     ·omega
     ·omega
  ·have := genIx_le hp g (k + 1)
   unfold sigG
   split <;> omega
 have hw := hr.wr
 refine ⟨S, M', ?_⟩
 rw [hn]
 refine ⟨hr.size, hr.defers, fun t => ?_, ?_⟩
 ·rw [List.map_map]
  have e1 : Env.get (live.map fun t => (t, rlA id (sigG k hp) (wkIf ex (st.env.get t)))) t = (if t ∈ live then some (rlA id (sigG k hp) (wkIf ex (st.env.get t))) else none).getD .dead := by
   rw [← lookup_live live (fun t => rlA id (sigG k hp) (wkIf ex (st.env.get t)))]; rfl
  show C w S M' _ _ (Env.get (live.map fun t => (t, rlA id (sigG k hp) (wkIf ex (st.env.get t)))) t)
  rw [e1]
  split
  ·exact ((hr.env t).wkIf ex).rlA hrl
  ·exact .p (.dead _)
 ·refine hw.rl (ex := ex) (σn := id) (σg := sigG k hp) (D := fun g => ∃ p ∈ hp, p.2.gen = g) hrl (by rw [hk]; show k + 1 ≤ k + hp.length + 2; omega) (fun g m hg hm => ?_) (fun b' bx' hb => ?_) (fun g' m hm => ?_) (fun g1 g2 hd1 hd2 hg => ?_) (fun g' m hm => ?_)
  ·obtain ⟨g1, h1, h2, h3⟩ := hM2 _ _ hm
   have hle := genIx_le hp g1 (k + 1)
   unfold sigG at h2
   split at h2
   ·rw [← h2]; exact h3
   ·omega
  ·rw [lookup_map (fun _ bx => rlBox ex id (sigG k hp) bx) b' hp] at hb
   obtain ⟨bx, h1, rfl⟩ := map_some hb
   exact ⟨b', bx, hlk _ _ h1, rfl, hM1 _ ⟨_, lookup_mem _ _ _ h1, rfl⟩, rfl, ⟨_, lookup_mem _ _ _ h1, rfl⟩⟩
  ·obtain ⟨g1, ⟨p, h1, h1'⟩, h2, h3⟩ := hM2 _ _ hm
   refine ⟨p.1, rlBox ex id (sigG k hp) p.2, ?_, by show sigG k hp p.2.gen = g'; rw [h1', h2]⟩
   rw [lookup_map (fun _ bx => rlBox ex id (sigG k hp) bx) p.1 hp, hml p h1]
   rfl
  ·exact sigG_inj hd1 hd2 hg
  ·obtain ⟨g1, _, h2, h3⟩ := hM2 _ _ hm
   exact ⟨g1, h3, h2⟩
theorem Rel.nil (t : Nat) (id : BId) (z : Nat) (hx : st.env.get t = .sl [] .nl) (hr0 : Rel cx st a w) : Rel cx ⟨(t, .bs id st.clk z 0 0) :: st.env, (id, ⟨st.clk, .own, z, []⟩) :: st.heap, st.clk + 1⟩ a w := by
 obtain ⟨S, M, hr⟩ := hr0
 refine ⟨S, setM M ((id, ⟨st.clk, .own, z, []⟩) :: st.heap) st.clk none, ?_⟩
 have h1 := hr.set (id := id) (bx' := ⟨st.clk, .own, z, []⟩) (k' := none) (touched := none) (clk' := st.clk + 1) (Nat.le_succ _) (.inl rfl) (fun hlt => absurd hlt (Nat.lt_irrefl _)) (Touch.of_below (Below.refl _ _)) (fun k hk => by cases hk)
  ⟨Nat.lt_succ_self _, fun r hr => by simp at hr, none, setM_self _ _ _ _, rfl, by simp⟩
 refine ⟨h1.size, h1.defers, fun t' => ?_, h1.wr⟩
 have e1 : Env.get ((t, AV.bs id st.clk z 0 0) :: st.env) = upd st.env.get (some t) (.bs id st.clk z 0 0) := get_put st.env (some t) _
 rw [e1]
 simp only [upd]
 split
 ·rename_i ht
  subst ht
  have hv := hr.env t'
  rw [hx] at hv
  have hv2 : a.tmps.getD t' undef = .slice none 0 0 := by
   rcases hv.inv_sl.inv_sl with ⟨_, b0, hv, _, hb2⟩ | ⟨_, _, _, _, _, _, hf, _⟩
   ·cases b0 with
    | none => exact hv
    | some a => rcases hb2 (by simp) with h1 | h1 <;> cases h1
   ·exact absurd rfl hf
  rw [hv2]
  refine .bs _ _ _ _ _ _ (Nat.lt_succ_self _) ?_ rfl
  unfold BsOk
  rw [setM_self]
  exact ⟨rfl, rfl, none, rfl, fun ad h => by cases h⟩
 ·exact h1.env t'
theorem Rel.frz (t : Nat) {y : AV} (hy : frz st.heap (st.env.get t) = some y) (hr0 : Rel cx st a w) : Rel cx ⟨(t, y) :: st.env, shareIds (refs (st.env.get t)) st.heap, st.clk⟩ a w := by
 obtain ⟨S, M, hr⟩ := hr0
 have hk := frz_kind hy
 refine ⟨cellsS st.heap M (refs (st.env.get t)) S, M, ?_⟩
 have h1 := hr.share (refs (st.env.get t)) hk
 refine ⟨h1.size, h1.defers, fun t' => ?_, h1.wr⟩
 have e1 : Env.get ((t, y) :: st.env) = upd st.env.get (some t) y := get_put st.env (some t) _
 rw [e1]
 simp only [upd]
 split
 ·rename_i ht
  subst ht
  exact .p (frz_CP hr.wr.heap (hr.env t') hy fun id hid => hid)
 ·exact h1.env t'
theorem Rel.fld (b id : BId) (z i o : Nat) {bx : Box} {r : List AV} (hb : st.heap.lookup b = some bx) (hk : bx.kind = .str) (hi : bx.els[i]? = some r) (ho : r[o]? = some (.sl [] .nl)) (hid : st.heap.lookup id = none) (hr0 : Rel cx st a w) : Rel cx ⟨st.env, (b, { bx with els := bx.els.set i (r.set o (.bs id st.clk z 0 0)) }) :: (id, ⟨st.clk, .own, z, []⟩) :: st.heap, st.clk + 1⟩ a w := by
 obtain ⟨S, M, hr⟩ := hr0
 refine ⟨S, setM M ((id, ⟨st.clk, .own, z, []⟩) :: st.heap) st.clk none, ?_⟩
 have h1 := hr.set (id := id) (bx' := ⟨st.clk, .own, z, []⟩) (k' := none) (touched := none) (clk' := st.clk + 1) (Nat.le_succ _) (.inl rfl) (fun hlt => absurd hlt (Nat.lt_irrefl _)) (Touch.of_below (Below.refl _ _)) (fun k hk => by cases hk)
  ⟨Nat.lt_succ_self _, fun r hr => by simp at hr, none, setM_self _ _ _ _, rfl, by simp⟩
 have hne : b ≠ id := fun he => by rw [he, hid] at hb; cases hb
 have hb1 : List.lookup b ((id, (⟨st.clk, .own, z, []⟩ : Box)) :: st.heap) = some bx := by rw [lookup_cons_ne _ _ hne]; exact hb
 have hw := h1.wr
 generalize hM' : setM M ((id, ⟨st.clk, .own, z, []⟩) :: st.heap) st.clk none = M' at *
 have hself : M' st.clk = some none := by rw [← hM']; exact setM_self _ _ _ _
 generalize hbx' : ({ bx with els := bx.els.set i (r.set o (.bs id st.clk z 0 0)) } : Box) = bx' at *
 have hgen : bx'.gen = bx.gen := by rw [← hbx']
 have hlen : bx'.els.length = bx.els.length := by rw [← hbx']; simp
 have hz : bx'.z = bx.z := by rw [← hbx']
 have hkk : bx'.kind = bx.kind := by rw [← hbx']
 have hbox : BoxOk w S M' (st.clk + 1) bx' := by
  obtain ⟨b1, b2, m, hm1, b3⟩ := hw.heap.box b bx hb1
  refine ⟨by rw [hgen]; exact b1, fun r' hr' => ?_, m, by rw [hgen]; exact hm1, ?_⟩
  ·rw [← hbx'] at hr'
   simp only at hr'
   rcases List.mem_or_eq_of_mem_set hr' with h2 | h2
   ·rw [hz]; exact b2 r' h2
   ·rw [h2, List.length_set, hz]; exact b2 r (List.mem_of_getElem? hi)
  ·cases m with
   | none =>
    rw [b3.1] at hi
    simp at hi
   | some k =>
    obtain ⟨arr, e, hh, hsz, hcc, hns, hlt⟩ := b3
    refine ⟨arr, e, hh, by rw [hlen, hz]; exact hsz, fun i' r' j c' hi' hj => ?_, by rw [hkk]; exact hns, by rw [hlen, hz]; exact hlt⟩
    rw [← hbx'] at hi'
    simp only [List.getElem?_set] at hi'
    rw [hz, hkk]
    split at hi'
    ·rename_i hii
     subst hii
     split at hi'
     ·cases hi'
      rw [List.getElem?_set] at hj
      split at hj
      ·rename_i hjo
       subst hjo
       split at hj
       ·cases hj
        obtain ⟨u, hu, hu1, hC, hP⟩ := hcc i r o _ hi ho
        refine ⟨u, hu, hu1, ?_, fun hne' => absurd hk hne'⟩
        have hv2 : u = .slice none 0 0 := by
         rcases hC.inv_sl.inv_sl with ⟨_, b0, hv, _, hb2⟩ | ⟨_, _, _, _, _, _, hf, _⟩
         ·cases b0 with
          | none => exact hv
          | some a => rcases hb2 (by simp) with h1 | h1 <;> cases h1
         ·exact absurd rfl hf
        rw [hv2]
        refine .bs _ _ _ _ _ _ (Nat.lt_succ_self _) ?_ rfl
        unfold BsOk
        rw [hself]
        exact ⟨rfl, rfl, none, rfl, fun ad h => by cases h⟩
       ·cases hj
      ·exact hcc i r j c' hi hj
     ·cases hi'
    ·exact hcc i' r' j c' hi' hj
 have to : ∀ q x, List.lookup q ((b, bx') :: (id, (⟨st.clk, .own, z, []⟩ : Box)) :: st.heap) = some x → ∃ x0, List.lookup q ((id, (⟨st.clk, .own, z, []⟩ : Box)) :: st.heap) = some x0 ∧ x0.gen = x.gen := by
  intro q x hq
  by_cases hqb : q = b
  ·subst hqb
   rw [lookup_cons_self] at hq
   cases hq
   exact ⟨bx, hb1, hgen.symm⟩
  ·rw [lookup_cons_ne _ _ hqb] at hq
   exact ⟨x, hq, rfl⟩
 refine ⟨h1.size, h1.defers, h1.env, ⟨⟨fun q x hq => ?_, fun g m hm => ?_, fun q1 x1 q2 x2 hq1 hq2 hg => ?_, hw.heap.inj⟩, hw.ext, hw.fr, hw.Snew, hw.Slt, hw.Mnew⟩⟩
 ·by_cases hqb : q = b
  ·subst hqb
   rw [lookup_cons_self] at hq
   cases hq
   exact hbox
  ·rw [lookup_cons_ne _ _ hqb] at hq
   exact hw.heap.box q x hq
 ·obtain ⟨q, x, hq, hg⟩ := hw.heap.live g m hm
  by_cases hqb : q = b
  ·subst hqb
   rw [hb1] at hq
   cases hq
   exact ⟨q, bx', lookup_cons_self _ _ _, by rw [hgen]; exact hg⟩
  ·exact ⟨q, x, by rw [lookup_cons_ne _ _ hqb]; exact hq, hg⟩
 ·obtain ⟨y1, hy1, e1⟩ := to q1 x1 hq1
  obtain ⟨y2, hy2, e2⟩ := to q2 x2 hq2
  exact hw.heap.gens _ _ _ _ hy1 hy2 (by rw [e1, e2, hg])
theorem Rel.gh {k : Nat} {g : Gh} {st' : St} (hk : cx.clk0 = k + 1) (hg : ghS k g st = some st') (hr : Rel cx st a w) : Rel cx st' a w := by
 cases g with
 | nil t z =>
  simp only [ghS] at hg
  split at hg <;> cases hg
  rename_i hx
  exact hr.nil t _ z hx
 | frz t =>
  simp only [ghS] at hg
  obtain ⟨y, hy, rfl⟩ := map_some hg
  exact hr.frz t hy
 | norm ex live =>
  simp only [ghS] at hg
  cases hg
  exact hr.norm hk
 | fld t i o z =>
  simp only [ghS] at hg
  split at hg <;> try (cases hg; done)
  split at hg <;> try (cases hg; done)
  rename_i bx hbx
  split at hg <;> try (cases hg; done)
  rename_i r hi
  split at hg <;> try (cases hg; done)
  rename_i ho
  split at hg <;> cases hg
  rename_i hc
  exact hr.fld _ _ z i o (boxAt_some hbx).1 hc.1 hi ho (by simpa using hc.2)
end
end
section
open Go.RowKit
theorem genIx_get : ∀ (l : Heap) (g j : Nat), (∃ p ∈ l, p.2.gen = g) → ∃ q, l[genIx l g j - j]? = some q ∧ q.2.gen = g ∧ j ≤ genIx l g j
 | [], g, j, h => by obtain ⟨p, hp, _⟩ := h; simp at hp
 | p :: l, g, j, h => by
  simp only [genIx]
  split
  ·rename_i he
   exact ⟨p, by simp, he, Nat.le_refl _⟩
  ·rename_i hne
   obtain ⟨q, hq, he⟩ := h
   have hq' : q ∈ l := by
    rcases List.mem_cons.1 hq with rfl | h
    ·exact absurd he hne
    ·exact h
   obtain ⟨q2, h1, h2, h3⟩ := genIx_get l g (j + 1) ⟨q, hq', he⟩
   refine ⟨q2, ?_, h2, by omega⟩
   rw [show genIx l g (j + 1) - j = (genIx l g (j + 1) - (j + 1)) + 1 by omega]
   simpa using h1
theorem nameIx_inj : ∀ (l : List BId) (b b' : BId) (j : Nat), b ∈ l → b' ∈ l → nameIx l b j = nameIx l b' j → b = b'
 | [], b, b', j, h, _, _ => by cases h
 | c :: l, b, b', j, h, h', he => by
  have low : ∀ (l : List BId) (x : BId) (j : Nat), j ≤ nameIx l x j := by
   intro l x
   induction l with
   | nil => intro j; exact Nat.le_refl _
   | cons y l ih => intro j; simp only [nameIx]; split; exact Nat.le_refl _; exact Nat.le_trans (Nat.le_succ j) (ih (j + 1))
  simp only [nameIx] at he
  have l1 := low l b (j + 1)
  have l2 := low l b' (j + 1)
  split at he <;> split at he
  ·rename_i h1 h2; rw [← h1, ← h2]
  ·omega
  ·omega
  ·rename_i h1 h2
   have tl : ∀ x, c ≠ x → x ∈ c :: l → x ∈ l := by
    intro x hne hx
    rcases List.mem_cons.1 hx with rfl | hx
    ·exact absurd rfl hne
    ·exact hx
   exact nameIx_inj l b b' (j + 1) (tl b h1 h) (tl b' h2 h') he
theorem nodup_lookup {γ : Type} : ∀ (l : List (BId × γ)), (l.map (·.1)).Nodup → ∀ p ∈ l, l.lookup p.1 = some p.2 := by
 intro l hn p hp
 induction l with
 | nil => cases hp
 | cons q l ih =>
  obtain ⟨q1, q2⟩ := q
  simp only [List.map_cons, List.nodup_cons] at hn
  rcases List.mem_cons.1 hp with rfl | hp
  ·simp
  ·have hne : p.1 ≠ q1 := fun he => hn.1 (he ▸ List.mem_map.2 ⟨p, hp, rfl⟩)
   simp [hne, ih hn.2 hp]
theorem nodup_of_map {α β : Type} {f : α → β} : ∀ (l : List α), (l.map f).Nodup → l.Nodup
 | [], _ => List.nodup_nil
 | x :: l, h => by
  simp only [List.map_cons, List.nodup_cons] at h ⊢
  exact ⟨fun hx => h.1 (List.mem_map.2 ⟨x, hx, rfl⟩), nodup_of_map l h.2⟩
theorem nodup_index {α : Type} : ∀ (l : List α), l.Nodup → ∀ (i j : Nat) (x : α), l[i]? = some x → l[j]? = some x → i = j
 | [], _, i, j, x, h, _ => by simp at h
 | y :: l, hn, i, j, x, hi, hj => by
  simp only [List.nodup_cons] at hn
  cases i with
  | zero =>
   cases j with
   | zero => rfl
   | succ j =>
    simp at hi hj
    subst hi
    exact absurd (List.mem_of_getElem? hj) hn.1
  | succ i =>
   cases j with
   | zero =>
    simp at hi hj
    subst hj
    exact absurd (List.mem_of_getElem? hi) hn.1
   | succ j => simp at hi hj; rw [nodup_index l hn.2 i j x hi hj]
theorem ACall.rl {P : Program} {f : FuncId} {ys : List AV} {hp : Heap} {clk d : Nat} {ex : Bool} {l : List BId} {r0 : AV} {hb' : Heap} {c' : Nat}
  (hkeys : hp.map (·.1) = l) (hnd : l.Nodup)
  (hnd2 : ((hb'.map fun p => (outN l d p.1, rlBox true (outN l d) (outG hp clk) p.2)).map (·.1)).Nodup)
  (hA : ACall P f (ys.map fun y => rlA (inN l) (inG hp) (wkIf ex y)) (hp.map fun p => (inN l p.1, rlBox ex (inN l) (inG hp) p.2)) (hp.length + 1) (fun r h c => r = r0 ∧ h = hb' ∧ c = c')) :
  ACall P f ys hp clk (fun r h c => r = rlA (outN l d) (outG hp clk) r0 ∧ h = hb'.map (fun p => (outN l d p.1, rlBox true (outN l d) (outG hp clk) p.2)) ∧ c = clk + (c' - hp.length)) := by
 refine ⟨hA.1, fun w S M cargs hl hC hh hS hM => ?_⟩
 have hml : ∀ p ∈ hp, hp.lookup p.1 = some p.2 := nodup_lookup hp (by rw [hkeys]; exact hnd)
 have hnd' : (hb'.map (·.1)).Nodup := by
  refine nodup_of_map (f := outN l d) _ ?_
  rw [List.map_map]
  rw [List.map_map] at hnd2
  exact hnd2
 classical
 -- the call's own numbering
 generalize hM1 : (fun g' => if h : ∃ g, (∃ p ∈ hp, p.2.gen = g) ∧ inG hp g = g' then M (Classical.choose h) else none : Map) = M1
 have inj1 : ∀ g1 g2, (∃ p ∈ hp, p.2.gen = g1) → (∃ p ∈ hp, p.2.gen = g2) → inG hp g1 = inG hp g2 → g1 = g2 := fun g1 g2 h1 h2 he => genIx_inj hp g1 g2 0 h1 h2 he
 have hM1a : ∀ g, (∃ p ∈ hp, p.2.gen = g) → M1 (inG hp g) = M g := by
  intro g hg
  rw [← hM1]
  have h : ∃ g0, (∃ p ∈ hp, p.2.gen = g0) ∧ inG hp g0 = inG hp g := ⟨g, hg, rfl⟩
  simp only [dif_pos h]
  rw [inj1 _ _ (Classical.choose_spec h).1 hg (Classical.choose_spec h).2]
 have hM1b : ∀ g' m, M1 g' = some m → ∃ g, (∃ p ∈ hp, p.2.gen = g) ∧ inG hp g = g' ∧ M g = some m := by
  intro g' m hm
  rw [← hM1] at hm
  simp only at hm
  split at hm
  ·rename_i h
   exact ⟨_, (Classical.choose_spec h).1, (Classical.choose_spec h).2, hm⟩
  ·cases hm
 have rl1 : Rlb M M1 clk (hp.length + 1) (inG hp) := by
  refine ⟨fun g _ => ⟨?_, ?_⟩⟩
  ·by_cases hin : ∃ p ∈ hp, p.2.gen = g
   ·exact .inl (hM1a g hin)
   ·right
    cases hm : M1 (inG hp g) with
    | none => rfl
    | some m =>
     exfalso
     obtain ⟨g1, h1, h2, _⟩ := hM1b _ _ hm
     have hlt := genIx_lt hp g1 0 h1
     have hno := genIx_no hp g 0 hin
     unfold inG at h2
     omega
  ·have := genIx_le hp g 0
   unfold inG
   omega
 have mem_keys : ∀ p ∈ hp, p.1 ∈ l := fun p hpm => by rw [← hkeys]; exact List.mem_map.2 ⟨p, hpm, rfl⟩
 have heap1 : HeapRel w S M1 (hp.length + 1) (hp.map fun p => (inN l p.1, rlBox ex (inN l) (inG hp) p.2)) := by
  refine hh.rl (ex := ex) (σn := inN l) (σg := inG hp) (D := fun g => ∃ p ∈ hp, p.2.gen = g) rl1 (fun b' bx' hb => ?_) (fun g' m hm => ?_) inj1 (fun g' m hm => ?_)
  ·obtain ⟨p, hpm, he⟩ := List.mem_map.1 (lookup_mem _ _ _ hb)
   cases he
   exact ⟨p.1, p.2, hml p hpm, rfl, hM1a _ ⟨p, hpm, rfl⟩, rfl, ⟨p, hpm, rfl⟩⟩
  ·obtain ⟨g1, ⟨p, hpm, h1⟩, h2, h3⟩ := hM1b _ _ hm
   obtain ⟨x, hx⟩ := mem_lookup (hp.map fun p => (inN l p.1, rlBox ex (inN l) (inG hp) p.2)) (inN l p.1, rlBox ex (inN l) (inG hp) p.2) (List.mem_map.2 ⟨p, hpm, rfl⟩)
   refine ⟨_, x, hx, ?_⟩
   obtain ⟨q, hqm, he⟩ := List.mem_map.1 (lookup_mem _ _ _ hx)
   simp only [Prod.mk.injEq] at he
   have hqp : q.1 = p.1 := by
    have := he.1
    simp only [inN, BId.bor.injEq] at this
    exact nameIx_inj l _ _ 0 (mem_keys q hqm) (mem_keys p hpm) this
   have : q.2 = p.2 := by
    have a1 := hml q hqm
    have a2 := hml p hpm
    rw [hqp, a2] at a1
    exact (Option.some.inj a1).symm
   rw [← he.2, this]
   show inG hp p.2.gen = g'
   rw [h1, h2]
  ·obtain ⟨g1, h1, h2, h3⟩ := hM1b _ _ hm
   exact ⟨g1, h3, h2⟩
 have range1 : ∀ g k, M1 g = some (some k) → ∃ g0, M g0 = some (some k) := fun g k hm => let ⟨g1, _, _, h3⟩ := hM1b g _ hm; ⟨g1, h3⟩
 refine (hA.2 w S M1 cargs (by simpa using hl) (fun j v c hv hc => ?_) heap1 hS (fun g k hm => let ⟨g0, h0⟩ := range1 g k hm; hM g0 k h0)).mono ?_
 ·obtain ⟨c0, h1, rfl⟩ := getElem?_mapped hc
  exact ((hC j v c0 hv h1).wkIf ex).rlA rl1
 intro e w' ⟨v, r, h', S', M2, clk2, he, ⟨hr0, hh', hc2⟩, hCr, hw⟩
 subst hr0
 subst hh'
 subst hc2
 have hw := hw 0
 have hclk2 : hp.length + 1 ≤ clk2 := hw.ext.hclk
 -- back
 have gens : ∀ (i : Nat) p, hp[i]? = some p → ∀ (j : Nat) q, hp[j]? = some q → p.2.gen = q.2.gen → i = j := by
  intro i p hi j q hj hg
  have h1 := hh.gens _ _ _ _ (hml p (List.mem_of_getElem? hi)) (hml q (List.mem_of_getElem? hj)) hg
  refine nodup_index l hnd i j p.1 ?_ ?_
  ·rw [← hkeys, List.getElem?_map, hi]; rfl
  ·rw [← hkeys, List.getElem?_map, hj, h1]; rfl
 have low : ∀ g m, M2 g = some m → g < hp.length ∨ hp.length + 1 ≤ g := by
  intro g m hm
  rcases Nat.lt_or_ge g (hp.length + 1) with h1 | h1
  ·obtain ⟨g1, h2, h3, _⟩ := hM1b g m (hw.ext.hM g m h1 hm)
   have := genIx_lt hp g1 0 h2
   unfold inG at h3
   omega
  ·exact .inr h1
 have outLt : ∀ g, g < hp.length → ∃ p, hp[g]? = some p ∧ outG hp clk g = p.2.gen ∧ p.2.gen < clk := by
  intro g hg
  have h1 : hp[g]? = some (hp[g]'hg) := List.getElem?_eq_getElem hg
  refine ⟨_, h1, by simp [outG, h1], (hh.box _ _ (hml _ (List.getElem_mem hg))).1⟩
 have outGe : ∀ g, hp.length ≤ g → outG hp clk g = clk + (g - hp.length) := by
  intro g hg
  have h1 : hp[g]? = none := List.getElem?_eq_none hg
  simp [outG, h1]
 have inj2 : ∀ g1 g2, (∃ m, M2 g1 = some m) → outG hp clk g1 = outG hp clk g2 → g1 = g2 := by
  intro g1 g2 ⟨m, hm⟩ he
  rcases Nat.lt_or_ge g1 hp.length with h1 | h1 <;> rcases Nat.lt_or_ge g2 hp.length with h2 | h2
  ·obtain ⟨p, a1, a2, _⟩ := outLt g1 h1
   obtain ⟨q, b1, b2, _⟩ := outLt g2 h2
   exact gens g1 p a1 g2 q b1 (by rw [← a2, ← b2, he])
  ·obtain ⟨p, a1, a2, a3⟩ := outLt g1 h1
   rw [a2, outGe g2 h2] at he
   omega
  ·obtain ⟨p, a1, a2, a3⟩ := outLt g2 h2
   rw [a2, outGe g1 h1] at he
   omega
  ·rw [outGe g1 h1, outGe g2 h2] at he
   omega
 generalize hM3 : (fun g' => if h : ∃ g, (∃ m, M2 g = some m) ∧ outG hp clk g = g' then M2 (Classical.choose h) else none : Map) = M3
 have hM3a : ∀ g, (∃ m, M2 g = some m) → M3 (outG hp clk g) = M2 g := by
  intro g hg
  rw [← hM3]
  have h : ∃ g0, (∃ m, M2 g0 = some m) ∧ outG hp clk g0 = outG hp clk g := ⟨g, hg, rfl⟩
  simp only [dif_pos h]
  rw [inj2 _ _ (Classical.choose_spec h).1 (Classical.choose_spec h).2]
 have hM3b : ∀ g' m, M3 g' = some m → ∃ g, outG hp clk g = g' ∧ M2 g = some m := by
  intro g' m hm
  rw [← hM3] at hm
  simp only at hm
  split at hm
  ·rename_i h
   exact ⟨_, (Classical.choose_spec h).2, hm⟩
  ·cases hm
 have rl2 : Rlb M2 M3 clk2 (clk + (clk2 - hp.length)) (outG hp clk) := by
  refine ⟨fun g hg => ⟨?_, ?_⟩⟩
  ·cases hm : M2 g with
   | some m => left; rw [← hm]; exact hM3a g ⟨m, hm⟩
   | none =>
    left
    cases hm3 : M3 (outG hp clk g) with
    | none => rfl
    | some m =>
     obtain ⟨g1, h1, h2⟩ := hM3b _ _ hm3
     have := inj2 g1 g ⟨m, h2⟩ h1
     subst this
     rw [hm] at h2
     cases h2
  ·rcases Nat.lt_or_ge g hp.length with h1 | h1
   ·obtain ⟨p, _, a2, a3⟩ := outLt g h1
    rw [a2]
    omega
   ·rw [outGe g h1]
    omega
 have back : ∀ g m, g < clk → M3 g = some m → ∃ g1, g1 < hp.length ∧ M2 g1 = some m ∧ M1 g1 = some m ∧ M g = some m := by
  intro g m hg hm
  obtain ⟨g1, h1, h2⟩ := hM3b _ _ hm
  have hlt : g1 < hp.length := by
   rcases Nat.lt_or_ge g1 hp.length with h3 | h3
   ·exact h3
   ·rw [outGe g1 h3] at h1; omega
  have h3 := hw.ext.hM g1 m (by show g1 < hp.length + 1; omega) h2
  obtain ⟨g2, h4, h5, h6⟩ := hM1b _ _ h3
  obtain ⟨p, a1, a2, _⟩ := outLt g1 hlt
  obtain ⟨q, b1, b2, _⟩ := genIx_get hp g2 0 h4
  unfold inG at h5
  rw [Nat.sub_zero, h5, a1] at b1
  cases b1
  rw [a2] at h1
  refine ⟨g1, hlt, h2, h3, ?_⟩
  rw [← h1, b2]
  exact h6
 refine ⟨v, _, _, S', M3, _, he, ⟨rfl, rfl, rfl⟩, hCr.rlA rl2, fun nt => ⟨?_, ?_, ?_, fun k o hs => ?_, hw.Slt, fun g k hm => ?_⟩⟩
 ·refine hw.heap.rl (ex := true) (σn := outN l d) (σg := outG hp clk) (D := fun g => ∃ m, M2 g = some m) rl2 (fun b' bx' hb => ?_) (fun g' m hm => ?_) (fun g1 g2 h1 _ he => inj2 g1 g2 h1 he) (fun g' m hm => ?_)
  ·obtain ⟨p, hpm, he⟩ := List.mem_map.1 (lookup_mem _ _ _ hb)
   cases he
   have h1 := nodup_lookup h' hnd' p hpm
   obtain ⟨_, _, m, hm, _⟩ := hw.heap.box _ _ h1
   exact ⟨p.1, p.2, h1, rfl, hM3a _ ⟨m, hm⟩, rfl, ⟨m, hm⟩⟩
  ·obtain ⟨g1, h1, h2⟩ := hM3b _ _ hm
   obtain ⟨b, bx, h3, h4⟩ := hw.heap.live g1 m h2
   refine ⟨outN l d b, rlBox true (outN l d) (outG hp clk) bx, ?_, by show outG hp clk bx.gen = g'; rw [h4, h1]⟩
   exact nodup_lookup _ hnd2 (outN l d b, rlBox true (outN l d) (outG hp clk) bx) (List.mem_map.2 ⟨(b, bx), lookup_mem _ _ _ h3, rfl⟩)
  ·obtain ⟨g1, h1, h2⟩ := hM3b _ _ hm
   exact ⟨g1, h2, h1⟩
 ·refine ⟨hw.ext.hS, hw.ext.hcell, by show clk ≤ clk + (clk2 - hp.length); omega, fun g m hg hm => ?_, fun g k arr e hg hm hb => ?_⟩
  ·obtain ⟨_, _, _, _, h4⟩ := back g m hg hm
   exact h4
  ·obtain ⟨g1, h1, h2, _, _⟩ := back g _ hg hm
   exact hw.ext.hblk g1 k arr e (by show g1 < hp.length + 1; omega) h2 hb
 ·exact ⟨hw.fr.os, hw.fr.tape, hw.fr.output, hw.fr.size, fun k hk hn => hw.fr.block k hk fun ⟨g, hm⟩ => hn (range1 g k hm)⟩
 ·rcases hw.Snew k o hs with h1 | h1 | ⟨g, h1⟩
  ·exact .inl h1
  ·exact .inr (.inl h1)
  ·exact .inr (.inr (range1 g k h1))
 ·obtain ⟨g1, h1, h2⟩ := hM3b _ _ hm
  obtain ⟨h3, h4⟩ := hw.Mnew g1 k h2
  refine ⟨h3, ?_⟩
  rcases h4 with h4 | ⟨g, h4⟩
  ·exact .inl h4
  ·exact .inr (range1 g k h4)
theorem PCall.wk {P : Program} {f : FuncId} {xs : List AV} {post : AV → Prop} {ex : Bool} (h : PCall P f (xs.map (wkIf ex)) post) : PCall P f xs post :=
 ⟨h.1, fun w S cargs hl hC hS => h.2 w S cargs (by simpa using hl) (fun j v c hv hc => by
  obtain ⟨c0, h1, rfl⟩ := getElem?_mapped hc
  exact (hC j v c0 hv h1).wkIf ex) hS⟩
end
section
open Go.RowKit
def mapOp (ν : Nat → FuncId) (τ : Nat → Nat) : AOp → AOp
 | .call u args => .call (ν u) args
 | .ifc k x => .ifc (τ k) x
 | .inv nm _ _ r args => .inv nm 0 0 r args
 | op => op
def mapAO (ν : Nat → FuncId) (τ : Nat → Nat) (o : AO) : AO := ⟨o.dst, o.guard, mapOp ν τ o.op⟩
def mapDO (ν : Nat → FuncId) (τ : Nat → Nat) (o : DO) : DO := ⟨mapAO ν τ o.ao, o.lo, o.hi⟩
def er (ν : Nat → FuncId) (τ : Nat → Nat) : AX → AC
 | .skip => .skip
 | .reg l => .reg (l.map (mapAO ν τ))
 | .draw l => .draw (l.map (mapDO ν τ))
 | .seq a b => .seq (er ν τ a) (er ν τ b)
 | .cond c x y => .cond c (er ν τ x) (er ν τ y)
 | .block id c => .block id (er ν τ c)
 | .loop c => .loop (er ν τ c)
 | .exit id => .exit id
 | .ret => .ret
 | .note c _ => er ν τ c
 | .pre _ c => er ν τ c
 | .scope c => .scope (er ν τ c)
 | .lp id _ c _ => .block id (.loop (er ν τ c))
 | .bad => .bad
 | .drawT hd tl => .drawT (hd.map (mapAO ν τ)) (tl.map (mapAO ν τ))
 | .drawM hd tl => .drawM (hd.map (mapAO ν τ)) (tl.map (mapAO ν τ))
 | .prim _ => .bad
def erF (ν : Nat → FuncId) (τ : Nat → Nat) (af : AFx) : AF := ⟨af.np, af.nt, af.res, er ν τ af.body⟩
def Ex.out : Ex → Exit
 | .n => .normal
 | .x id => .exit id
 | .r => .ret
def LWp (cx : Cx) (c : AC) (Q : Exit → St → Prop) (st : St) : Prop :=
 ∀ code, resCode cx.P cx.nt code = some c → cx.P.follows .mixedOrders = true → ∀ a w, Rel cx st a w → ∀ (b : Frame) (k : List Item) (cs : List Frame),
  ∃ e a' w', (∃ st', Q e st' ∧ Rel cx st' a' w') ∧ Arrives cx.P (lone (b.at a (.code code :: .inLoop code :: k)) cs w) b k cs e a' w'
theorem LWp_step {cx : Cx} {c : AC} {Q : Exit → St → Prop} {st : St} (h : AWp cx c (thenK (fun s => LWp cx c Q s) Q) st) : LWp cx c Q st := by
 intro code hc hm a w hr b k cs
 obtain ⟨ex, a1, w1, ⟨st1, hq1, hrel1⟩, harr⟩ := h code hc hm a w hr b (.inLoop code :: k) cs
 cases ex with
 | normal =>
  obtain ⟨e2, a2, w2, hq2, harr2⟩ := hq1 code hc hm a1 w1 hrel1 b k cs
  exact ⟨e2, a2, w2, hq2, .of_steps (Steps.trans harr (.one step_inLoop)) harr2⟩
 | exit id => exact ⟨_, a1, w1, ⟨st1, hq1, hrel1⟩, .pass (x := .inLoop code) rfl (fun _ _ => .inl (by simp)) harr⟩
 | goto l => exact ⟨_, a1, w1, ⟨st1, hq1, hrel1⟩, .pass (x := .inLoop code) rfl (fun _ _ => .inl (by simp)) harr⟩
 | ret => exact ⟨_, a1, w1, ⟨st1, hq1, hrel1⟩, .pass (x := .inLoop code) rfl (fun _ _ => .inl (by simp)) harr⟩
 | panic ch => exact ⟨_, a1, w1, ⟨st1, hq1, hrel1⟩, .pass (x := .inLoop code) rfl (fun _ _ => .inl (by simp)) harr⟩
 | outgrown => exact ⟨_, a1, w1, ⟨st1, hq1, hrel1⟩, .pass (x := .inLoop code) rfl (fun _ _ => .inl (by simp)) harr⟩
theorem AWp_loop_of {cx : Cx} {c : AC} {Q : Exit → St → Prop} {st : St} (h : LWp cx c Q st) : AWp cx (.loop c) Q st := by
 intro code hc hm a w hr
 have hcode := hc
 cases code <;> simp only [resCode] at hc <;> try cases hc
 case loop c1 =>
  obtain ⟨x', hx, he⟩ := map_some hc
  cases he
  intro b k cs
  obtain ⟨e, a', w', hq, harr⟩ := h c1 hx hm a w hr b k cs
  exact ⟨e, a', w', hq, .of_steps (.one step_loop) harr⟩
 case region id ops draw =>
  rcases resCode_region hcode with ⟨_, l, _, h1⟩ | ⟨_, l, _, ⟨n, _, h1⟩ | ⟨_, h1⟩ | ⟨n, _, h1⟩ | h1⟩ <;> cases h1
 all_goals simp [Option.bind_eq_some_iff] at hc
theorem LWp.mono {cx : Cx} {c : AC} {Q Q' : Exit → St → Prop} {st : St} (h : LWp cx c Q st) (hq : ∀ ex st, Q ex st → Q' ex st) : LWp cx c Q' st :=
 fun code hc hm a w hr b k cs => let ⟨e, a', w', ⟨st', h1, h2⟩, h3⟩ := h code hc hm a w hr b k cs; ⟨e, a', w', ⟨st', hq _ _ h1, h2⟩, h3⟩
def Is (e : Ex) (st' : St) : Exit → St → Prop := fun ex s => ex = e.out ∧ s = st'
structure GoodO (P : Program) (ν : Nat → FuncId) (T : Tbl) (O : Orc) : Prop where
 meth : ∀ k nm u, (nm, u) ∈ methsT T k → methOf P (tyNum T k) nm = some (ν u)
 pure : ∀ u af xs r h, T u = some af → af.lent = none → O.call u xs [] = some (r, h) → PCall P (ν u) xs (· = r)
 lent : ∀ u af ms xs hb r hb', T u = some af → af.lent = some ms → O.call u xs hb = some (r, hb') → ACall P (ν u) xs hb (hb.length + 1) (fun r1 h1 c1 => r1 = r ∧ h1 = hb' ∧ c1 = hb.length + hb'.length + 2)
 loop : ∀ k c st e st', O.loop k c st = some (e, st') → ∀ cx : Cx, cx.P = P → cx.clk0 = k + 1 → LWp cx (er ν (tyNum T) c) (Is e st') st
section
variable {P : Program} {ν : Nat → FuncId} {T : Tbl} {O : Orc}
theorem lookup_filterP (q : BId → Bool) (h : Heap) (b : BId) : (h.filter fun p => !q p.1).lookup b = if q b = true then none else h.lookup b := by
 induction h with
 | nil => simp
 | cons p h ih =>
  obtain ⟨p1, p2⟩ := p
  by_cases hp : q p1 = true
  ·rw [List.filter_cons, if_neg (by simp [hp]), ih]
   by_cases hb : b = p1
   ·subst hb; simp [hp]
   ·simp [hb]
  ·rw [List.filter_cons, if_pos (by simp [hp])]
   by_cases hb : b = p1
   ·subst hb; simp [hp]
   ·simpa [hb] using ih
theorem callX_sound (hO : GoodO P ν T O) {u : Nat} {xs : List AV} {d : Option Nat} {st st' : St} {K : St → Prop} (h : callX O T u xs d st = some st') (hK : K st') :
  callP P (ν u) xs st.heap (fun r h => K ⟨putE st.env d r, h, st.clk⟩) ∨ callB P (ν u) xs st.heap st.clk (fun r h c => K ⟨putE st.env d r, h, c⟩) := by
 unfold callX at h
 split at h
 ·cases h
 rename_i af hT
 split at h
 ·rename_i hl
  obtain ⟨ys, h1, h2⟩ := bind_some h
  obtain ⟨r, h3, h4⟩ := bind_some h2
  cases h4
  refine .inl ⟨ys, (· = r.1), h1, (hO.pure u af _ r.1 r.2 hT hl h3).wk, ?_⟩
  rintro r' rfl
  exact hK
 ·rename_i ms hl
  obtain ⟨ys, h1, h2⟩ := bind_some h
  simp only at h2
  generalize hh1 : shareIds (refsM ms xs) st.heap = h1' at *
  generalize hll : reach h1' 40 (rootsM ms xs) [] = l at *
  generalize hhp : pickH h1' l = hp at *
  split at h2
  ·rename_i hc
   obtain ⟨r, h3, h4⟩ := bind_some h2
   generalize hhb : (r.2.map fun p => (outN l (d.getD 0) p.1, rlBox true (outN l (d.getD 0)) (outG hp st.clk) p.2)) = hb' at *
   split at h4
   ·rename_i hchk
    cases h4
    simp only [Bool.and_eq_true, decide_eq_true_eq] at hchk
    obtain ⟨⟨k2, k3⟩, k4⟩ := hchk
    have hmem : ∀ b bx, hp.lookup b = some bx → h1'.lookup b = some bx := by
     intro b bx hb
     have := lookup_mem _ _ _ hb
     rw [← hhp] at this
     exact pickH_mem this
    have hin : ∀ b, (hp.lookup b).isSome = true ↔ b ∈ l := by
     intro b
     constructor
     ·intro hb
      obtain ⟨bx, hb⟩ := Option.isSome_iff_exists.1 hb
      rw [← hc.1]
      exact List.mem_map.2 ⟨_, lookup_mem _ _ _ hb, rfl⟩
     ·intro hb
      rw [← hc.1] at hb
      obtain ⟨p, hp1, rfl⟩ := List.mem_map.1 hb
      obtain ⟨x, hx⟩ := mem_lookup _ _ hp1
      rw [hx]; rfl
    have hlk : ∀ id, (h1'.filter fun p => !(l.contains p.1 || (hb'.map (·.1)).contains p.1)).lookup id = if (l.contains id || (hb'.map (·.1)).contains id) = true then none else h1'.lookup id :=
     fun id => lookup_filterP (fun b => l.contains b || (hb'.map (·.1)).contains b) h1' id
    refine .inr ⟨ms, ys, h1, hp, h1'.filter (fun p => !(l.contains p.1 || (hb'.map (·.1)).contains p.1)), _, ⟨fun id bx hid => ?_, fun id bx hid => ?_⟩, fun id hid => ?_, ACall.rl hc.1 hc.2 (by rw [hhb]; exact k2) (by
     have := hO.lent u af ms _ _ r.1 r.2 hT hl h3
     rw [List.length_map] at this
     exact this), ?_⟩
    ·rw [hh1]; exact hmem id bx hid
    ·rw [hlk] at hid
     split at hid
     ·cases hid
     ·rw [hh1]; exact hid
    ·rw [hlk, if_pos (by rw [Bool.or_eq_true]; exact .inl (by simpa using (hin id).1 hid))]
    ·rintro r' h' c' hle ⟨rfl, rfl, rfl⟩
     rw [hhb]
     refine ⟨fun id hid => ?_, k3, k4, ?_⟩
     ·obtain ⟨bx, hb⟩ := Option.isSome_iff_exists.1 hid
      have : id ∈ hb'.map (·.1) := List.mem_map.2 ⟨(id, bx), lookup_mem _ _ _ hb, rfl⟩
      rw [hlk, if_pos (by rw [Bool.or_eq_true]; exact .inr (by rw [List.contains_iff_mem]; exact this))]
     ·have e1 : st.clk + (hp.length + r.2.length + 2 - hp.length) = st.clk + r.2.length + 2 := by omega
      rw [e1]
      exact hK
   ·cases h4
  ·cases h2
theorem opX_sound (hO : GoodO P ν T O) {op : AOp} {d : Option Nat} {st st' : St} {K : St → Prop} (h : opX O T op d st = some st') (hK : K st') : opK P (mapOp ν (tyNum T) op) d st K := by
 cases op <;> simp only [opX] at h
 case call u args => exact callX_sound hO h hK
 case ifc k x =>
  cases h
  exact ⟨_, rfl, hK⟩
 case inv nm k u r args =>
  split at h
  ·rename_i t y hy
   split at h
   ·rename_i hc
    obtain ⟨rfl, hm⟩ := hc
    exact ⟨_, y, _, hy, hO.meth k nm u hm, callX_sound hO h hK⟩
   ·cases h
  ·cases h
 case bsl z zs len ps =>
  obtain ⟨q, h1, rfl⟩ := map_some h
  exact ⟨q, h1, hK⟩
 case alloc zs =>
  obtain ⟨q, h1, rfl⟩ := map_some h
  exact ⟨q, h1, hK⟩
 case store n x v =>
  obtain ⟨q, h1, rfl⟩ := map_some h
  exact ⟨q, h1, hK⟩
 case mks z zs l c =>
  obtain ⟨q, h1, rfl⟩ := map_some h
  exact ⟨q, h1, hK⟩
 case app z x y =>
  obtain ⟨q, h1, rfl⟩ := map_some h
  exact ⟨q, h1, hK⟩
 case xop k xs =>
  obtain ⟨q, h1, rfl⟩ := map_some h
  exact ⟨q, h1, hK⟩
 all_goals
  obtain ⟨q, h1, rfl⟩ := map_some h
  exact ⟨q, h1, hK⟩
theorem stepAX_sound (hO : GoodO P ν T O) {o : AO} {st st' : St} {K : St → Prop} (h : stepX O T o st = some st') (hK : K st') : stepK P (mapAO ν (tyNum T) o) st K := by
 unfold stepX at h
 unfold stepK
 simp only [mapAO]
 cases hg : o.guard with
 | none => rw [hg] at h; exact opX_sound hO h hK
 | some p =>
  obtain ⟨t, want⟩ := p
  rw [hg] at h
  simp only [gX] at h ⊢
  cases hx : st.env.get t <;> rw [hx] at h <;> simp only at h ⊢ <;> try (cases h; done)
  ·split at h
   ·rename_i hv; rw [if_pos hv]; exact opX_sound hO h hK
   ·rename_i hv; rw [if_neg hv]; cases h; exact hK
  ·cases h; exact hK
theorem runX_sound (hO : GoodO P ν T O) : ∀ (l : List AO) (st st' : St) (K : St → Prop), runX O T l st = some st' → K st' → runK P (l.map (mapAO ν (tyNum T))) st K
 | [], st, st', K, h, hK => by simp only [runX] at h; cases h; exact hK
 | o :: l, st, st', K, h, hK => by
  simp only [runX] at h
  obtain ⟨s1, h1, h2⟩ := bind_some h
  simp only [List.map_cons, runK]
  exact stepAX_sound hO h1 (runX_sound hO l s1 st' K h2 hK)
theorem opD_sound (hO : GoodO P ν T O) {op : AOp} {e : Env} {h : Heap} {older : List Heap} {x : AV} {K : AV → Prop} (hx : opD O T op e h older = some x) (hK : K x) : opQ P (mapOp ν (tyNum T) op) e h older K := by
 by_cases hap : ∃ z x0 y, op = .app z x0 y
 ·obtain ⟨z, x0, y, rfl⟩ := hap
  by_cases hc : x0 = .c (.sl [] .nl)
  ·subst hc
   exact ⟨x, hx, hK⟩
  ·exfalso
   cases x0 with
   | t n => simp [opD, stepQ] at hx
   | c a =>
    cases a
    case sl els f =>
     cases els with
     | nil => cases f <;> first | exact hc rfl | simp [opD, stepQ] at hx
     | cons r l => simp [opD, stepQ] at hx
    all_goals simp [opD, stepQ] at hx
 cases op <;> (try exact absurd ⟨_, _, _, rfl⟩ hap) <;> simp only [opD] at hx
 case call u args =>
  split at hx
  ·cases hx
  rename_i af hT
  split at hx
  ·rename_i hc
   simp only [Bool.and_eq_true] at hc
   obtain ⟨r, h1, rfl⟩ := map_some hx
   exact ⟨hc.2, r.1, (hO.pure u af _ r.1 r.2 hT (by simpa using hc.1) h1).wk, hK⟩
  ·cases hx
 case ifc k x =>
  cases hx
  exact ⟨_, rfl, trivial, hK⟩
 case inv nm k u r args =>
  split at hx
  ·rename_i t y hy
   split at hx
   ·rename_i hc0
    obtain ⟨rfl, hm⟩ := hc0
    split at hx
    ·cases hx
    rename_i af hT
    split at hx
    ·rename_i hc
     simp only [Bool.and_eq_true] at hc
     obtain ⟨r, h1, rfl⟩ := map_some hx
     exact ⟨_, y, _, hy, hO.meth k nm u hm, hc.2, r.1, (hO.pure u af _ r.1 r.2 hT (by simpa using hc.1) h1).wk, hK⟩
    ·cases hx
   ·cases hx
  ·cases hx
 case bsl z zs len ps =>
  split at hx
  ·rename_i hc
   obtain ⟨q, h1, rfl⟩ := map_some hx
   exact ⟨hc, q, h1, hK⟩
  ·cases hx
 all_goals
  obtain ⟨q, h1, h2⟩ := bind_some hx
  split at h2
  ·rename_i hc
   cases h2
   refine ⟨_, h1, ?_, hK⟩
   rcases keepD_spec hc with hc | hc
   ·simp only [mapOp]
    rw [hc]
    trivial
   ·simp only [mapOp]
    split
    ·trivial
    ·exact hc
  ·cases h2
theorem QF_later {o : AO} {e : Env} {h' : Heap} {x : AV} (hf : o.op.free = false) (hw : o.op.writes = false) (hg : o.guard = none ∨ ∃ t want, o.guard = some (t, want) ∧ e.get t = .b want) (hs : stepQ o.op e.get h' = some x) : QF P h' (mapAO ν (tyNum T) o) e.get x := by
 have hq : QOp P (mapOp ν (tyNum T) o.op) e.get h' x := by
  obtain ⟨d, g, op⟩ := o
  by_cases hap : ∃ z x0 y, op = .app z x0 y
  ·obtain ⟨z, x0, y, rfl⟩ := hap
   by_cases hc : x0 = .c (.sl [] .nl)
   ·subst hc; cases hf
   ·exact absurd (show (AOp.app z x0 y).writes = false from hw) (by rw [writes_app hc]; simp)
  cases op <;> first | exact absurd ⟨_, _, _, rfl⟩ hap | exact hs | (cases hf; done) | (cases hw; done)
 unfold QF
 simp only [mapAO]
 rcases hg with hg | ⟨t, want, hg, ht⟩
 ·rw [hg]; exact hq
 ·rw [hg]; exact .inl ⟨ht, hq⟩
theorem QF_skip {o : AO} {e : Env} {h' : Heap} (hg : ∃ t want, o.guard = some (t, want) ∧ (e.get t = .b (!want) ∨ e.get t = .tup [])) : QF P h' (mapAO ν (tyNum T) o) e.get (.tup []) := by
 obtain ⟨t, want, hg, ht⟩ := hg
 unfold QF
 simp only [mapAO]
 rw [hg]
 exact .inr ⟨ht, by trivial⟩
theorem QF_free2 {o : AO} {e : Env} {h h' : Heap} {x : AV} (hf : o.op.free = true) (hq : QF P h (mapAO ν (tyNum T) o) e.get x) : QF P h' (mapAO ν (tyNum T) o) e.get x :=
 QF_free (o := mapAO ν (tyNum T) o) (by show (mapOp ν (tyNum T) o.op).free = true; cases hop : o.op <;> rw [hop] at hf <;> first | rfl | exact hf | cases hf) h h' hq
theorem qX_sound (hO : GoodO P ν T O) {o : AO} {e : Env} {h : Heap} {older : List Heap} {r : AV × Bool} {K : AV → Prop} (hx : qX O T o e h older = some r) (hK : K r.1) :
  qK P (mapAO ν (tyNum T) o) e h older K ∧ (r.2 = true → (o.guard = none ∨ ∃ t want, o.guard = some (t, want) ∧ e.get t = .b want)) ∧ (r.2 = false → r.1 = .tup [] ∧ ∃ t want, o.guard = some (t, want) ∧ (e.get t = .b (!want) ∨ e.get t = .tup [])) := by
 unfold qX at hx
 unfold qK
 simp only [mapAO]
 cases hg : o.guard with
 | none =>
  rw [hg] at hx
  obtain ⟨x, h1, rfl⟩ := map_some hx
  exact ⟨opD_sound hO h1 hK, fun _ => .inl rfl, fun h => by cases h⟩
 | some p =>
  obtain ⟨t, want⟩ := p
  rw [hg] at hx
  simp only at hx ⊢
  cases hx2 : e.get t with
  | b v =>
   rw [hx2] at hx
   simp only at hx ⊢
   split at hx
   ·rename_i hv
    rw [if_pos hv]
    obtain ⟨x, h1, rfl⟩ := map_some hx
    exact ⟨opD_sound hO h1 hK, fun _ => .inr ⟨t, want, rfl, by rw [hx2, hv]⟩, fun h => by cases h⟩
   ·rename_i hv
    rw [if_neg hv]
    cases hx
    refine ⟨hK, ?_, ?_⟩
    ·intro h; cases h
    intro _
    refine ⟨rfl, t, want, rfl, .inl ?_⟩
    rw [hx2]
    congr 1
    cases v <;> cases want <;> simp_all
  | tup l =>
   rw [hx2] at hx
   cases l with
   | nil =>
    simp only at hx ⊢
    cases hx
    refine ⟨hK, ?_, ?_⟩
    ·intro h; cases h
    ·intro _; exact ⟨rfl, t, want, rfl, .inr hx2⟩
   | cons c l => simp at hx
  | _ => rw [hx2] at hx; simp at hx
theorem pendOk_spec {pend : PendX} {h : Heap} (hp : pendOk pend h = true) : ∀ p ∈ pend, 0 < p.1 → stepQ p.2.1 p.2.2.1.get h = some p.2.2.2 := by
 classical
 unfold pendOk at hp
 exact of_decide_eq_true hp
def PendRel (pendX : PendX) (pend : Pend) : Prop := ∀ q ∈ pend, (∀ h', q.2 h') ∨ q.1 = 0 ∨ ∃ p ∈ pendX, p.1 = q.1 ∧ ∀ h', stepQ p.2.1 p.2.2.1.get h' = some p.2.2.2 → q.2 h'
theorem PendRel.next {pendX : PendX} {pend : Pend} (h : PendRel pendX pend) : PendRel (pendX.map fun p => (p.1 - 1, p.2)) (pend.map fun p => (p.1 - 1, p.2)) := by
 intro q hq
 obtain ⟨q0, h1, rfl⟩ := List.mem_map.1 hq
 rcases h q0 h1 with h2 | h2 | ⟨p, h2, h3, h4⟩
 ·exact .inl h2
 ·exact .inr (.inl (by simp only; omega))
 ·exact .inr (.inr ⟨_, List.mem_map.2 ⟨p, h2, rfl⟩, by simp only; omega, h4⟩)
theorem drawX_sound (hO : GoodO P ν T O) : ∀ (l : List DO) (e : Env) (h : Heap) (clk : Nat) (older : List Heap) (pendX : PendX) (pend : Pend) (st' : St) (K : St → Prop), PendRel pendX pend → drawX O T l e h clk older pendX = some st' → K st' → drawL P (l.map (mapDO ν (tyNum T))) e h clk older pend K
 | [], e, h, clk, older, pendX, pend, st', K, hpr, hx, hK => by simp only [drawX] at hx; cases hx; exact hK
 | o :: l, e, h, clk, older, pendX, pend, st', K, hpr, hx, hK => by
  simp only [drawX] at hx
  simp only [List.map_cons, drawL]
  have hw : (mapDO ν (tyNum T) o).ao.op.writes = o.ao.op.writes := by
   show (mapOp ν (tyNum T) o.ao.op).writes = _
   cases o.ao.op <;> rfl
  rw [hw]
  cases ho : o.ao.op.writes with
  | true =>
   rw [ho] at hx
   simp only at hx ⊢
   split at hx
   ·rename_i hg
    obtain ⟨q, h1, h2⟩ := bind_some hx
    split at h2
    ·rename_i hpd
     have e1 : mapOp ν (tyNum T) o.ao.op = o.ao.op := by
      cases hop : o.ao.op <;> rw [hop] at ho <;> first | rfl | (simp [AOp.writes] at ho)
     refine ⟨by show o.ao.guard = none; simpa using hg, q, ?_, fun p hp h0 => ?_, drawX_sound hO l _ _ _ _ _ _ st' K hpr.next h2 hK⟩
     ·show stepW (mapOp ν (tyNum T) o.ao.op) o.ao.dst e.get h clk = some q
      rw [e1]
      exact h1
     ·rcases hpr p hp with h3 | h3 | ⟨p', h3, h4, h5⟩
      ·exact h3 _
      ·omega
      ·exact h5 _ (pendOk_spec hpd p' h3 (by omega))
    ·cases h2
   ·cases hx
  | false =>
   rw [ho] at hx
   simp only at hx ⊢
   obtain ⟨r, h1, h2⟩ := bind_some hx
   have key := fun (K' : AV → Prop) (hk : K' r.1) => qX_sound hO (K := K') h1 hk
   refine (key _ ?_).1
   refine drawX_sound hO l _ _ _ _ _ _ st' K ?_ h2 hK
   obtain ⟨_, k1, k2⟩ := key (fun _ => True) trivial
   intro q hq
   rcases List.mem_cons.1 hq with rfl | hq
   ·cases hr2 : r.2 with
    | false =>
     obtain ⟨h3, h4⟩ := k2 hr2
     exact .inl fun h' => by
      show QF P h' (mapAO ν (tyNum T) o.ao) e.get r.1
      rw [h3]
      exact QF_skip h4
    | true =>
     cases hf : o.ao.op.free with
     | true =>
      obtain ⟨hqk, _⟩ := key (fun x => x = r.1) rfl
      obtain ⟨x, hq1, _, hxr⟩ := QF_of (o := mapAO ν (tyNum T) o.ao) (by rw [← ho]; exact hw) hqk
      subst hxr
      exact .inl fun h' => QF_free2 hf hq1
     | false =>
      by_cases hn : older.length < o.hi
      ·refine .inr (.inr ⟨(o.hi - older.length, o.ao.op, e, r.1), ?_, rfl, fun h' hs => QF_later hf ho (k1 hr2) hs⟩)
       unfold pendAdd
       rw [if_pos (by rw [hr2, hf, decide_eq_true hn]; rfl)]
       exact List.mem_cons_self
      ·exact .inr (.inl (by show o.hi - older.length = 0; omega))
   ·rcases hpr q hq with h3 | h3 | ⟨p, h3, h4, h5⟩
    ·exact .inl h3
    ·exact .inr (.inl h3)
    ·refine .inr (.inr ⟨p, ?_, h4, h5⟩)
     unfold pendAdd
     split
     ·exact List.mem_cons_of_mem _ h3
     ·exact h3
theorem headX_sound (hO : GoodO P ν T O) (tl : List AO) : ∀ (l : List AO) (e : Env) (h : Heap) (clk : Nat) (st' : St) (K : St → Prop), headX O T tl l e h clk = some st' → K st' → drawTL P (tl.map (mapAO ν (tyNum T))) (l.map (mapAO ν (tyNum T))) e h clk K
 | [], e, h, clk, st', K, hx, hK => runX_sound hO tl _ st' K hx hK
 | o :: l, e, h, clk, st', K, hx, hK => by
  simp only [headX] at hx
  obtain ⟨r, h1, h2⟩ := bind_some hx
  simp only [List.map_cons, drawTL]
  exact (qX_sound hO (K := fun x => drawTL P (tl.map (mapAO ν (tyNum T))) (l.map (mapAO ν (tyNum T))) (putE e o.dst x) h clk K) h1 (headX_sound hO tl l _ h clk st' K h2 hK)).1
theorem contB_spec {c0 : Nat} {op : AOp} {e : Env} {l : List Nat} {ν : Nat → FuncId} {τ : Nat → Nat} (h : contB c0 op e l = true) : ∀ g ∈ l, contG c0 (mapOp ν τ op) e.get g := by
 intro g hg
 unfold contB at h
 have h1 := List.all_eq_true.1 h g hg
 simp only [Bool.or_eq_true, decide_eq_true_eq, List.any_eq_true, List.contains_iff_mem] at h1
 rcases h1 with h1 | ⟨t, ht, h2⟩
 ·exact .inl h1
 ·refine .inr ⟨t, ?_, h2⟩
  cases op <;> first | exact ht | cases ht
theorem callM_sound (hO : GoodO P ν T O) {u : Nat} {xs : List AV} {d clk : Nat} {q : AV × Heap × Nat} (h : callM O T u xs d clk = some q) : ∃ m, q.2.2 = clk + m ∧ CallB P (ν u) xs clk q.1 q.2.1 m := by
 unfold callM at h
 split at h
 ·cases h
 rename_i af hT
 split at h
 ·cases h
 rename_i ms hl
 split at h
 ·rename_i hn
  obtain ⟨r, h3, h4⟩ := bind_some h
  simp only at h4
  generalize hhb : (r.2.map fun p => (outN [] d p.1, rlBox true (outN [] d) (outG [] clk) p.2)) = hb' at *
  split at h4
  ·rename_i hc
   cases h4
   obtain ⟨hnd, hg1, hg2⟩ := hc
   refine ⟨r.2.length + 2, rfl, hn, ?_, hnd, fun g hg => ?_, fun p hp g hg => ?_⟩
   ·have hA := hO.lent u af ms _ _ r.1 r.2 hT hl h3
    have := ACall.rl (ys := xs) (hp := []) (clk := clk) (d := d) (ex := af.exact) (l := []) (r0 := r.1) (hb' := r.2) (c' := 0 + r.2.length + 2) rfl List.nodup_nil (by rw [hhb]; exact hnd) (by simpa using hA)
    rw [hhb] at this
    have e : clk + (0 + r.2.length + 2 - ([] : Heap).length) = clk + (r.2.length + 2) := by simp
    rw [e] at this
    exact this
   ·have := List.all_eq_true.1 hg1 g hg
    simpa using this
   ·obtain ⟨hk, rr, hr, y, hy, hgy⟩ := hg
    have h5 := List.all_eq_true.1 hg2 p hp
    simp only [hk, if_true] at h5
    have h6 := List.all_eq_true.1 (List.all_eq_true.1 h5 rr hr) y hy
    have := List.all_eq_true.1 h6 g hgy
    simpa using this
  ·cases h4
 ·cases h
theorem lentN_spec {op : AOp} {ua : Nat × List Opd} (h : op.lentN = some ua) : op = .call ua.1 ua.2 := by
 cases op <;> simp only [AOp.lentN] at h <;> try cases h
 split at h
 ·cases h; rfl
 ·cases h
theorem headM_sound (hO : GoodO P ν T O) (tl : List AO) (h0 : Heap) (c0 : Nat) : ∀ (l : List AO) (e : Env) (h : Heap) (clk : Nat) (st' : St) (K : St → Prop), HSub h0 h → headM O T tl h0 c0 l e h clk = some st' → K st' → drawMG P h0 c0 (fun e h clk => runK P (tl.map (mapAO ν (tyNum T))) ⟨e, h, clk⟩ K) (l.map (mapAO ν (tyNum T))) e h clk
 | [], e, h, clk, st', K, _, hx, hK => runX_sound hO tl _ st' K hx hK
 | o :: l, e, h, clk, st', K, hsb, hx, hK => by
  simp only [headM] at hx
  simp only [List.map_cons, drawMG]
  have hmk : (mapAO ν (tyNum T) o).op.maker = o.op.maker := by
   obtain ⟨d, g, op⟩ := o
   cases op <;> rfl
  have hsE : (mapAO ν (tyNum T) o).op.isStore = o.op.isStore := by
   obtain ⟨d, g, op⟩ := o
   cases op <;> rfl
  have hadd : ∀ (B : Heap), (∀ p ∈ B, h.lookup p.1 = none) → HSub h0 (B ++ h) := by
   intro B hB id bx hid
   have h1 := hsb id bx hid
   rw [lookup_append, lookup_not B fun y hy => by have := hB _ hy; rw [this] at h1; cases h1]
   simpa using h1
  rw [hmk, hsE]
  cases hm : o.op.maker with
  | true =>
   rw [hm] at hx
   simp only at hx ⊢
   split at hx
   ·rename_i d hg hd
    obtain ⟨q, h1, h2⟩ := bind_some hx
    split at h2
    ·rename_i hc
     simp only [Bool.and_eq_true] at hc
     have hop : mapOp ν (tyNum T) o.op = o.op := by
      obtain ⟨d, g, op⟩ := o
      cases op <;> first | rfl | cases hm
     obtain ⟨x, hp, c'⟩ := q
     obtain ⟨bx, rfl, rfl⟩ : ∃ bx, hp = [(.loc d, bx)] ∧ c' = clk + 1 := maker_shape hm h1
     refine ⟨hg, d, x, bx, hd, by rw [show (mapAO ν (tyNum T) o).op = o.op from hop]; exact h1, by simpa using hc.1, fun g hgb => ?_, headM_sound hO tl h0 c0 l _ _ _ st' K (hadd [(.loc d, bx)] (by simpa using hc.1)) h2 hK⟩
     obtain ⟨hk, r, hr, y, hy, hgy⟩ := hgb
     have h3 := hc.2
     simp only [boxB, List.all_cons, List.all_nil, Bool.and_true, hk, if_true, List.all_eq_true] at h3
     exact contB_spec (h3 r hr y hy) g hgy
    ·cases h2
   ·cases hx
  | false =>
   rw [hm] at hx
   simp only at hx ⊢
   cases hst : o.op.isStore with
   | true =>
    rw [hst] at hx
    simp only at hx ⊢
    split at hx
    ·rename_i hg hd
     obtain ⟨q, h1, h2⟩ := bind_some hx
     split at h2
     ·rename_i hfr
      obtain ⟨dd, gg, op⟩ := o
      simp only at hg hd hst h1 hfr
      subst hg hd
      cases op <;> try (cases hst; done)
      rename_i n x v
      simp only [stepW] at h1
      obtain ⟨h', e1, rfl⟩ := map_some h1
      refine ⟨rfl, rfl, h', ?_, ?_, headM_sound hO tl h0 c0 l e h' clk st' K ?_ h2 hK⟩
      ·show stepW (.store n x v) none e.get h clk = _
       simp only [stepW, e1]
       rfl
      all_goals
       intro id bx hid
       have h3 := hsb id bx hid
       simp only [freshS] at hfr
       unfold storeAV at e1
       split at e1
       ·rename_i id2 g z i o hx2
        rw [hx2] at hfr
        simp only [Option.isNone_iff_eq_none] at hfr
        obtain ⟨bx2, _, e2⟩ := bind_some e1
        obtain ⟨r2, _, e3⟩ := bind_some e2
        obtain ⟨cs, _, e4⟩ := bind_some e3
        split at e4
        ·cases e4
         have hne : (id == id2) = false := by
          cases hb : id == id2 with
          | false => rfl
          | true => have := eq_of_beq hb; subst this; rw [hid] at hfr; cases hfr
         simp only [List.lookup_cons, hne]
         exact h3
        ·cases e4
       ·cases e1
     ·cases h2
    ·cases hx
   | false =>
   rw [hst] at hx
   simp only at hx ⊢
   cases hlN : o.op.lentN with
   | some ua =>
    rw [hlN] at hx
    simp only at hx
    split at hx
    ·rename_i d hg hd
     obtain ⟨q, h1, h2⟩ := bind_some hx
     split at h2
     ·rename_i hfr
      obtain ⟨m, hm2, hcb⟩ := callM_sound hO h1
      obtain ⟨dd, gg, op⟩ := o
      simp only at hg hd hlN
      subst hg hd
      have hop := lentN_spec hlN
      subst hop
      rw [hm2] at h2
      exact .inr ⟨rfl, ν ua.1, ua.2, d, q.1, q.2.1, m, rfl, rfl, hcb, fun p hp => by simpa using List.all_eq_true.1 hfr p hp, headM_sound hO tl h0 c0 l _ _ _ st' K (hadd _ fun p hp => by simpa using List.all_eq_true.1 hfr p hp) h2 hK⟩
     ·cases h2
    ·cases hx
   | none =>
   rw [hlN] at hx
   simp only at hx
   obtain ⟨x, h1, h2⟩ := bind_some hx
   split at h2
   ·rename_i hc
    refine .inl ?_
    exact (qX_sound hO (K := fun x => (∀ g ∈ gnA x, contG c0 (mapAO ν (tyNum T) o).op e.get g) ∧ drawMG P h0 c0 (fun e h clk => runK P (tl.map (mapAO ν (tyNum T))) ⟨e, h, clk⟩ K) (l.map (mapAO ν (tyNum T))) (putE e o.dst x) h clk) h1 ⟨contB_spec hc, headM_sound hO tl h0 c0 l _ h clk st' K hsb h2 hK⟩).1
   ·cases h2
theorem snd_block {cx : Cx} {c : AC} {st : St} {id : Nat} {o : Option (Ex × St)} {e : Ex} {st' : St} (h0 : ∀ e1 s1, o = some (e1, s1) → AWp cx c (Is e1 s1) st)
  (h : (o.bind fun r => match r.1 with | .x j => if j = id then some (Ex.n, r.2) else some r | _ => some r) = some (e, st')) : AWp cx (.block id c) (Is e st') st := by
 obtain ⟨⟨e1, s1⟩, h1, h2⟩ := bind_some h
 refine AWp_block ((h0 e1 s1 h1).mono ?_)
 rintro ex s ⟨rfl, rfl⟩
 cases e1 with
 | n => simp only at h2; cases h2; exact ⟨rfl, rfl⟩
 | x j =>
  simp only at h2
  show blockK id _ (.exit j) _
  simp only [blockK]
  split at h2
  ·rename_i hj; rw [if_pos hj]; cases h2; exact ⟨rfl, rfl⟩
  ·rename_i hj; rw [if_neg hj]; cases h2; exact ⟨rfl, rfl⟩
 | r => simp only at h2; cases h2; exact ⟨rfl, rfl⟩
theorem snd_note {k : Nat} {cx : Cx} (hk : cx.clk0 = k + 1) {c : AC} {st : St} {g : Gh} {o : Option (Ex × St)} {e : Ex} {st' : St} (h0 : ∀ e1 s1, o = some (e1, s1) → AWp cx c (Is e1 s1) st)
  (h : (o.bind fun r => match r.1 with | .n => (ghS k g r.2).map fun s => (Ex.n, s) | _ => some r) = some (e, st')) : AWp cx c (Is e st') st := by
 obtain ⟨⟨e1, s1⟩, h1, h2⟩ := bind_some h
 intro code hc hm a w hr
 refine wp_mono (h0 e1 s1 h1 code hc hm a w hr) ?_
 rintro ex a' w' ⟨s, ⟨rfl, rfl⟩, hr'⟩
 cases e1 with
 | n =>
  simp only at h2
  obtain ⟨s2, h3, h4⟩ := map_some h2
  cases h4
  exact ⟨_, ⟨rfl, rfl⟩, hr'.gh hk h3⟩
 | x id => simp only at h2; cases h2; exact ⟨_, ⟨rfl, rfl⟩, hr'⟩
 | r => simp only at h2; cases h2; exact ⟨_, ⟨rfl, rfl⟩, hr'⟩
theorem evX_sound (hO : GoodO P ν T O) {k : Nat} {cx : Cx} (hP : cx.P = P) (hk : cx.clk0 = k + 1) : ∀ (c : AX) (st : St) (e : Ex) (st' : St), evX O T k c st = some (e, st') → AWp cx (er ν (tyNum T) c) (Is e st') st
 | .skip, st, e, st', h => by simp only [evX] at h; cases h; exact AWp_skip ⟨rfl, rfl⟩
 | .reg l, st, e, st', h => by
  simp only [evX] at h
  obtain ⟨s, h1, h2⟩ := map_some h
  cases h2
  refine AWp_reg ?_
  rw [hP]
  exact runX_sound hO l st st' _ h1 ⟨rfl, rfl⟩
 | .draw l, st, e, st', h => by
  simp only [evX] at h
  obtain ⟨s, h1, h2⟩ := map_some h
  cases h2
  refine AWp_draw ?_
  rw [hP]
  exact drawX_sound hO l _ _ _ _ _ _ st' _ (fun q hq => by simp at hq) h1 ⟨rfl, rfl⟩
 | .drawT hd tl, st, e, st', h => by
  simp only [evX] at h
  obtain ⟨s, h1, h2⟩ := map_some h
  cases h2
  refine AWp_drawT ?_
  rw [hP]
  exact headX_sound hO tl hd _ _ _ st' _ h1 ⟨rfl, rfl⟩
 | .drawM hd tl, st, e, st', h => by
  simp only [evX] at h
  obtain ⟨s, h1, h2⟩ := map_some h
  cases h2
  refine AWp_drawM ?_
  rw [hP]
  exact headM_sound hO tl _ _ hd _ _ _ st' _ (fun _ _ h => h) h1 ⟨rfl, rfl⟩
 | .bad, st, e, st', h => by simp only [evX] at h; cases h
 | .prim f, st, e, st', h => by simp only [evX] at h; cases h
 | .seq a b, st, e, st', h => by
  simp only [evX] at h
  obtain ⟨⟨e1, s1⟩, h1, h2⟩ := bind_some h
  refine AWp_seq ((evX_sound hO hP hk a st e1 s1 h1).mono ?_)
  rintro ex s ⟨rfl, rfl⟩
  cases e1 with
  | n => exact evX_sound hO hP hk b _ e st' h2
  | x id => simp only at h2; cases h2; exact ⟨rfl, rfl⟩
  | r => simp only at h2; cases h2; exact ⟨rfl, rfl⟩
 | .cond c x y, st, e, st', h => by
  simp only [evX] at h
  split at h
  ·rename_i t ht
   refine AWp_cond ht (fun h1 => ?_) (fun h1 => ?_)
   ·subst h1; exact evX_sound hO hP hk x st e st' (by simpa using h)
   ·subst h1; exact evX_sound hO hP hk y st e st' (by simpa using h)
  ·cases h
 | .block id c, st, e, st', h => by
  simp only [evX] at h
  obtain ⟨⟨e1, s1⟩, h1, h2⟩ := bind_some h
  refine AWp_block ((evX_sound hO hP hk c st e1 s1 h1).mono ?_)
  rintro ex s ⟨rfl, rfl⟩
  cases e1 with
  | n => simp only at h2; cases h2; exact ⟨rfl, rfl⟩
  | x j =>
   simp only at h2
   show blockK id _ (.exit j) _
   simp only [blockK]
   split at h2
   ·rename_i hj; rw [if_pos hj]; cases h2; exact ⟨rfl, rfl⟩
   ·rename_i hj; rw [if_neg hj]; cases h2; exact ⟨rfl, rfl⟩
  | r => simp only at h2; cases h2; exact ⟨rfl, rfl⟩
 | .loop c, st, e, st', h => AWp_loop_of (hO.loop k c st e st' (by simpa only [evX] using h) cx hP hk)
 | .exit id, st, e, st', h => by simp only [evX] at h; cases h; exact AWp_exit ⟨rfl, rfl⟩
 | .ret, st, e, st', h => by simp only [evX] at h; cases h; exact AWp_ret ⟨rfl, rfl⟩
 | .note c g, st, e, st', h => by
  simp only [evX] at h
  obtain ⟨⟨e1, s1⟩, h1, h2⟩ := bind_some h
  intro code hc hm a w hr
  refine wp_mono (evX_sound hO hP hk c st e1 s1 h1 code hc hm a w hr) ?_
  rintro ex a' w' ⟨s, ⟨rfl, rfl⟩, hr'⟩
  cases e1 with
  | n =>
   simp only at h2
   obtain ⟨s2, h3, h4⟩ := map_some h2
   cases h4
   exact ⟨_, ⟨rfl, rfl⟩, hr'.gh hk h3⟩
  | x id => simp only at h2; cases h2; exact ⟨_, ⟨rfl, rfl⟩, hr'⟩
  | r => simp only at h2; cases h2; exact ⟨_, ⟨rfl, rfl⟩, hr'⟩
 | .lp id g c g2, st, e, st', h => by
  simp only [evX] at h
  obtain ⟨s, h1, h2⟩ := bind_some h
  have h3 : ((O.loop k c s).bind fun r => match r.1 with | .x j => if j = id then some (Ex.n, r.2) else some r | _ => some r).bind (fun r => match r.1 with | .n => (ghS k g2 r.2).map fun s => (Ex.n, s) | _ => some r) = some (e, st') := by
   rw [← h2]
   cases O.loop k c s with
   | none => rfl
   | some r =>
    obtain ⟨e1, s1⟩ := r
    cases e1 with
    | n => rfl
    | r => rfl
    | x j =>
     simp only [Option.bind_some]
     split <;> rfl
  have h4 : AWp cx (.block id (.loop (er ν (tyNum T) c))) (Is e st') s :=
   snd_note hk (fun e1 s1 he => snd_block (fun e2 s2 he2 => AWp_loop_of (hO.loop k c s e2 s2 he2 cx hP hk)) he) h3
  intro code hc hm a w hr
  exact h4 code hc hm a w (hr.gh hk h1)
 | .scope c, st, e, st', h => by
  simp only [evX] at h
  refine AWp_scope ((evX_sound hO hP hk c st e st' h).mono ?_)
  rintro ex s ⟨rfl, rfl⟩
  exact ⟨fun l => by cases e <;> (intro he; cases he), rfl, rfl⟩
 | .pre g c, st, e, st', h => by
  simp only [evX] at h
  obtain ⟨s, h1, h2⟩ := bind_some h
  intro code hc hm a w hr
  exact evX_sound hO hP hk c s e st' h2 code hc hm a w (hr.gh hk h1)
theorem acall_norm {f : FuncId} {xs : List AV} {hb : Heap} {k : Nat} {ex : Bool} {x : AV} {hh : Heap} {cc : Nat} (h : ACall P f xs hb (k + 1) (fun r h c => r = x ∧ h = hh ∧ c = cc)) :
  ACall P f xs hb (k + 1) (fun r h c => r = (normS ex k [0] ⟨[(0, x)], hh, cc⟩).env.get 0 ∧ h = (normS ex k [0] ⟨[(0, x)], hh, cc⟩).heap ∧ c = (normS ex k [0] ⟨[(0, x)], hh, cc⟩).clk) := by
 refine ⟨h.1, fun w S M cargs hl hC hheap hS hM => (h.2 w S M cargs hl hC hheap hS hM).mono ?_⟩
 intro e w' ⟨v, r, h', S', M', clk', he, ⟨h1, h2, h3⟩, hCr, hw⟩
 subst h1
 subst h2
 subst h3
 have hrel : Rel ⟨P, 1, w, S, M, k + 1⟩ ⟨[(0, r)], h', clk'⟩ { tmps := #[v], defers := [] } w' := by
  refine ⟨S', M', rfl, rfl, fun t => ?_, hw 1⟩
  cases t with
  | zero => simpa using hCr
  | succ t => simp; exact .p (.dead _)
 obtain ⟨S2, M2, hr2⟩ := hrel.norm (ex := ex) (k := k) (live := [0]) rfl
 refine ⟨v, _, _, S2, M2, _, he, ⟨rfl, rfl, rfl⟩, by simpa using hr2.env 0, fun nt => ?_⟩
 have := hr2.wr
 exact ⟨this.heap, this.ext, this.fr, this.Snew, this.Slt, this.Mnew⟩
theorem PCall.res {f : FuncId} {xs : List AV} {y : AV} {ex : Bool} (h : PCall P f xs (· = y)) : PCall P f xs (· = wkIf ex y) :=
 ⟨h.1, fun w S cargs hl hC hS => (h.2 w S cargs hl hC hS).mono fun _ _ ⟨v, r, he, hr, hb, hC⟩ => ⟨v, _, he, rfl, hb, by have hr : r = y := hr; rw [← hr]; exact hC.wkIf ex⟩⟩
def TOk (P : Program) (ν : Nat → FuncId) (T : Tbl) : Prop := ∀ u af, T u = some af →
 match af.body.isPrim with
 | some f => ∀ xs r, f xs = some r → PCall P (ν u) xs (· = r)
 | none => if af.body.isBad = true then ∀ m ∈ methsA af, methOf P af.np m.1 = some (ν m.2) else resFn P (ν u) = some (erF ν (tyNum T) af)
theorem GoodO.next (hT : TOk P ν T) (hm : P.follows .mixedOrders = true) (hO : GoodO P ν T O) : GoodO P ν T (nextO T O) := by
 have bad_no : ∀ (af : AFx) (k : Nat) (s : St) (r : Ex × St), af.body.isBad = true → evX O T k af.body s = some r → False := by
  intro af k s r hb he
  cases hbd : af.body <;> rw [hbd] at hb he <;> first | (cases hb; done) | (simp only [evX] at he; cases he)
 refine ⟨hO.meth, fun u af xs r h hu hl hc => ?_, fun u af ms xs hb r hb' hu hl hc => ?_, fun k c st e st' h cx hP hk => ?_⟩
 ·have hTu := hT u af hu
  simp only [nextO, hu] at hc
  split at hc
  ·rename_i f hf
   rw [hf] at hTu
   split at hc
   ·obtain ⟨x, h1, h2⟩ := map_some hc
    cases h2
    exact hTu xs _ h1
   ·cases hc
  rename_i hf
  rw [hf] at hTu
  simp only at hTu
  split at hc
  ·rename_i hcond
   obtain ⟨⟨e, s⟩, h1, h2⟩ := bind_some hc
   rw [if_neg (fun hb => bad_no af _ _ _ hb h1)] at hTu
   have key : ∃ x y, (e = .n ∨ e = .r) ∧ resAV s af.res = some x ∧ frz s.heap x = some y ∧ r = wkIf af.exact y := by
    unfold endX at h2
    cases e with
    | x id => simp at h2
    | n =>
     simp only at h2
     obtain ⟨x, h3, h4⟩ := bind_some h2
     rw [hl] at h4
     obtain ⟨y, h5, h6⟩ := map_some h4
     cases h6
     exact ⟨x, y, .inl rfl, h3, h5, rfl⟩
    | r =>
     simp only at h2
     obtain ⟨x, h3, h4⟩ := bind_some h2
     rw [hl] at h4
     obtain ⟨y, h5, h6⟩ := map_some h4
     cases h6
     exact ⟨x, y, .inr rfl, h3, h5, rfl⟩
   obtain ⟨x, y, he, h3, h5, rfl⟩ := key
   refine PCall.res (pcall_of2 hTu hm hcond.1 fun cx hP hnt hclk => ((evX_sound hO hP hclk af.body _ e s h1).mono ?_))
   rintro ex s' ⟨rfl, rfl⟩
   exact ⟨by rcases he with rfl | rfl; exact .inl rfl; exact .inr rfl, x, y, h3, h5, rfl⟩
  ·cases hc
 ·have hTu := hT u af hu
  simp only [nextO, hu] at hc
  split at hc
  ·rename_i f hf
   split at hc
   ·rename_i hcond
    rw [hcond.2] at hl
    cases hl
   ·cases hc
  rename_i hf
  rw [hf] at hTu
  simp only at hTu
  split at hc
  ·rename_i hcond
   obtain ⟨⟨e, s⟩, h1, h2⟩ := bind_some hc
   rw [if_neg (fun hb => bad_no af _ _ _ hb h1)] at hTu
   have key : ∃ x, (e = .n ∨ e = .r) ∧ resAV s af.res = some x ∧ r = (normS af.exact hb.length [0] ⟨[(0, x)], s.heap, s.clk⟩).env.get 0 ∧ hb' = (normS af.exact hb.length [0] ⟨[(0, x)], s.heap, s.clk⟩).heap := by
    unfold endX at h2
    cases e with
    | x id => simp at h2
    | n =>
     simp only at h2
     obtain ⟨x, h3, h4⟩ := bind_some h2
     rw [hl] at h4
     cases h4
     exact ⟨x, .inl rfl, h3, rfl, rfl⟩
    | r =>
     simp only at h2
     obtain ⟨x, h3, h4⟩ := bind_some h2
     rw [hl] at h4
     cases h4
     exact ⟨x, .inr rfl, h3, rfl, rfl⟩
   obtain ⟨x, he, h3, rfl, rfl⟩ := key
   have hA : ACall P (ν u) xs hb (hb.length + 1) (fun r h c => r = x ∧ h = s.heap ∧ c = s.clk) := by
    refine acall_of2 hTu hm hcond.1 fun cx hP hnt hclk => ((evX_sound hO hP hclk af.body _ e s h1).mono ?_)
    rintro ex s' ⟨rfl, rfl⟩
    exact ⟨by rcases he with rfl | rfl; exact .inl rfl; exact .inr rfl, x, h3, rfl, rfl, rfl⟩
   have hB := acall_norm (ex := af.exact) hA
   refine ⟨hB.1, fun w S M cargs hl hC hheap hS hM => (hB.2 w S M cargs hl hC hheap hS hM).mono ?_⟩
   intro e w' ⟨v, r, h', S', M', clk', he, ⟨a1, a2, a3⟩, hCr, hw⟩
   refine ⟨v, r, h', S', M', clk', he, ⟨a1, a2, ?_⟩, hCr, hw⟩
   rw [a3]
   simp only [normS, List.length_map]
  ·cases hc
 ·simp only [nextO] at h
  obtain ⟨⟨e1, s1⟩, h1, h2⟩ := bind_some h
  refine LWp_step ((evX_sound hO hP hk c st e1 s1 h1).mono ?_)
  rintro ex s ⟨rfl, rfl⟩
  cases e1 with
  | n => exact hO.loop k c _ e st' h2 cx hP hk
  | x id => simp only at h2; cases h2; exact ⟨rfl, rfl⟩
  | r => simp only at h2; cases h2; exact ⟨rfl, rfl⟩
theorem meth0 (hT : TOk P ν T) : ∀ k nm u, (nm, u) ∈ methsT T k → methOf P (tyNum T k) nm = some (ν u) := by
 intro k nm u hm
 unfold methsT at hm
 unfold tyNum
 cases hT' : T (1000000 + k) with
 | none => rw [hT'] at hm; cases hm
 | some af =>
  rw [hT'] at hm
  simp only at hm ⊢
  split at hm
  ·rename_i hb
   have := hT _ af hT'
   have hp : af.body.isPrim = none := by cases hbd : af.body <;> rw [hbd] at hb <;> first | rfl | cases hb
   rw [hp] at this
   simp only [if_pos hb] at this
   exact this (nm, u) hm
  ·cases hm
theorem GoodO.orcN (hT : TOk P ν T) (hm : P.follows .mixedOrders = true) : ∀ n, GoodO P ν T (orcN T n)
 | 0 => ⟨meth0 hT, fun _ _ _ _ _ _ _ h => (by cases h), fun _ _ _ _ _ _ _ _ _ h => (by cases h), fun _ _ _ _ _ h => (by cases h)⟩
 | n + 1 => (GoodO.orcN hT hm n).next hT hm
end
end
section
open Go.RowKit
inductive Qy where
 | call (u : Nat) (xs : List AV) (hb : Heap) (r : AV × Heap)
 | loop (k : Nat) (c : AX) (st : St) (r : Ex × St)
def Holds (O : Orc) : Qy → Prop
 | .call u xs hb r => O.call u xs hb = some r
 | .loop k c st r => O.loop k c st = some r
def Fin1 {α : Type} (f : Orc → Option α) : Prop := ∀ O r, f O = some r → ∃ L : List Qy, (∀ q ∈ L, Holds O q) ∧ ∀ O', (∀ q ∈ L, Holds O' q) → f O' = some r
theorem Fin1.const {α : Type} (a : Option α) : Fin1 fun _ => a := fun _ _ h => ⟨[], by simp, fun _ _ => h⟩
theorem Fin1.bind {α β : Type} {g : Orc → Option α} {h : Orc → α → Option β} (hg : Fin1 g) (hh : ∀ x, Fin1 fun O => h O x) : Fin1 fun O => (g O).bind (h O) := by
 intro O r he
 obtain ⟨x, h1, h2⟩ := bind_some he
 obtain ⟨L1, a1, a2⟩ := hg O x h1
 obtain ⟨L2, b1, b2⟩ := hh x O r h2
 refine ⟨L1 ++ L2, fun q hq => ?_, fun O' hO' => ?_⟩
 ·rcases List.mem_append.1 hq with hq | hq
  ·exact a1 q hq
  ·exact b1 q hq
 ·have e1 := a2 O' fun q hq => hO' q (List.mem_append_left _ hq)
  have e2 := b2 O' fun q hq => hO' q (List.mem_append_right _ hq)
  simp only at e2
  simp only [e1, Option.bind_some, e2]
theorem Fin1.map {α β : Type} {g : Orc → Option α} (hg : Fin1 g) (f : α → β) : Fin1 fun O => (g O).map f := by
 have := hg.bind (h := fun _ x => some (f x)) fun x => .const _
 simpa only [Option.map_eq_bind, Function.comp_def] using this
theorem Fin1.call (u : Nat) (xs : List AV) (hb : Heap) : Fin1 fun O => O.call u xs hb := fun O r h => ⟨[.call u xs hb r], by simpa [Holds] using h, fun O' h' => by simpa [Holds] using h'⟩
theorem Fin1.loop (k : Nat) (c : AX) (st : St) : Fin1 fun O => O.loop k c st := fun O r h => ⟨[.loop k c st r], by simpa [Holds] using h, fun O' h' => by simpa [Holds] using h'⟩
section
variable (T : Tbl)
theorem callX_fin (u : Nat) (xs : List AV) (d : Option Nat) (st : St) : Fin1 fun O => callX O T u xs d st := by
 unfold callX
 split
 ·exact .const _
 ·split
  ·refine Fin1.bind (.const _) fun ys => Fin1.bind (.call _ _ _) fun r => .const _
  ·refine Fin1.bind (.const _) fun ys => ?_
   simp only
   split
   ·refine Fin1.bind (.call _ _ _) fun r => .const _
   ·exact .const _
theorem opX_fin (op : AOp) (d : Option Nat) (st : St) : Fin1 fun O => opX O T op d st := by
 cases op <;> simp only [opX] <;> first | exact .const _ | exact callX_fin T _ _ _ _ | (split <;> first | exact .const _ | (split <;> first | exact .const _ | exact callX_fin T _ _ _ _))
theorem stepX_fin (o : AO) (st : St) : Fin1 fun O => stepX O T o st := by
 unfold stepX
 split
 ·exact opX_fin T _ _ _
 ·unfold gX
  split
  ·split
   ·exact opX_fin T _ _ _
   ·exact .const _
  ·exact .const _
  ·exact .const _
theorem runX_fin : ∀ (l : List AO) (st : St), Fin1 fun O => runX O T l st
 | [], st => .const _
 | o :: l, st => by
  simp only [runX]
  exact (stepX_fin T o st).bind fun s => runX_fin l s
theorem opD_fin (op : AOp) (e : Env) (h : Heap) (older : List Heap) : Fin1 fun O => opD O T op e h older := by
 by_cases hap : ∃ z x0 y, op = .app z x0 y
 ·obtain ⟨z, x0, y, rfl⟩ := hap
  by_cases hc : x0 = .c (.sl [] .nl)
  ·subst hc; exact .const _
  ·simp only [opD_app hc]; exact .const _
 cases op <;> (try exact absurd ⟨_, _, _, rfl⟩ hap) <;> simp only [opD] <;> try exact .const _
 case call =>
  split
  ·exact .const _
  ·split
   ·exact (Fin1.call _ _ _).map _
   ·exact .const _
 case inv =>
  split
  ·split
   ·split
    ·exact .const _
    ·split
     ·exact (Fin1.call _ _ _).map _
     ·exact .const _
   ·exact .const _
  ·exact .const _
theorem qX_fin (o : AO) (e : Env) (h : Heap) (older : List Heap) : Fin1 fun O => qX O T o e h older := by
 unfold qX
 split
 ·exact (opD_fin T _ _ _ _).map _
 ·split
  ·split
   ·exact (opD_fin T _ _ _ _).map _
   ·exact .const _
  ·exact .const _
  ·exact .const _
theorem drawX_fin : ∀ (l : List DO) (e : Env) (h : Heap) (clk : Nat) (older : List Heap) (pend : PendX), Fin1 fun O => drawX O T l e h clk older pend
 | [], e, h, clk, older, pend => .const _
 | o :: l, e, h, clk, older, pend => by
  simp only [drawX]
  split
  ·split
   ·refine Fin1.bind (.const _) fun q => ?_
    split
    ·exact drawX_fin l _ _ _ _ _
    ·exact .const _
   ·exact .const _
  ·exact (qX_fin T _ _ _ _).bind fun x => drawX_fin l _ _ _ _ _
theorem headX_fin (tl : List AO) : ∀ (l : List AO) (e : Env) (h : Heap) (clk : Nat), Fin1 fun O => headX O T tl l e h clk
 | [], e, h, clk => runX_fin T tl _
 | o :: l, e, h, clk => by
  simp only [headX]
  exact (qX_fin T _ _ _ _).bind fun x => headX_fin tl l _ _ _
theorem callM_fin (u : Nat) (xs : List AV) (d clk : Nat) : Fin1 fun O => callM O T u xs d clk := by
 unfold callM
 split
 ·exact .const _
 ·split
  ·exact .const _
  ·split
   ·refine (Fin1.call _ _ _).bind fun r => ?_
    exact .const _
   ·exact .const _
theorem headM_fin (tl : List AO) (h0 : Heap) (c0 : Nat) : ∀ (l : List AO) (e : Env) (h : Heap) (clk : Nat), Fin1 fun O => headM O T tl h0 c0 l e h clk
 | [], e, h, clk => runX_fin T tl _
 | o :: l, e, h, clk => by
  simp only [headM]
  split
  ·split
   ·refine Fin1.bind (.const _) fun q => ?_
    split
    ·exact headM_fin tl h0 c0 l _ _ _
    ·exact .const _
   ·exact .const _
  ·split
   ·split
    ·refine Fin1.bind (.const _) fun q => ?_
     split
     ·exact headM_fin tl h0 c0 l _ _ _
     ·exact .const _
    ·exact .const _
   split
   ·split
    ·refine (callM_fin T _ _ _ _).bind fun q => ?_
     split
     ·exact headM_fin tl h0 c0 l _ _ _
     ·exact .const _
    ·exact .const _
   ·refine (qX_fin T _ _ _ _).bind fun x => ?_
    split
    ·exact headM_fin tl h0 c0 l _ _ _
    ·exact .const _
theorem evX_fin (k : Nat) : ∀ (c : AX) (st : St), Fin1 fun O => evX O T k c st
 | .skip, st => .const _
 | .reg l, st => by simp only [evX]; exact (runX_fin T l st).map _
 | .draw l, st => by simp only [evX]; exact (drawX_fin T l _ _ _ _ _).map _
 | .drawT hd tl, st => by simp only [evX]; exact (headX_fin T tl hd _ _ _).map _
 | .drawM hd tl, st => by simp only [evX]; exact (headM_fin T tl _ _ hd _ _ _).map _
 | .bad, st => .const _
 | .prim f, st => .const _
 | .seq a b, st => by
  simp only [evX]
  refine (evX_fin k a st).bind fun r => ?_
  obtain ⟨e, s⟩ := r
  cases e
  ·exact evX_fin k b s
  ·exact .const _
  ·exact .const _
 | .cond c x y, st => by
  simp only [evX]
  split
  ·split
   ·exact evX_fin k x st
   ·exact evX_fin k y st
  ·exact .const _
 | .block id c, st => by simp only [evX]; exact (evX_fin k c st).bind fun r => .const _
 | .loop c, st => by simp only [evX]; exact .loop _ _ _
 | .exit id, st => .const _
 | .ret, st => .const _
 | .note c g, st => by simp only [evX]; exact (evX_fin k c st).bind fun r => .const _
 | .pre g c, st => by simp only [evX]; exact Fin1.bind (.const _) fun s => evX_fin k c s
 | .scope c, st => by simp only [evX]; exact evX_fin k c st
 | .lp id g c g2, st => by simp only [evX]; exact Fin1.bind (.const _) fun s => (Fin1.loop _ _ _).bind fun r => .const _
theorem nextO_call_fin (u : Nat) (xs : List AV) (hb : Heap) : Fin1 fun O => (nextO T O).call u xs hb := by
 simp only [nextO]
 split
 ·exact .const _
 ·split
  ·exact .const _
  ·split
   ·exact (evX_fin T _ _ _).bind fun r => .const _
   ·exact .const _
theorem nextO_loop_fin (k : Nat) (c : AX) (st : St) : Fin1 fun O => (nextO T O).loop k c st := by
 simp only [nextO]
 refine (evX_fin T k c st).bind fun r => ?_
 obtain ⟨e, s⟩ := r
 cases e
 ·exact .loop _ _ _
 ·exact .const _
 ·exact .const _
theorem orcN_mono : ∀ (n : Nat) (q : Qy), Holds (orcN T n) q → Holds (orcN T (n + 1)) q
 | 0, q, h => by cases q <;> cases h
 | n + 1, .call u xs hb r, h => by
  obtain ⟨L, h1, h2⟩ := nextO_call_fin T u xs hb _ r h
  exact h2 _ fun q hq => orcN_mono n q (h1 q hq)
 | n + 1, .loop k c st r, h => by
  obtain ⟨L, h1, h2⟩ := nextO_loop_fin T k c st _ r h
  exact h2 _ fun q hq => orcN_mono n q (h1 q hq)
theorem orcN_le {n m : Nat} (h : n ≤ m) (q : Qy) (hq : Holds (orcN T n) q) : Holds (orcN T m) q := by
 induction h with
 | refl => exact hq
 | step _ ih => exact orcN_mono T _ q ih
open Classical in
noncomputable def lim {α : Type} (f : Nat → Option α) : Option α := if h : ∃ n a, f n = some a then f (Classical.choose h) else none
theorem lim_some {α : Type} {f : Nat → Option α} (hm : ∀ n m a, n ≤ m → f n = some a → f m = some a) (a : α) : lim f = some a ↔ ∃ n, f n = some a := by
 unfold lim
 constructor
 ·intro h
  split at h
  ·exact ⟨_, h⟩
  ·cases h
 ·intro ⟨n, h⟩
  have hex : ∃ n a, f n = some a := ⟨n, a, h⟩
  rw [dif_pos hex]
  obtain ⟨b, hb⟩ := Classical.choose_spec hex
  have h1 := hm _ _ _ (Nat.le_max_left n (Classical.choose hex)) h
  have h2 := hm _ _ _ (Nat.le_max_right n (Classical.choose hex)) hb
  rw [hb, ← h2, h1]
noncomputable def orc : Orc := ⟨fun u xs hb => lim fun n => (orcN T n).call u xs hb, fun k c st => lim fun n => (orcN T n).loop k c st⟩
theorem orc_holds (q : Qy) : Holds (orc T) q ↔ ∃ n, Holds (orcN T n) q := by
 cases q with
 | call u xs hb r => exact lim_some (fun n m a hnm h => orcN_le T hnm (.call u xs hb a) h) r
 | loop k c st r => exact lim_some (fun n m a hnm h => orcN_le T hnm (.loop k c st a) h) r
theorem orc_all {L : List Qy} (h : ∀ q ∈ L, Holds (orc T) q) : ∃ n, ∀ q ∈ L, Holds (orcN T n) q := by
 induction L with
 | nil => exact ⟨0, by simp⟩
 | cons q L ih =>
  obtain ⟨n, hn⟩ := ih fun q hq => h q (List.mem_cons_of_mem _ hq)
  obtain ⟨m, hm⟩ := (orc_holds T q).1 (h q List.mem_cons_self)
  refine ⟨max n m, fun x hx => ?_⟩
  rcases List.mem_cons.1 hx with rfl | hx
  ·exact orcN_le T (Nat.le_max_right _ _) _ hm
  ·exact orcN_le T (Nat.le_max_left _ _) _ (hn x hx)
theorem orc_call (u : Nat) (xs : List AV) (hb : Heap) : (orc T).call u xs hb = (nextO T (orc T)).call u xs hb := by
 apply Option.ext
 intro r
 constructor
 ·intro h
  obtain ⟨n, hn⟩ := (orc_holds T (.call u xs hb r)).1 h
  cases n with
  | zero => cases hn
  | succ n =>
   obtain ⟨L, h1, h2⟩ := nextO_call_fin T u xs hb _ r hn
   exact h2 _ fun q hq => (orc_holds T q).2 ⟨n, h1 q hq⟩
 ·intro h
  obtain ⟨L, h1, h2⟩ := nextO_call_fin T u xs hb _ r h
  obtain ⟨n, hn⟩ := orc_all T h1
  exact (orc_holds T (.call u xs hb r)).2 ⟨n + 1, h2 _ hn⟩
theorem orc_loop (k : Nat) (c : AX) (st : St) : (orc T).loop k c st = (nextO T (orc T)).loop k c st := by
 apply Option.ext
 intro r
 constructor
 ·intro h
  obtain ⟨n, hn⟩ := (orc_holds T (.loop k c st r)).1 h
  cases n with
  | zero => cases hn
  | succ n =>
   obtain ⟨L, h1, h2⟩ := nextO_loop_fin T k c st _ r hn
   exact h2 _ fun q hq => (orc_holds T q).2 ⟨n, h1 q hq⟩
 ·intro h
  obtain ⟨L, h1, h2⟩ := nextO_loop_fin T k c st _ r h
  obtain ⟨n, hn⟩ := orc_all T h1
  exact (orc_holds T (.loop k c st r)).2 ⟨n + 1, h2 _ hn⟩
end
noncomputable def callF (T : Tbl) (u : Nat) (xs : List AV) : Option AV := ((orc T).call u xs []).map (·.1)
noncomputable def callH (T : Tbl) (u : Nat) (xs : List AV) (hb : Heap) : Option (AV × Heap) := (orc T).call u xs hb
noncomputable def loopX (T : Tbl) (k : Nat) (c : AX) (st : St) : Option (Ex × St) := (orc T).loop k c st
theorem callF_sound {P : Program} {ν : Nat → FuncId} {T : Tbl} (hT : TOk P ν T) (hm : P.follows .mixedOrders = true) {u : Nat} {af : AFx} {xs : List AV} {r : AV} (hu : T u = some af) (hl : af.lent = none) (h : callF T u xs = some r) : PCall P (ν u) xs (· = r) := by
 obtain ⟨⟨r', h'⟩, h1, rfl⟩ := map_some h
 obtain ⟨n, hn⟩ := (orc_holds T (.call u xs [] (r', h'))).1 h1
 exact (GoodO.orcN hT hm n).pure u af xs r' h' hu hl hn
end
section
open Go.RowKit
def u8 (n : Nat) : AV := .i .u8 (n : Int)
def u32 (n : Nat) : AV := .i .u32 (n : Int)
def u64 (n : Nat) : AV := .i .u64 (n : Int)
@[simp] theorem wkA_i (k : IntKind) (n : Int) : wkA (.i k n) = .i k n := rfl
@[simp] theorem frz1_i {h : Heap} (k : IntKind) (n : Int) : frz1 h (.i k n) = some (.i k n) := rfl
@[simp] theorem frzC_i {h : Heap} (k : IntKind) (n : Int) : frzC h (.i k n) = some (.i k n) := rfl
@[simp] theorem frz_i {h : Heap} (k : IntKind) (n : Int) : frz h (.i k n) = some (.i k n) := rfl
@[simp] theorem scalarC_i (k : IntKind) (n : Int) : scalarC (.i k n) = true := rfl
@[simp] theorem scalar1_i (k : IntKind) (n : Int) : scalar1 (.i k n) = true := rfl
@[simp] theorem scalar_i (k : IntKind) (n : Int) : scalar (.i k n) = true := rfl
@[simp] theorem pureC_i (k : IntKind) (n : Int) : pureC (.i k n) = true := rfl
@[simp] theorem noRef_i (k : IntKind) (n : Int) : noRef (.i k n) = true := rfl
@[simp] theorem refs_i (k : IntKind) (n : Int) : refs (.i k n) = [] := rfl
@[simp] theorem rfC_i (k : IntKind) (n : Int) : rfC (.i k n) = [] := rfl
@[simp] theorem rf1_i (k : IntKind) (n : Int) : rf1 (.i k n) = [] := rfl
@[simp] theorem rfA_i (k : IntKind) (n : Int) : rfA (.i k n) = [] := rfl
@[simp] theorem rlC_i {σn : BId → BId} {σg : Nat → Nat} (k : IntKind) (n : Int) : rlC σn σg (.i k n) = (.i k n) := rfl
@[simp] theorem rl1_i {σn : BId → BId} {σg : Nat → Nat} (k : IntKind) (n : Int) : rl1 σn σg (.i k n) = (.i k n) := rfl
@[simp] theorem rlA_i {σn : BId → BId} {σg : Nat → Nat} (k : IntKind) (n : Int) : rlA σn σg (.i k n) = (.i k n) := rfl
@[simp] theorem refOkC_i {h : Heap} (k : IntKind) (n : Int) : refOkC h (.i k n) = true := rfl
@[simp] theorem refOk1_i {h : Heap} (k : IntKind) (n : Int) : refOk1 h (.i k n) = true := rfl
@[simp] theorem refOk_i {h : Heap} (k : IntKind) (n : Int) : refOk h (.i k n) = true := rfl
@[simp] theorem cellsOf_i (k : IntKind) (n : Int) : cellsOf (.i k n) = some [.i k n] := rfl
@[simp] theorem wkA_b (t : Bool) : wkA (.b t) = .b t := rfl
@[simp] theorem frz1_b {h : Heap} (t : Bool) : frz1 h (.b t) = some (.b t) := rfl
@[simp] theorem frzC_b {h : Heap} (t : Bool) : frzC h (.b t) = some (.b t) := rfl
@[simp] theorem frz_b {h : Heap} (t : Bool) : frz h (.b t) = some (.b t) := rfl
@[simp] theorem scalarC_b (t : Bool) : scalarC (.b t) = true := rfl
@[simp] theorem scalar1_b (t : Bool) : scalar1 (.b t) = true := rfl
@[simp] theorem scalar_b (t : Bool) : scalar (.b t) = true := rfl
@[simp] theorem pureC_b (t : Bool) : pureC (.b t) = true := rfl
@[simp] theorem noRef_b (t : Bool) : noRef (.b t) = true := rfl
@[simp] theorem refs_b (t : Bool) : refs (.b t) = [] := rfl
@[simp] theorem rfC_b (t : Bool) : rfC (.b t) = [] := rfl
@[simp] theorem rf1_b (t : Bool) : rf1 (.b t) = [] := rfl
@[simp] theorem rfA_b (t : Bool) : rfA (.b t) = [] := rfl
@[simp] theorem rlC_b {σn : BId → BId} {σg : Nat → Nat} (t : Bool) : rlC σn σg (.b t) = (.b t) := rfl
@[simp] theorem rl1_b {σn : BId → BId} {σg : Nat → Nat} (t : Bool) : rl1 σn σg (.b t) = (.b t) := rfl
@[simp] theorem rlA_b {σn : BId → BId} {σg : Nat → Nat} (t : Bool) : rlA σn σg (.b t) = (.b t) := rfl
@[simp] theorem refOkC_b {h : Heap} (t : Bool) : refOkC h (.b t) = true := rfl
@[simp] theorem refOk1_b {h : Heap} (t : Bool) : refOk1 h (.b t) = true := rfl
@[simp] theorem refOk_b {h : Heap} (t : Bool) : refOk h (.b t) = true := rfl
@[simp] theorem cellsOf_b (t : Bool) : cellsOf (.b t) = some [.b t] := rfl
@[simp] theorem wkA_s (l : List UInt8) : wkA (.s l) = .s l := rfl
@[simp] theorem frz1_s {h : Heap} (l : List UInt8) : frz1 h (.s l) = some (.s l) := rfl
@[simp] theorem frzC_s {h : Heap} (l : List UInt8) : frzC h (.s l) = some (.s l) := rfl
@[simp] theorem frz_s {h : Heap} (l : List UInt8) : frz h (.s l) = some (.s l) := rfl
@[simp] theorem scalarC_s (l : List UInt8) : scalarC (.s l) = true := rfl
@[simp] theorem scalar1_s (l : List UInt8) : scalar1 (.s l) = true := rfl
@[simp] theorem scalar_s (l : List UInt8) : scalar (.s l) = true := rfl
@[simp] theorem pureC_s (l : List UInt8) : pureC (.s l) = true := rfl
@[simp] theorem noRef_s (l : List UInt8) : noRef (.s l) = true := rfl
@[simp] theorem refs_s (l : List UInt8) : refs (.s l) = [] := rfl
@[simp] theorem rfC_s (l : List UInt8) : rfC (.s l) = [] := rfl
@[simp] theorem rf1_s (l : List UInt8) : rf1 (.s l) = [] := rfl
@[simp] theorem rfA_s (l : List UInt8) : rfA (.s l) = [] := rfl
@[simp] theorem rlC_s {σn : BId → BId} {σg : Nat → Nat} (l : List UInt8) : rlC σn σg (.s l) = (.s l) := rfl
@[simp] theorem rl1_s {σn : BId → BId} {σg : Nat → Nat} (l : List UInt8) : rl1 σn σg (.s l) = (.s l) := rfl
@[simp] theorem rlA_s {σn : BId → BId} {σg : Nat → Nat} (l : List UInt8) : rlA σn σg (.s l) = (.s l) := rfl
@[simp] theorem refOkC_s {h : Heap} (l : List UInt8) : refOkC h (.s l) = true := rfl
@[simp] theorem refOk1_s {h : Heap} (l : List UInt8) : refOk1 h (.s l) = true := rfl
@[simp] theorem refOk_s {h : Heap} (l : List UInt8) : refOk h (.s l) = true := rfl
@[simp] theorem cellsOf_s (l : List UInt8) : cellsOf (.s l) = some [.s l] := rfl
@[simp] theorem wkA_raw (v : Value) : wkA (.raw v) = .raw v := rfl
@[simp] theorem frz1_raw {h : Heap} (v : Value) : frz1 h (.raw v) = some (.raw v) := rfl
@[simp] theorem frzC_raw {h : Heap} (v : Value) : frzC h (.raw v) = some (.raw v) := rfl
@[simp] theorem frz_raw {h : Heap} (v : Value) : frz h (.raw v) = some (.raw v) := rfl
@[simp] theorem scalarC_raw (v : Value) : scalarC (.raw v) = false := rfl
@[simp] theorem scalar1_raw (v : Value) : scalar1 (.raw v) = false := rfl
@[simp] theorem scalar_raw (v : Value) : scalar (.raw v) = false := rfl
@[simp] theorem pureC_raw (v : Value) : pureC (.raw v) = true := rfl
@[simp] theorem noRef_raw (v : Value) : noRef (.raw v) = true := rfl
@[simp] theorem refs_raw (v : Value) : refs (.raw v) = [] := rfl
@[simp] theorem rfC_raw (v : Value) : rfC (.raw v) = [] := rfl
@[simp] theorem rf1_raw (v : Value) : rf1 (.raw v) = [] := rfl
@[simp] theorem rfA_raw (v : Value) : rfA (.raw v) = [] := rfl
@[simp] theorem rlC_raw {σn : BId → BId} {σg : Nat → Nat} (v : Value) : rlC σn σg (.raw v) = (.raw v) := rfl
@[simp] theorem rl1_raw {σn : BId → BId} {σg : Nat → Nat} (v : Value) : rl1 σn σg (.raw v) = (.raw v) := rfl
@[simp] theorem rlA_raw {σn : BId → BId} {σg : Nat → Nat} (v : Value) : rlA σn σg (.raw v) = (.raw v) := rfl
@[simp] theorem refOkC_raw {h : Heap} (v : Value) : refOkC h (.raw v) = true := rfl
@[simp] theorem refOk1_raw {h : Heap} (v : Value) : refOk1 h (.raw v) = true := rfl
@[simp] theorem refOk_raw {h : Heap} (v : Value) : refOk h (.raw v) = true := rfl
@[simp] theorem frz1_sl {h : Heap} (els : List (List AV)) (f : Fl) : frz1 h (.sl els f) = some (.sl els f) := rfl
@[simp] theorem frzC_sl {h : Heap} (els : List (List AV)) (f : Fl) : frzC h (.sl els f) = some (.sl els f) := rfl
@[simp] theorem frz_sl {h : Heap} (els : List (List AV)) (f : Fl) : frz h (.sl els f) = some (.sl els f) := rfl
@[simp] theorem scalarC_sl (els : List (List AV)) (f : Fl) : scalarC (.sl els f) = false := rfl
@[simp] theorem scalar1_sl (els : List (List AV)) (f : Fl) : scalar1 (.sl els f) = false := rfl
@[simp] theorem scalar_sl (els : List (List AV)) (f : Fl) : scalar (.sl els f) = false := rfl
@[simp] theorem pureC_sl (els : List (List AV)) (f : Fl) : pureC (.sl els f) = true := rfl
@[simp] theorem noRef_sl (els : List (List AV)) (f : Fl) : noRef (.sl els f) = true := rfl
@[simp] theorem refs_sl (els : List (List AV)) (f : Fl) : refs (.sl els f) = [] := rfl
@[simp] theorem rfC_sl (els : List (List AV)) (f : Fl) : rfC (.sl els f) = [] := rfl
@[simp] theorem rf1_sl (els : List (List AV)) (f : Fl) : rf1 (.sl els f) = [] := rfl
@[simp] theorem rfA_sl (els : List (List AV)) (f : Fl) : rfA (.sl els f) = [] := rfl
@[simp] theorem rlC_sl {σn : BId → BId} {σg : Nat → Nat} (els : List (List AV)) (f : Fl) : rlC σn σg (.sl els f) = (.sl els f) := rfl
@[simp] theorem rl1_sl {σn : BId → BId} {σg : Nat → Nat} (els : List (List AV)) (f : Fl) : rl1 σn σg (.sl els f) = (.sl els f) := rfl
@[simp] theorem rlA_sl {σn : BId → BId} {σg : Nat → Nat} (els : List (List AV)) (f : Fl) : rlA σn σg (.sl els f) = (.sl els f) := rfl
@[simp] theorem refOkC_sl {h : Heap} (els : List (List AV)) (f : Fl) : refOkC h (.sl els f) = true := rfl
@[simp] theorem refOk1_sl {h : Heap} (els : List (List AV)) (f : Fl) : refOk1 h (.sl els f) = true := rfl
@[simp] theorem refOk_sl {h : Heap} (els : List (List AV)) (f : Fl) : refOk h (.sl els f) = true := rfl
@[simp] theorem cellsOf_sl (els : List (List AV)) (f : Fl) : cellsOf (.sl els f) = some [.sl els f] := rfl
@[simp] theorem wkA_ep (cs : List AV) (o : Nat) : wkA (.ep cs o) = .ep cs o := rfl
@[simp] theorem frz1_ep {h : Heap} (cs : List AV) (o : Nat) : frz1 h (.ep cs o) = some (.ep cs o) := rfl
@[simp] theorem frzC_ep {h : Heap} (cs : List AV) (o : Nat) : frzC h (.ep cs o) = some (.ep cs o) := rfl
@[simp] theorem frz_ep {h : Heap} (cs : List AV) (o : Nat) : frz h (.ep cs o) = some (.ep cs o) := rfl
@[simp] theorem scalarC_ep (cs : List AV) (o : Nat) : scalarC (.ep cs o) = false := rfl
@[simp] theorem scalar1_ep (cs : List AV) (o : Nat) : scalar1 (.ep cs o) = false := rfl
@[simp] theorem scalar_ep (cs : List AV) (o : Nat) : scalar (.ep cs o) = false := rfl
@[simp] theorem pureC_ep (cs : List AV) (o : Nat) : pureC (.ep cs o) = true := rfl
@[simp] theorem noRef_ep (cs : List AV) (o : Nat) : noRef (.ep cs o) = true := rfl
@[simp] theorem refs_ep (cs : List AV) (o : Nat) : refs (.ep cs o) = [] := rfl
@[simp] theorem rfC_ep (cs : List AV) (o : Nat) : rfC (.ep cs o) = [] := rfl
@[simp] theorem rf1_ep (cs : List AV) (o : Nat) : rf1 (.ep cs o) = [] := rfl
@[simp] theorem rfA_ep (cs : List AV) (o : Nat) : rfA (.ep cs o) = [] := rfl
@[simp] theorem rlC_ep {σn : BId → BId} {σg : Nat → Nat} (cs : List AV) (o : Nat) : rlC σn σg (.ep cs o) = (.ep cs o) := rfl
@[simp] theorem rl1_ep {σn : BId → BId} {σg : Nat → Nat} (cs : List AV) (o : Nat) : rl1 σn σg (.ep cs o) = (.ep cs o) := rfl
@[simp] theorem rlA_ep {σn : BId → BId} {σg : Nat → Nat} (cs : List AV) (o : Nat) : rlA σn σg (.ep cs o) = (.ep cs o) := rfl
@[simp] theorem refOkC_ep {h : Heap} (cs : List AV) (o : Nat) : refOkC h (.ep cs o) = true := rfl
@[simp] theorem refOk1_ep {h : Heap} (cs : List AV) (o : Nat) : refOk1 h (.ep cs o) = true := rfl
@[simp] theorem refOk_ep {h : Heap} (cs : List AV) (o : Nat) : refOk h (.ep cs o) = true := rfl
@[simp] theorem cellsOf_ep (cs : List AV) (o : Nat) : cellsOf (.ep cs o) = some [.ep cs o] := rfl
@[simp] theorem wkA_u8 (n : Nat) : wkA (u8 n) = u8 n := rfl
@[simp] theorem frz1_u8 {h : Heap} (n : Nat) : frz1 h (u8 n) = some (u8 n) := rfl
@[simp] theorem frzC_u8 {h : Heap} (n : Nat) : frzC h (u8 n) = some (u8 n) := rfl
@[simp] theorem frz_u8 {h : Heap} (n : Nat) : frz h (u8 n) = some (u8 n) := rfl
@[simp] theorem scalarC_u8 (n : Nat) : scalarC (u8 n) = true := rfl
@[simp] theorem scalar1_u8 (n : Nat) : scalar1 (u8 n) = true := rfl
@[simp] theorem scalar_u8 (n : Nat) : scalar (u8 n) = true := rfl
@[simp] theorem pureC_u8 (n : Nat) : pureC (u8 n) = true := rfl
@[simp] theorem noRef_u8 (n : Nat) : noRef (u8 n) = true := rfl
@[simp] theorem refs_u8 (n : Nat) : refs (u8 n) = [] := rfl
@[simp] theorem rfC_u8 (n : Nat) : rfC (u8 n) = [] := rfl
@[simp] theorem rf1_u8 (n : Nat) : rf1 (u8 n) = [] := rfl
@[simp] theorem rfA_u8 (n : Nat) : rfA (u8 n) = [] := rfl
@[simp] theorem rlC_u8 {σn : BId → BId} {σg : Nat → Nat} (n : Nat) : rlC σn σg (u8 n) = (u8 n) := rfl
@[simp] theorem rl1_u8 {σn : BId → BId} {σg : Nat → Nat} (n : Nat) : rl1 σn σg (u8 n) = (u8 n) := rfl
@[simp] theorem rlA_u8 {σn : BId → BId} {σg : Nat → Nat} (n : Nat) : rlA σn σg (u8 n) = (u8 n) := rfl
@[simp] theorem refOkC_u8 {h : Heap} (n : Nat) : refOkC h (u8 n) = true := rfl
@[simp] theorem refOk1_u8 {h : Heap} (n : Nat) : refOk1 h (u8 n) = true := rfl
@[simp] theorem refOk_u8 {h : Heap} (n : Nat) : refOk h (u8 n) = true := rfl
@[simp] theorem cellsOf_u8 (n : Nat) : cellsOf (u8 n) = some [u8 n] := rfl
@[simp] theorem wkA_u32 (n : Nat) : wkA (u32 n) = u32 n := rfl
@[simp] theorem frz1_u32 {h : Heap} (n : Nat) : frz1 h (u32 n) = some (u32 n) := rfl
@[simp] theorem frzC_u32 {h : Heap} (n : Nat) : frzC h (u32 n) = some (u32 n) := rfl
@[simp] theorem frz_u32 {h : Heap} (n : Nat) : frz h (u32 n) = some (u32 n) := rfl
@[simp] theorem scalarC_u32 (n : Nat) : scalarC (u32 n) = true := rfl
@[simp] theorem scalar1_u32 (n : Nat) : scalar1 (u32 n) = true := rfl
@[simp] theorem scalar_u32 (n : Nat) : scalar (u32 n) = true := rfl
@[simp] theorem pureC_u32 (n : Nat) : pureC (u32 n) = true := rfl
@[simp] theorem noRef_u32 (n : Nat) : noRef (u32 n) = true := rfl
@[simp] theorem refs_u32 (n : Nat) : refs (u32 n) = [] := rfl
@[simp] theorem rfC_u32 (n : Nat) : rfC (u32 n) = [] := rfl
@[simp] theorem rf1_u32 (n : Nat) : rf1 (u32 n) = [] := rfl
@[simp] theorem rfA_u32 (n : Nat) : rfA (u32 n) = [] := rfl
@[simp] theorem rlC_u32 {σn : BId → BId} {σg : Nat → Nat} (n : Nat) : rlC σn σg (u32 n) = (u32 n) := rfl
@[simp] theorem rl1_u32 {σn : BId → BId} {σg : Nat → Nat} (n : Nat) : rl1 σn σg (u32 n) = (u32 n) := rfl
@[simp] theorem rlA_u32 {σn : BId → BId} {σg : Nat → Nat} (n : Nat) : rlA σn σg (u32 n) = (u32 n) := rfl
@[simp] theorem refOkC_u32 {h : Heap} (n : Nat) : refOkC h (u32 n) = true := rfl
@[simp] theorem refOk1_u32 {h : Heap} (n : Nat) : refOk1 h (u32 n) = true := rfl
@[simp] theorem refOk_u32 {h : Heap} (n : Nat) : refOk h (u32 n) = true := rfl
@[simp] theorem cellsOf_u32 (n : Nat) : cellsOf (u32 n) = some [u32 n] := rfl
@[simp] theorem wkA_u64 (n : Nat) : wkA (u64 n) = u64 n := rfl
@[simp] theorem frz1_u64 {h : Heap} (n : Nat) : frz1 h (u64 n) = some (u64 n) := rfl
@[simp] theorem frzC_u64 {h : Heap} (n : Nat) : frzC h (u64 n) = some (u64 n) := rfl
@[simp] theorem frz_u64 {h : Heap} (n : Nat) : frz h (u64 n) = some (u64 n) := rfl
@[simp] theorem scalarC_u64 (n : Nat) : scalarC (u64 n) = true := rfl
@[simp] theorem scalar1_u64 (n : Nat) : scalar1 (u64 n) = true := rfl
@[simp] theorem scalar_u64 (n : Nat) : scalar (u64 n) = true := rfl
@[simp] theorem pureC_u64 (n : Nat) : pureC (u64 n) = true := rfl
@[simp] theorem noRef_u64 (n : Nat) : noRef (u64 n) = true := rfl
@[simp] theorem refs_u64 (n : Nat) : refs (u64 n) = [] := rfl
@[simp] theorem rfC_u64 (n : Nat) : rfC (u64 n) = [] := rfl
@[simp] theorem rf1_u64 (n : Nat) : rf1 (u64 n) = [] := rfl
@[simp] theorem rfA_u64 (n : Nat) : rfA (u64 n) = [] := rfl
@[simp] theorem rlC_u64 {σn : BId → BId} {σg : Nat → Nat} (n : Nat) : rlC σn σg (u64 n) = (u64 n) := rfl
@[simp] theorem rl1_u64 {σn : BId → BId} {σg : Nat → Nat} (n : Nat) : rl1 σn σg (u64 n) = (u64 n) := rfl
@[simp] theorem rlA_u64 {σn : BId → BId} {σg : Nat → Nat} (n : Nat) : rlA σn σg (u64 n) = (u64 n) := rfl
@[simp] theorem refOkC_u64 {h : Heap} (n : Nat) : refOkC h (u64 n) = true := rfl
@[simp] theorem refOk1_u64 {h : Heap} (n : Nat) : refOk1 h (u64 n) = true := rfl
@[simp] theorem refOk_u64 {h : Heap} (n : Nat) : refOk h (u64 n) = true := rfl
@[simp] theorem cellsOf_u64 (n : Nat) : cellsOf (u64 n) = some [u64 n] := rfl
@[simp] theorem wkA_dead  : wkA .dead = .dead := rfl
@[simp] theorem frz1_dead {h : Heap}  : frz1 h .dead = some .dead := rfl
@[simp] theorem frzC_dead {h : Heap}  : frzC h .dead = some .dead := rfl
@[simp] theorem frz_dead {h : Heap}  : frz h .dead = some .dead := rfl
@[simp] theorem scalarC_dead  : scalarC .dead = false := rfl
@[simp] theorem scalar1_dead  : scalar1 .dead = false := rfl
@[simp] theorem scalar_dead  : scalar .dead = false := rfl
@[simp] theorem pureC_dead  : pureC .dead = true := rfl
@[simp] theorem noRef_dead  : noRef .dead = true := rfl
@[simp] theorem refs_dead  : refs .dead = [] := rfl
@[simp] theorem rfC_dead  : rfC .dead = [] := rfl
@[simp] theorem rf1_dead  : rf1 .dead = [] := rfl
@[simp] theorem rfA_dead  : rfA .dead = [] := rfl
@[simp] theorem rlC_dead {σn : BId → BId} {σg : Nat → Nat}  : rlC σn σg .dead = .dead := rfl
@[simp] theorem rl1_dead {σn : BId → BId} {σg : Nat → Nat}  : rl1 σn σg .dead = .dead := rfl
@[simp] theorem rlA_dead {σn : BId → BId} {σg : Nat → Nat}  : rlA σn σg .dead = .dead := rfl
@[simp] theorem refOkC_dead {h : Heap}  : refOkC h .dead = true := rfl
@[simp] theorem refOk1_dead {h : Heap}  : refOk1 h .dead = true := rfl
@[simp] theorem refOk_dead {h : Heap}  : refOk h .dead = true := rfl
@[simp] theorem wkA_sl (els : List (List AV)) (f : Fl) : wkA (.sl els f) = .sl (wkL els) .an := rfl
@[simp] theorem wkA_agg (cs : List AV) : wkA (.agg cs) = .agg (wkR cs) := rfl
@[simp] theorem wkA_tup (cs : List AV) : wkA (.tup cs) = .tup (wkR cs) := rfl
@[simp] theorem wkA_bs (id : BId) (g z off n : Nat) : wkA (.bs id g z off n) = .bs id g z off n := rfl
@[simp] theorem wkA_ptr (id : BId) (g z i o : Nat) : wkA (.ptr id g z i o) = .ptr id g z i o := rfl
@[simp] theorem wkR_nil  : wkR [] = [] := rfl
@[simp] theorem wkR_cons (c : AV) (r : List AV) : wkR (c :: r) = wkA c :: wkR r := rfl
@[simp] theorem wkL_nil  : wkL [] = [] := rfl
@[simp] theorem wkL_cons (c : List AV) (r : List (List AV)) : wkL (c :: r) = wkR c :: wkL r := rfl
@[simp] theorem frzC_bs {h : Heap} (id : BId) (g z off n : Nat) : frzC h (.bs id g z off n) = (boxAt h id g z).bind fun bx => if bx.kind ≠ .str ∧ off + n ≤ bx.els.length then some (.sl ((bx.els.drop off).take n) .an) else none := rfl
@[simp] theorem frzC_ptr {h : Heap} (id : BId) (g z i o : Nat) : frzC h (.ptr id g z i o) = some .dead := rfl
@[simp] theorem frz1_bs {h : Heap} (id : BId) (g z off n : Nat) : frz1 h (.bs id g z off n) = (boxAt h id g z).bind fun bx => if bx.kind ≠ .str ∧ off + n ≤ bx.els.length then some (.sl ((bx.els.drop off).take n) .an) else none := rfl
@[simp] theorem frz1_ptr {h : Heap} (id : BId) (g z i o : Nat) : frz1 h (.ptr id g z i o) = some .dead := rfl
@[simp] theorem frz_bs {h : Heap} (id : BId) (g z off n : Nat) : frz h (.bs id g z off n) = (boxAt h id g z).bind fun bx => if bx.kind ≠ .str ∧ off + n ≤ bx.els.length then some (.sl ((bx.els.drop off).take n) .an) else none := rfl
@[simp] theorem frz_ptr {h : Heap} (id : BId) (g z i o : Nat) : frz h (.ptr id g z i o) = some .dead := rfl
@[simp] theorem frz1_agg {h : Heap} (cs : List AV) : frz1 h (.agg cs) = (cs.mapM (frzC h)).map .agg := rfl
@[simp] theorem frz_agg {h : Heap} (cs : List AV) : frz h (.agg cs) = (cs.mapM (frzC h)).map .agg := rfl
@[simp] theorem frz_tup {h : Heap} (cs : List AV) : frz h (.tup cs) = (cs.mapM (frz1 h)).map .tup := rfl
@[simp] theorem scalarC_bs (id : BId) (g z off n : Nat) : scalarC (.bs id g z off n) = false := rfl
@[simp] theorem scalarC_ptr (id : BId) (g z i o : Nat) : scalarC (.ptr id g z i o) = false := rfl
@[simp] theorem scalar1_bs (id : BId) (g z off n : Nat) : scalar1 (.bs id g z off n) = false := rfl
@[simp] theorem scalar1_ptr (id : BId) (g z i o : Nat) : scalar1 (.ptr id g z i o) = false := rfl
@[simp] theorem scalar_bs (id : BId) (g z off n : Nat) : scalar (.bs id g z off n) = false := rfl
@[simp] theorem scalar_ptr (id : BId) (g z i o : Nat) : scalar (.ptr id g z i o) = false := rfl
@[simp] theorem scalar1_agg (cs : List AV) : scalar1 (.agg cs) = cs.all scalarC := rfl
@[simp] theorem scalar_agg (cs : List AV) : scalar (.agg cs) = cs.all scalarC := rfl
@[simp] theorem scalar_tup (cs : List AV) : scalar (.tup cs) = cs.all scalar1 := rfl
@[simp] theorem pureC_bs (id : BId) (g z off n : Nat) : pureC (.bs id g z off n) = false := rfl
@[simp] theorem pureC_ptr (id : BId) (g z i o : Nat) : pureC (.ptr id g z i o) = false := rfl
@[simp] theorem pureC_agg (cs : List AV) : pureC (.agg cs) = false := rfl
@[simp] theorem pureC_tup (cs : List AV) : pureC (.tup cs) = false := rfl
@[simp] theorem noRef_bs (id : BId) (g z off n : Nat) : noRef (.bs id g z off n) = false := rfl
@[simp] theorem noRef_ptr (id : BId) (g z i o : Nat) : noRef (.ptr id g z i o) = false := rfl
@[simp] theorem noRef_agg (cs : List AV) : noRef (.agg cs) = cs.all pureC := rfl
@[simp] theorem noRef_tup (cs : List AV) : noRef (.tup cs) = false := rfl
@[simp] theorem refs_bs (id : BId) (g z off n : Nat) : refs (.bs id g z off n) = [id] := rfl
@[simp] theorem refs_ptr (id : BId) (g z i o : Nat) : refs (.ptr id g z i o) = [] := rfl
@[simp] theorem rfC_bs (id : BId) (g z off n : Nat) : rfC (.bs id g z off n) = [id] := rfl
@[simp] theorem rfC_ptr (id : BId) (g z i o : Nat) : rfC (.ptr id g z i o) = [id] := rfl
@[simp] theorem rf1_bs (id : BId) (g z off n : Nat) : rf1 (.bs id g z off n) = [id] := rfl
@[simp] theorem rf1_ptr (id : BId) (g z i o : Nat) : rf1 (.ptr id g z i o) = [id] := rfl
@[simp] theorem rfA_bs (id : BId) (g z off n : Nat) : rfA (.bs id g z off n) = [id] := rfl
@[simp] theorem rfA_ptr (id : BId) (g z i o : Nat) : rfA (.ptr id g z i o) = [id] := rfl
def rfsC : AV → List BId
 | .bs id .. => [id]
 | _ => []
@[simp] theorem rf1_agg (cs : List AV) : rf1 (.agg cs) = cs.flatMap rfC := rfl
@[simp] theorem rfA_agg (cs : List AV) : rfA (.agg cs) = cs.flatMap rfC := rfl
@[simp] theorem rfA_tup (cs : List AV) : rfA (.tup cs) = cs.flatMap rf1 := rfl
@[simp] theorem rlC_bs {σn : BId → BId} {σg : Nat → Nat} (id : BId) (g z off n : Nat) : rlC σn σg (.bs id g z off n) = .bs (σn id) (σg g) z off n := rfl
@[simp] theorem rlC_ptr {σn : BId → BId} {σg : Nat → Nat} (id : BId) (g z i o : Nat) : rlC σn σg (.ptr id g z i o) = .ptr (σn id) (σg g) z i o := rfl
@[simp] theorem rl1_bs {σn : BId → BId} {σg : Nat → Nat} (id : BId) (g z off n : Nat) : rl1 σn σg (.bs id g z off n) = .bs (σn id) (σg g) z off n := rfl
@[simp] theorem rl1_ptr {σn : BId → BId} {σg : Nat → Nat} (id : BId) (g z i o : Nat) : rl1 σn σg (.ptr id g z i o) = .ptr (σn id) (σg g) z i o := rfl
@[simp] theorem rlA_bs {σn : BId → BId} {σg : Nat → Nat} (id : BId) (g z off n : Nat) : rlA σn σg (.bs id g z off n) = .bs (σn id) (σg g) z off n := rfl
@[simp] theorem rlA_ptr {σn : BId → BId} {σg : Nat → Nat} (id : BId) (g z i o : Nat) : rlA σn σg (.ptr id g z i o) = .ptr (σn id) (σg g) z i o := rfl
@[simp] theorem rl1_agg {σn : BId → BId} {σg : Nat → Nat} (cs : List AV) : rl1 σn σg (.agg cs) = .agg (cs.map (rlC σn σg)) := rfl
@[simp] theorem rlA_agg {σn : BId → BId} {σg : Nat → Nat} (cs : List AV) : rlA σn σg (.agg cs) = .agg (cs.map (rlC σn σg)) := rfl
@[simp] theorem rlA_tup {σn : BId → BId} {σg : Nat → Nat} (cs : List AV) : rlA σn σg (.tup cs) = .tup (cs.map (rl1 σn σg)) := rfl
@[simp] theorem refOkC_bs {h : Heap} (id : BId) (g z off n : Nat) : refOkC h (.bs id g z off n) = (boxAt h id g z).isSome := rfl
@[simp] theorem refOkC_ptr {h : Heap} (id : BId) (g z i o : Nat) : refOkC h (.ptr id g z i o) = (boxAt h id g z).isSome := rfl
@[simp] theorem refOk1_bs {h : Heap} (id : BId) (g z off n : Nat) : refOk1 h (.bs id g z off n) = (boxAt h id g z).isSome := rfl
@[simp] theorem refOk1_ptr {h : Heap} (id : BId) (g z i o : Nat) : refOk1 h (.ptr id g z i o) = (boxAt h id g z).isSome := rfl
@[simp] theorem refOk_bs {h : Heap} (id : BId) (g z off n : Nat) : refOk h (.bs id g z off n) = (boxAt h id g z).isSome := rfl
@[simp] theorem refOk_ptr {h : Heap} (id : BId) (g z i o : Nat) : refOk h (.ptr id g z i o) = (boxAt h id g z).isSome := rfl
@[simp] theorem refOk1_agg {h : Heap} (cs : List AV) : refOk1 h (.agg cs) = cs.all (refOkC h) := rfl
@[simp] theorem refOk_agg {h : Heap} (cs : List AV) : refOk h (.agg cs) = cs.all (refOkC h) := rfl
@[simp] theorem refOk_tup {h : Heap} (cs : List AV) : refOk h (.tup cs) = cs.all (refOk1 h) := rfl
@[simp] theorem cellsOf_bs (id : BId) (g z off n : Nat) : cellsOf (.bs id g z off n) = some [.bs id g z off n] := rfl
@[simp] theorem cellsOf_ptr (id : BId) (g z i o : Nat) : cellsOf (.ptr id g z i o) = some [.ptr id g z i o] := rfl
@[simp] theorem cellsOf_agg (cs : List AV) : cellsOf (.agg cs) = some cs := rfl
@[simp] theorem rfsC_i (k : IntKind) (n : Int) : rfsC (.i k n) = [] := rfl
@[simp] theorem rfsC_b (t : Bool) : rfsC (.b t) = [] := rfl
@[simp] theorem rfsC_s (l : List UInt8) : rfsC (.s l) = [] := rfl
@[simp] theorem rfsC_raw (v : Value) : rfsC (.raw v) = [] := rfl
@[simp] theorem rfsC_sl (els : List (List AV)) (f : Fl) : rfsC (.sl els f) = [] := rfl
@[simp] theorem rfsC_ep (cs : List AV) (o : Nat) : rfsC (.ep cs o) = [] := rfl
@[simp] theorem rfsC_u8 (n : Nat) : rfsC (u8 n) = [] := rfl
@[simp] theorem rfsC_u32 (n : Nat) : rfsC (u32 n) = [] := rfl
@[simp] theorem rfsC_u64 (n : Nat) : rfsC (u64 n) = [] := rfl
@[simp] theorem rfsC_dead  : rfsC .dead = [] := rfl
@[simp] theorem rfsC_bs (id : BId) (g z off n : Nat) : rfsC (.bs id g z off n) = [id] := rfl
@[simp] theorem rfsC_ptr (id : BId) (g z i o : Nat) : rfsC (.ptr id g z i o) = [] := rfl
@[simp] theorem refs_agg (cs : List AV) : refs (.agg cs) = cs.flatMap rfsC := rfl
@[simp] theorem refs_tup_nil : refs (.tup []) = [] := rfl
@[simp] theorem boxAt_eq (h : Heap) (id : BId) (g z : Nat) : boxAt h id g z = (match h.lookup id with | some bx => if bx.gen = g ∧ bx.z = z then some bx else none | none => none) := rfl
@[simp] theorem wkIf_true (x : AV) : wkIf true x = x := rfl
@[simp] theorem wkIf_false (x : AV) : wkIf false x = wkA x := rfl
theorem wrap_u32 (n : Nat) : IntKind.wrap .u32 (n : Int) = ((n % 4294967296 : Nat) : Int) := by
 simp [IntKind.wrap, IntKind.signed, IntKind.bits]
theorem wrap_u64 (n : Nat) : IntKind.wrap .u64 (n : Int) = ((n % 18446744073709551616 : Nat) : Int) := by
 simp [IntKind.wrap, IntKind.signed, IntKind.bits]
theorem wrap_u8 (n : Nat) : IntKind.wrap .u8 (n : Int) = ((n % 256 : Nat) : Int) := by
 simp [IntKind.wrap, IntKind.signed, IntKind.bits]
def bX (o : Option (Ex × St)) (f : St → Option (Ex × St)) : Option (Ex × St) := o.bind fun r => match r.1 with | .n => f r.2 | _ => some r
def blkX (id : Nat) (o : Option (Ex × St)) : Option (Ex × St) := o.bind fun r => match r.1 with | .x j => if j = id then some (.n, r.2) else some r | _ => some r
def stX (o : Option St) : Option (Ex × St) := o.map fun s => (.n, s)
def bS (o : Option St) (f : St → Option St) : Option St := o.bind f
def cnX (v : AV) (x y : Option (Ex × St)) : Option (Ex × St) := match v with | .b t => if t then x else y | _ => none
def pS (o : Option AV) (d : Option Nat) (st : St) : Option St := o.map fun x => ⟨putE st.env d x, st.heap, st.clk⟩
def pW (o : Option (AV × Heap × Nat)) (d : Option Nat) (st : St) : Option St := o.map fun q => ⟨putE st.env d q.1, q.2.1, q.2.2⟩
def pB (o : Option (AV × Heap)) (d : Option Nat) (st : St) : Option St := o.map fun q => ⟨putE st.env d q.1, q.2, st.clk⟩
def retF (res : List RV) (ex : Bool) (o : Option (Ex × St)) : Option AV :=
 o.bind fun r => match r.1 with | .x _ => none | _ => (resAV r.2 res).bind fun x => (frz r.2.heap x).map (wkIf ex)
def retH (res : List RV) (ex : Bool) (k : Nat) (o : Option (Ex × St)) : Option (AV × Heap) :=
 o.bind fun r => match r.1 with | .x _ => none | _ => (resAV r.2 res).map fun x => let s := normS ex k [0] ⟨[(0, x)], r.2.heap, r.2.clk⟩; (s.env.get 0, s.heap)
section
variable {o o' : Option (Ex × St)} {f : St → Option (Ex × St)} {s : St}
@[congr] theorem bX_congr (h : o = o') : bX o f = bX o' f := by rw [h]
@[congr] theorem bS_congr {o o' : Option St} {f : St → Option St} (h : o = o') : bS o f = bS o' f := by rw [h]
@[congr] theorem cnX_congr {v v' : AV} {x y : Option (Ex × St)} (h : v = v') : cnX v x y = cnX v' x y := by rw [h]
@[simp] theorem bX_n : bX (some (.n, s)) f = f s := rfl
@[simp] theorem bX_x (id : Nat) : bX (some (.x id, s)) f = some (.x id, s) := rfl
@[simp] theorem bX_r : bX (some (.r, s)) f = some (.r, s) := rfl
@[simp] theorem bX_none : bX none f = none := rfl
@[simp] theorem bX_ite {c : Prop} [Decidable c] {a b : Option (Ex × St)} : bX (if c then a else b) f = if c then bX a f else bX b f := by split <;> rfl
@[simp] theorem blkX_ite (id : Nat) {c : Prop} [Decidable c] {a b : Option (Ex × St)} : blkX id (if c then a else b) = if c then blkX id a else blkX id b := by split <;> rfl
@[simp] theorem retF_ite {res : List RV} {ex : Bool} {c : Prop} [Decidable c] {a b : Option (Ex × St)} : retF res ex (if c then a else b) = if c then retF res ex a else retF res ex b := by split <;> rfl
@[simp] theorem retH_ite {res : List RV} {ex : Bool} {k : Nat} {c : Prop} [Decidable c] {a b : Option (Ex × St)} : retH res ex k (if c then a else b) = if c then retH res ex k a else retH res ex k b := by split <;> rfl
@[simp] theorem blkX_n (id : Nat) : blkX id (some (.n, s)) = some (.n, s) := rfl
@[simp] theorem blkX_x (id j : Nat) : blkX id (some (.x j, s)) = if j = id then some (.n, s) else some (.x j, s) := rfl
@[simp] theorem blkX_r (id : Nat) : blkX id (some (.r, s)) = some (.r, s) := rfl
@[simp] theorem blkX_none (id : Nat) : blkX id none = none := rfl
@[simp] theorem stX_some : stX (some s) = some (.n, s) := rfl
@[simp] theorem stX_none : stX none = none := rfl
@[simp] theorem bS_some {f : St → Option St} : bS (some s) f = f s := rfl
@[simp] theorem bS_none {f : St → Option St} : bS none f = none := rfl
@[simp] theorem cnX_b {t : Bool} {x y : Option (Ex × St)} : cnX (.b t) x y = if t then x else y := rfl
@[simp] theorem pS_some {x : AV} {d : Option Nat} : pS (some x) d s = some ⟨putE s.env d x, s.heap, s.clk⟩ := rfl
@[simp] theorem pS_none {d : Option Nat} : pS none d s = none := rfl
@[simp] theorem pW_some {x : AV} {h : Heap} {c : Nat} {d : Option Nat} : pW (some (x, h, c)) d s = some ⟨putE s.env d x, h, c⟩ := rfl
@[simp] theorem pW_none {d : Option Nat} : pW none d s = none := rfl
@[simp] theorem pB_some {x : AV} {h : Heap} {d : Option Nat} : pB (some (x, h)) d s = some ⟨putE s.env d x, h, s.clk⟩ := rfl
@[simp] theorem pB_none {d : Option Nat} : pB none d s = none := rfl
@[simp] theorem retF_r {res : List RV} {ex : Bool} : retF res ex (some (.r, s)) = (resAV s res).bind fun x => (frz s.heap x).map (wkIf ex) := rfl
@[simp] theorem retF_n {res : List RV} {ex : Bool} : retF res ex (some (.n, s)) = (resAV s res).bind fun x => (frz s.heap x).map (wkIf ex) := rfl
@[simp] theorem retH_r {res : List RV} {ex : Bool} {k : Nat} : retH res ex k (some (.r, s)) = (resAV s res).map fun x => ((normS ex k [0] ⟨[(0, x)], s.heap, s.clk⟩).env.get 0, (normS ex k [0] ⟨[(0, x)], s.heap, s.clk⟩).heap) := rfl
@[simp] theorem retH_n {res : List RV} {ex : Bool} {k : Nat} : retH res ex k (some (.n, s)) = (resAV s res).map fun x => ((normS ex k [0] ⟨[(0, x)], s.heap, s.clk⟩).env.get 0, (normS ex k [0] ⟨[(0, x)], s.heap, s.clk⟩).heap) := rfl
end
section
variable {T : Tbl} {k : Nat} {st : St} {d : Option Nat}
noncomputable abbrev X (T : Tbl) (k : Nat) (c : AX) (st : St) : Option (Ex × St) := evX (orc T) T k c st
noncomputable abbrev R (T : Tbl) (l : List AO) (st : St) : Option St := runX (orc T) T l st
@[congr] theorem evX_congr {O : Orc} {c : AX} {st st' : St} (h : st = st') : evX O T k c st = evX O T k c st' := by rw [h]
@[congr] theorem opX_congr {O : Orc} {op : AOp} {d : Option Nat} {st st' : St} (h : st = st') : opX O T op d st = opX O T op d st' := by rw [h]
@[simp] theorem X_skip : evX (orc T) T k .skip st = some (.n, st) := rfl
@[simp] theorem X_reg {l : List AO} : evX (orc T) T k (.reg l) st = stX (runX (orc T) T l st) := rfl
@[simp] theorem X_draw {l : List DO} : evX (orc T) T k (.draw l) st = stX (drawX (orc T) T l st.env st.heap st.clk [] []) := rfl
@[simp] theorem X_seq {a b : AX} : evX (orc T) T k (.seq a b) st = bX (evX (orc T) T k a st) fun s => evX (orc T) T k b s := rfl
@[simp] theorem X_cond {c : Opd} {x y : AX} : evX (orc T) T k (.cond c x y) st = cnX (ev st.env.get c) (evX (orc T) T k x st) (evX (orc T) T k y st) := rfl
@[simp] theorem X_block {id : Nat} {c : AX} : evX (orc T) T k (.block id c) st = blkX id (evX (orc T) T k c st) := rfl
@[simp] theorem X_loop {c : AX} : evX (orc T) T k (.loop c) st = loopX T k c st := rfl
@[simp] theorem X_scope {c : AX} : evX (orc T) T k (.scope c) st = evX (orc T) T k c st := rfl
@[simp] theorem X_exit {id : Nat} : evX (orc T) T k (.exit id) st = some (.x id, st) := rfl
@[simp] theorem X_ret : evX (orc T) T k .ret st = some (.r, st) := rfl
@[simp] theorem X_note {c : AX} {g : Gh} : evX (orc T) T k (.note c g) st = bX (evX (orc T) T k c st) fun s => stX (ghS k g s) := rfl
def prX (o : Option St) (f : St → Option (Ex × St)) : Option (Ex × St) := o.bind f
@[simp] theorem prX_some {s : St} {f : St → Option (Ex × St)} : prX (some s) f = f s := rfl
@[simp] theorem X_pre {c : AX} {g : Gh} : evX (orc T) T k (.pre g c) st = prX (ghS k g st) fun s => evX (orc T) T k c s := rfl
noncomputable def finX (k id : Nat) (g2 : Gh) (o : Option (Ex × St)) : Option (Ex × St) := bX (blkX id o) fun s => stX (ghS k g2 s)
noncomputable def loopN (T : Tbl) (k id : Nat) (g2 : Gh) (c : AX) (st : St) : Option (Ex × St) := finX k id g2 (loopX T k c st)
@[congr] theorem loopN_congr {id : Nat} {g2 : Gh} {c : AX} {st st' : St} (h : st = st') : loopN T k id g2 c st = loopN T k id g2 c st' := by rw [h]
@[congr] theorem finX_congr {id : Nat} {g2 : Gh} {o o' : Option (Ex × St)} (h : o = o') : finX k id g2 o = finX k id g2 o' := by rw [h]
@[simp] theorem finX_x {id j : Nat} {g2 : Gh} {s : St} : finX k id g2 (some (.x j, s)) = if j = id then stX (ghS k g2 s) else some (.x j, s) := by
 unfold finX
 rw [blkX_x]
 split <;> simp
@[simp] theorem finX_r {id : Nat} {g2 : Gh} {s : St} : finX k id g2 (some (.r, s)) = some (.r, s) := rfl
@[simp] theorem X_lp {id : Nat} {g g2 : Gh} {c : AX} : evX (orc T) T k (.lp id g c g2) st = prX (ghS k g st) fun s => loopN T k id g2 c s := by
 simp only [evX, prX, loopN, finX, bX, blkX, stX, loopX]
 cases ghS k g st with
 | none => rfl
 | some s =>
  simp only [Option.bind_some]
  cases (orc T).loop k c s with
  | none => rfl
  | some r =>
   obtain ⟨e, s'⟩ := r
   cases e with
   | n => rfl
   | r => rfl
   | x j =>
    simp only [Option.bind_some]
    split <;> rfl
def isEx : Option (Ex × St) → Bool
 | some (.x _, _) => true
 | some (.r, _) => true
 | _ => false
@[simp] theorem isEx_x {j : Nat} {s : St} : isEx (some (.x j, s)) = true := rfl
@[simp] theorem isEx_r {s : St} : isEx (some (.r, s)) = true := rfl
@[simp] theorem isEx_ite {c : Prop} [Decidable c] {a b : Option (Ex × St)} : isEx (if c then a else b) = if c then isEx a else isEx b := by split <;> rfl
@[congr] theorem isEx_congr {o o' : Option (Ex × St)} (h : o = o') : isEx o = isEx o' := by rw [h]
theorem loopX_eq {c : AX} : loopX T k c st = bX (evX (orc T) T k c st) fun s => loopX T k c s := orc_loop T k c st
theorem loopN_ex {α : Type} {id : Nat} {g2 : Gh} {c : AX} (F : α → St) (I : α → Prop) (μ : α → Nat) (Q : Ex × St → Prop)
  (step : ∀ x, I x → (∃ y, I y ∧ μ y < μ x ∧ evX (orc T) T k c (F x) = some (.n, F y)) ∨ (∃ r, Q r ∧ isEx (evX (orc T) T k c (F x)) = true ∧ finX k id g2 (evX (orc T) T k c (F x)) = some r)) :
  ∀ x, I x → ∃ r, Q r ∧ loopN T k id g2 c (F x) = some r := by
 have key : ∀ n x, μ x = n → I x → ∃ r, Q r ∧ loopN T k id g2 c (F x) = some r := by
  intro n
  induction n using Nat.strongRecOn with
  | _ n ih =>
   intro x hn hI
   unfold loopN
   rw [loopX_eq]
   rcases step x hI with ⟨y, h1, h2, h3⟩ | ⟨r, h1, h2, h3⟩
   ·rw [h3, bX_n]
    exact ih (μ y) (hn ▸ h2) y rfl h1
   ·refine ⟨r, h1, ?_⟩
    rw [← h3]
    generalize evX (orc T) T k c (F x) = o at h2 ⊢
    cases o with
    | none => cases h2
    | some q =>
     obtain ⟨e, s⟩ := q
     cases e
     ·cases h2
     ·rfl
     ·rfl
 exact fun x hI => key _ x rfl hI
theorem loopN_eq {α : Type} {id : Nat} {g2 : Gh} {c : AX} (F : α → St) (I : α → Prop) (μ : α → Nat) (G : α → Option (Ex × St))
  (step : ∀ x, I x → (∃ y, I y ∧ μ y < μ x ∧ evX (orc T) T k c (F x) = some (.n, F y) ∧ G y = G x) ∨ (isEx (evX (orc T) T k c (F x)) = true ∧ finX k id g2 (evX (orc T) T k c (F x)) = G x)) :
  ∀ x, I x → loopN T k id g2 c (F x) = G x := by
 have key : ∀ n x, μ x = n → I x → loopN T k id g2 c (F x) = G x := by
  intro n
  induction n using Nat.strongRecOn with
  | _ n ih =>
   intro x hn hI
   unfold loopN
   rw [loopX_eq]
   rcases step x hI with ⟨y, h1, h2, h3, h4⟩ | ⟨h2, h3⟩
   ·rw [h3, bX_n, ← h4]
    exact ih (μ y) (hn ▸ h2) y rfl h1
   ·rw [← h3]
    generalize evX (orc T) T k c (F x) = o at h2 ⊢
    cases o with
    | none => cases h2
    | some q =>
     obtain ⟨e, s⟩ := q
     cases e
     ·cases h2
     ·rfl
     ·rfl
 exact fun x hI => key _ x rfl hI
@[simp] theorem R_nil : runX (orc T) T [] st = some st := rfl
@[simp] theorem R_cons {d : Option Nat} {op : AOp} {l : List AO} : runX (orc T) T (⟨d, none, op⟩ :: l) st = bS (opX (orc T) T op d st) fun s => runX (orc T) T l s := rfl
noncomputable def gS (T : Tbl) (x : AV) (want : Bool) (op : AOp) (d : Option Nat) (st : St) : Option St := gX (orc T) T x want op d st
@[congr] theorem gS_congr {x x' : AV} {want : Bool} {op : AOp} (h : x = x') : gS T x want op d st = gS T x' want op d st := by rw [h]
@[simp] theorem R_guard {d : Option Nat} {op : AOp} {l : List AO} {t : Nat} {w : Bool} : runX (orc T) T (⟨d, some (t, w), op⟩ :: l) st = bS (gS T (st.env.get t) w op d st) fun s => runX (orc T) T l s := rfl
@[simp] theorem gS_b {v want : Bool} {op : AOp} : gS T (.b v) want op d st = if v = want then opX (orc T) T op d st else some ⟨putE st.env d (.tup []), st.heap, st.clk⟩ := rfl
@[simp] theorem gS_tup {vs : List AV} {want : Bool} {op : AOp} : gS T (.tup vs) want op d st = some ⟨putE st.env d (.tup []), st.heap, st.clk⟩ := rfl
@[simp] theorem O_mov {x} : opX (orc T) T (.mov x) d st = some ⟨putE st.env d (ev st.env.get x), st.heap, st.clk⟩ := rfl
@[simp] theorem O_pick {c a b} : opX (orc T) T (.pick c a b) d st = pS (pickAV (ev st.env.get c) (ev st.env.get a) (ev st.env.get b)) d st := rfl
@[simp] theorem O_build {zs ps} : opX (orc T) T (.build zs ps) d st = pS ((fillL zs (ps.map fun p => (p.1, p.2.1, ev st.env.get p.2.2))).map .agg) d st := rfl
@[simp] theorem O_load {n x} : opX (orc T) T (.load n x) d st = pS (loadAV n st.heap (ev st.env.get x)) d st := rfl
@[simp] theorem O_bin {o x y} : opX (orc T) T (.bin o x y) d st = pS (binV o (ev st.env.get x) (ev st.env.get y)) d st := rfl
@[simp] theorem O_eqs {g ls x y} : opX (orc T) T (.eqs g ls x y) d st = pS (eqsAV g ls (ev st.env.get x) (ev st.env.get y)) d st := rfl
@[simp] theorem O_eqnil {g x} : opX (orc T) T (.eqnil g x) d st = pS (eqnilAV g (ev st.env.get x)) d st := rfl
@[simp] theorem O_eqb {g x y} : opX (orc T) T (.eqb g x y) d st = pS (eqbAV g (ev st.env.get x) (ev st.env.get y)) d st := rfl
@[simp] theorem O_un {o x} : opX (orc T) T (.un o x) d st = pS (unAV o (ev st.env.get x)) d st := rfl
@[simp] theorem O_conv {n x} : opX (orc T) T (.conv n x) d st = pS (convAV n (ev st.env.get x)) d st := rfl
@[simp] theorem O_slc {z x lo hi mx} : opX (orc T) T (.slc z x lo hi mx) d st = pS (slcAV z st.heap (ev st.env.get x) (evO st.env.get lo) (evO st.env.get hi) (evO st.env.get mx)) d st := rfl
@[simp] theorem O_slstr {x lo hi} : opX (orc T) T (.slstr x lo hi) d st = pS (slstrAV (ev st.env.get x) (evO st.env.get lo) (evO st.env.get hi)) d st := rfl
@[simp] theorem O_fad {o x} : opX (orc T) T (.fad o x) d st = pS (fadAV o st.heap (ev st.env.get x)) d st := rfl
@[simp] theorem O_fld {o n x} : opX (orc T) T (.fld o n x) d st = pS (fldAV o n (ev st.env.get x)) d st := rfl
@[simp] theorem O_iad {z x i} : opX (orc T) T (.iad z x i) d st = pS (iadAV z st.heap (ev st.env.get x) (ev st.env.get i)) d st := rfl
@[simp] theorem O_iaa {z n x i} : opX (orc T) T (.iaa z n x i) d st = pS (iaaAV z n st.heap (ev st.env.get x) (ev st.env.get i)) d st := rfl
@[simp] theorem O_ixs {x i} : opX (orc T) T (.ixs x i) d st = pS (ixsAV (ev st.env.get x) (ev st.env.get i)) d st := rfl
@[simp] theorem O_ixa {z l n x i} : opX (orc T) T (.ixa z l n x i) d st = pS (ixaAV z l n (ev st.env.get x) (ev st.env.get i)) d st := rfl
@[simp] theorem O_len {x} : opX (orc T) T (.len x) d st = pS (lenAV st.heap (ev st.env.get x)) d st := rfl
@[simp] theorem O_lens {x} : opX (orc T) T (.lens x) d st = pS (lensAV (ev st.env.get x)) d st := rfl
@[simp] theorem O_lenc {n} : opX (orc T) T (.lenc n) d st = some ⟨putE st.env d (.i .i64 n), st.heap, st.clk⟩ := rfl
@[simp] theorem O_mm {m xs} : opX (orc T) T (.mm m xs) d st = pS (mmAV m (xs.map (ev st.env.get))) d st := rfl
@[simp] theorem O_ext {x n} : opX (orc T) T (.ext x n) d st = pS (extAV n (ev st.env.get x)) d st := rfl
@[simp] theorem O_nilc {x} : opX (orc T) T (.nilc x) d st = pS (nilcAV st.heap (ev st.env.get x)) d st := rfl
@[simp] theorem O_alloc {zs} : opX (orc T) T (.alloc zs) d st = pW (allocAV zs d st.heap st.clk) d st := rfl
@[simp] theorem O_store {n x v} : opX (orc T) T (.store n x v) d st = pW ((storeAV n st.heap (ev st.env.get x) (ev st.env.get v)).map fun h' => (.tup [], h', st.clk)) d st := rfl
@[simp] theorem O_mks {z zs l c} : opX (orc T) T (.mks z zs l c) d st = pW (mksAV z zs d st.heap st.clk (ev st.env.get l) (ev st.env.get c)) d st := rfl
@[simp] theorem O_app {z x y} : opX (orc T) T (.app z x y) d st = pW (appAV z d st.heap st.clk (ev st.env.get x) (ev st.env.get y)) d st := rfl
@[simp] theorem O_xop {x xs} : opX (orc T) T (.xop x xs) d st = pW (stepXV x (xs.map (ev st.env.get)) d st.heap st.clk) d st := rfl
@[simp] theorem O_bsl {z zs n ps} : opX (orc T) T (.bsl z zs n ps) d st = pB (bslAV z zs n st.heap (ps.map fun p => (p.1, ev st.env.get p.2))) d st := rfl
@[simp] theorem O_call {u args} : opX (orc T) T (.call u args) d st = callX (orc T) T u (args.map (ev st.env.get)) d st := rfl
def cR (r : Option AV) (xs : List AV) (d : Option Nat) (st : St) : Option St :=
 r.map fun r => ⟨putE st.env d r, if scalar r then st.heap else shareIds (xs.flatMap refs) st.heap, st.clk⟩
@[congr] theorem cR_congr {r r' : Option AV} {xs : List AV} (h : r = r') : cR r xs d st = cR r' xs d st := by rw [h]
@[simp] theorem cR_some {r : AV} {xs : List AV} : cR (some r) xs d st = some ⟨putE st.env d r, if scalar r then st.heap else shareIds (xs.flatMap refs) st.heap, st.clk⟩ := rfl
def bL (o : Option (List AV)) (f : List AV → Option St) : Option St := o.bind f
@[congr] theorem bL_congr {o o' : Option (List AV)} {f : List AV → Option St} (h : o = o') : bL o f = bL o' f := by rw [h]
@[simp] theorem bL_some {xs : List AV} {f : List AV → Option St} : bL (some xs) f = f xs := rfl
def frzL (h : Heap) : List AV → Option (List AV)
 | [] => some []
 | x :: l => (frz1 h x).bind fun y => (frzL h l).map fun ys => y :: ys
theorem frzL_eq (h : Heap) : ∀ l : List AV, l.mapM (frz1 h) = frzL h l
 | [] => rfl
 | x :: l => by simp only [List.mapM_cons, frzL, frzL_eq h l, Option.bind_eq_bind, Option.pure_def, Option.map_eq_bind, Function.comp_def]
attribute [simp] frzL frzM refsM rootsM
theorem callX_pure {u : Nat} {xs : List AV} {np nt : Nat} {res : List RV} {b : AX} {ex : Bool} (hT : T u = some ⟨np, nt, res, b, none, ex⟩) :
  callX (orc T) T u xs d st = bL (frzL st.heap xs) fun ys => cR (callF T u (ys.map (wkIf ex))) xs d st := by
 unfold callX bL cR callF
 rw [hT]
 simp only [frzL_eq]
 congr 1
 funext ys
 cases (orc T).call u (ys.map (wkIf ex)) [] <;> rfl
theorem callF_eq {u : Nat} {xs : List AV} {np nt : Nat} {res : List RV} {b : AX} {ex : Bool} (hT : T u = some ⟨np, nt, res, b, none, ex⟩) (hn : xs.length = np) (hp : b.isPrim = none := by rfl) :
  callF T u xs = retF res ex (evX (orc T) T 0 b ⟨argEnv xs, [], 1⟩) := by
 unfold callF retF
 rw [orc_call]
 simp only [nextO, hT, hp]
 rw [if_pos ⟨hn, by simp⟩]
 simp only [List.length_nil, Nat.zero_add]
 cases evX (orc T) T 0 b ⟨argEnv xs, [], 1⟩ with
 | none => rfl
 | some r =>
  obtain ⟨e, s⟩ := r
  cases e <;> simp only [Option.bind_some, endX, Option.map_none] <;> (cases resAV s res <;> simp only [Option.bind_none, Option.map_none, Option.bind_some] <;> cases frz s.heap _ <;> rfl)
theorem callF_prim {u : Nat} {xs : List AV} {np nt : Nat} {res : List RV} {f : List AV → Option AV} {ex : Bool} (hT : T u = some ⟨np, nt, res, .prim f, none, ex⟩) : callF T u xs = f xs := by
 unfold callF
 rw [orc_call]
 simp only [nextO, hT, AX.isPrim]
 cases f xs <;> simp
theorem callH_eq {u : Nat} {xs : List AV} {hb : Heap} {np nt : Nat} {res : List RV} {b : AX} {ms : List Bool} {ex : Bool} (hT : T u = some ⟨np, nt, res, b, some ms, ex⟩) (hn : xs.length = np) (hp : b.isPrim = none := by rfl) :
  callH T u xs hb = retH res ex hb.length (evX (orc T) T hb.length b ⟨argEnv xs, hb, hb.length + 1⟩) := by
 unfold callH retH
 rw [orc_call]
 simp only [nextO, hT, hp]
 rw [if_pos ⟨hn, by simp⟩]
 cases evX (orc T) T hb.length b ⟨argEnv xs, hb, hb.length + 1⟩ with
 | none => rfl
 | some r =>
  obtain ⟨e, s⟩ := r
  cases e <;> simp only [Option.bind_some, endX] <;> (cases resAV s res <;> rfl)
def outX (l : List BId) (hp h1 : Heap) (r : Option (AV × Heap)) (d : Option Nat) (st : St) : Option St :=
 r.bind fun r =>
  let hb' := r.2.map fun p => (outN l (d.getD 0) p.1, rlBox true (outN l (d.getD 0)) (outG hp st.clk) p.2)
  let r' := rlA (outN l (d.getD 0)) (outG hp st.clk) r.1
  if (hb'.map (·.1)).Nodup && refOk hb' r' && heapOk hb' then
   some ⟨putE st.env d r', hb' ++ (h1.filter fun p => !(l.contains p.1 || (hb'.map (·.1)).contains p.1)), st.clk + r.2.length + 2⟩
  else none
@[congr] theorem outX_congr {l : List BId} {hp h1 : Heap} {r r' : Option (AV × Heap)} (h : r = r') : outX l hp h1 r d st = outX l hp h1 r' d st := by rw [h]
noncomputable def lentX (ys : List AV) (h1 : Heap) (l : List BId) (T : Tbl) (u : Nat) (ex : Bool) (d : Option Nat) (st : St) : Option St :=
 if (pickH h1 l).map (·.1) = l ∧ l.Nodup then
  outX l (pickH h1 l) h1 (callH T u (ys.map fun y => rlA (inN l) (inG (pickH h1 l)) (wkIf ex y)) ((pickH h1 l).map fun p => (inN l p.1, rlBox ex (inN l) (inG (pickH h1 l)) p.2))) d st
 else none
@[simp] theorem outX_some {l : List BId} {hp h1 : Heap} {r : AV} {h2 : Heap} : outX l hp h1 (some (r, h2)) d st =
  (if ((h2.map fun p => (outN l (d.getD 0) p.1, rlBox true (outN l (d.getD 0)) (outG hp st.clk) p.2)).map (·.1)).Nodup && refOk (h2.map fun p => (outN l (d.getD 0) p.1, rlBox true (outN l (d.getD 0)) (outG hp st.clk) p.2)) (rlA (outN l (d.getD 0)) (outG hp st.clk) r) && heapOk (h2.map fun p => (outN l (d.getD 0) p.1, rlBox true (outN l (d.getD 0)) (outG hp st.clk) p.2)) then
   some ⟨putE st.env d (rlA (outN l (d.getD 0)) (outG hp st.clk) r), (h2.map fun p => (outN l (d.getD 0) p.1, rlBox true (outN l (d.getD 0)) (outG hp st.clk) p.2)) ++ (h1.filter fun p => !(l.contains p.1 || ((h2.map fun p => (outN l (d.getD 0) p.1, rlBox true (outN l (d.getD 0)) (outG hp st.clk) p.2)).map (·.1)).contains p.1)), st.clk + h2.length + 2⟩
  else none) := rfl
attribute [simp] lentX outN outG inN inG nameIx heapOk
theorem callX_lent {u : Nat} {xs : List AV} {np nt : Nat} {res : List RV} {b : AX} {ms : List Bool} {ex : Bool} (hT : T u = some ⟨np, nt, res, b, some ms, ex⟩) :
  callX (orc T) T u xs d st = bL (frzM st.heap ms xs) fun ys => lentX ys (shareIds (refsM ms xs) st.heap) (reach (shareIds (refsM ms xs) st.heap) 40 (rootsM ms xs) []) T u ex d st := by
 unfold callX bL lentX outX callH
 rw [hT]
def bD (o : Option (AV × Bool)) (f : AV × Bool → Option St) : Option St := o.bind f
@[congr] theorem bD_congr {o o' : Option (AV × Bool)} {f : AV × Bool → Option St} (h : o = o') : bD o f = bD o' f := by rw [h]
@[simp] theorem bD_some {e : AV × Bool} {f : AV × Bool → Option St} : bD (some e) f = f e := rfl
def bWr (o : Option (AV × Heap × Nat)) (f : AV × Heap × Nat → Option St) : Option St := o.bind f
@[congr] theorem bWr_congr {o o' : Option (AV × Heap × Nat)} {f : AV × Heap × Nat → Option St} (h : o = o') : bWr o f = bWr o' f := by rw [h]
@[simp] theorem bWr_some {q : AV × Heap × Nat} {f : AV × Heap × Nat → Option St} : bWr (some q) f = f q := rfl
def iP (b : Bool) (x : Option St) : Option St := if b then x else none
@[congr] theorem iP_congr {b b' : Bool} {x : Option St} (h : b = b') : iP b x = iP b' x := by rw [h]
@[simp] theorem iP_true {x : Option St} : iP true x = x := rfl
@[simp] theorem pendOk_nil {h : Heap} : pendOk [] h = true := by
 classical
 unfold pendOk
 exact decide_eq_true fun p hp => by cases hp
@[simp] theorem pendOk_zero {q : AOp × Env × AV} {l : PendX} {h : Heap} : pendOk ((0, q) :: l) h = pendOk l h := by
 classical
 unfold pendOk
 refine decide_eq_decide.2 ⟨fun h1 p hp => h1 p (List.mem_cons_of_mem _ hp), fun h1 p hp h0 => ?_⟩
 rcases List.mem_cons.1 hp with rfl | hp
 ·cases h0
 ·exact h1 p hp h0
@[simp] theorem pendOk_cons {n : Nat} {op : AOp} {e : Env} {x : AV} {l : PendX} {h : Heap} (hs : stepQ op e.get h = some x) : pendOk ((n, op, e, x) :: l) h = pendOk l h := by
 classical
 unfold pendOk
 refine decide_eq_decide.2 ⟨fun h1 p hp => h1 p (List.mem_cons_of_mem _ hp), fun h1 p hp h0 => ?_⟩
 rcases List.mem_cons.1 hp with rfl | hp
 ·exact hs
 ·exact h1 p hp h0
theorem keepD_free {op : AOp} {e : Env} {older : List Heap} {x : AV} (hf : op.free = true) : keepD op e older x = true := by unfold keepD; rw [hf]; rfl
theorem keepD_nil {op : AOp} {e : Env} {x : AV} : keepD op e [] x = true := by
 classical
 unfold keepD
 rw [Bool.or_eq_true]
 exact .inr (decide_eq_true fun h' hh => by cases hh)
noncomputable def dX (T : Tbl) (wr : Bool) (o : DO) (r : List DO) (e : Env) (h : Heap) (clk : Nat) (older : List Heap) (pend : PendX) : Option St :=
 match wr with
 | true => if o.ao.guard.isNone then bWr (stepW o.ao.op o.ao.dst e.get h clk) fun q => iP (pendOk pend q.2.1) (drawX (orc T) T r (putE e o.ao.dst q.1) q.2.1 q.2.2 (h :: older) (pend.map fun p => (p.1 - 1, p.2))) else none
 | false => bD (qX (orc T) T o.ao e h (older.take (older.length - o.lo))) fun x => drawX (orc T) T r (putE e o.ao.dst x.1) h clk older (pendAdd o older.length e x pend)
@[congr] theorem drawX_congr {l : List DO} {e e' : Env} {h h' : Heap} {clk clk' : Nat} {older older' : List Heap} {pend pend' : PendX} (h1 : e = e') (h2 : h = h') (h3 : clk = clk') (h4 : older = older') (h5 : pend = pend') : drawX (orc T) T l e h clk older pend = drawX (orc T) T l e' h' clk' older' pend' := by rw [h1, h2, h3, h4, h5]
@[simp] theorem drawX_nil {e : Env} {h : Heap} {clk : Nat} {older : List Heap} {pend : PendX} : drawX (orc T) T [] e h clk older pend = some ⟨e, h, clk⟩ := rfl
@[simp] theorem drawX_cons {o : DO} {r : List DO} {e : Env} {h : Heap} {clk : Nat} {older : List Heap} {pend : PendX} : drawX (orc T) T (o :: r) e h clk older pend = dX T o.ao.op.writes o r e h clk older pend := by
 unfold dX
 rw [drawX]
 cases o.ao.op.writes <;> rfl
@[simp] theorem dX_true {o : DO} {r : List DO} {e : Env} {h : Heap} {clk : Nat} {older : List Heap} {pend : PendX} : dX T true o r e h clk older pend = if o.ao.guard.isNone then bWr (stepW o.ao.op o.ao.dst e.get h clk) fun q => iP (pendOk pend q.2.1) (drawX (orc T) T r (putE e o.ao.dst q.1) q.2.1 q.2.2 (h :: older) (pend.map fun p => (p.1 - 1, p.2))) else none := rfl
@[simp] theorem dX_false {o : DO} {r : List DO} {e : Env} {h : Heap} {clk : Nat} {older : List Heap} {pend : PendX} : dX T false o r e h clk older pend = bD (qX (orc T) T o.ao e h (older.take (older.length - o.lo))) fun x => drawX (orc T) T r (putE e o.ao.dst x.1) h clk older (pendAdd o older.length e x pend) := rfl
def dV (o : Option AV) : Option (AV × Bool) := o.map fun x => (x, true)
@[simp] theorem dV_some {x : AV} : dV (some x) = some (x, true) := rfl
@[simp] theorem dV_none : dV none = none := rfl
@[simp] theorem qX_none {op : AOp} {e : Env} {h : Heap} {older : List Heap} : qX (orc T) T ⟨d, none, op⟩ e h older = dV (opD (orc T) T op e h older) := rfl
noncomputable def gD (T : Tbl) (x : AV) (want : Bool) (op : AOp) (e : Env) (h : Heap) (older : List Heap) : Option (AV × Bool) :=
 match x with
 | .b v => if v = want then dV (opD (orc T) T op e h older) else some (.tup [], false)
 | .tup [] => some (.tup [], false)
 | _ => none
@[simp] theorem qX_some {t : Nat} {want : Bool} {op : AOp} {e : Env} {h : Heap} {older : List Heap} : qX (orc T) T ⟨d, some (t, want), op⟩ e h older = gD T (e.get t) want op e h older := rfl
@[simp] theorem gD_b {v want : Bool} {op : AOp} {e : Env} {h : Heap} {older : List Heap} : gD T (.b v) want op e h older = if v = want then dV (opD (orc T) T op e h older) else some (.tup [], false) := rfl
@[simp] theorem gD_tup {want : Bool} {op : AOp} {e : Env} {h : Heap} {older : List Heap} : gD T (.tup []) want op e h older = some (.tup [], false) := rfl
noncomputable def dC (o : Option AV) (op : AOp) (older : List Heap) (e : Env) : Option AV := o.bind fun x => if keepD op e older x then some x else none
@[congr] theorem dC_congr {o o' : Option AV} {op : AOp} {older : List Heap} {e : Env} (h1 : o = o') : dC o op older e = dC o' op older e := by rw [h1]
@[simp] theorem dC_nil {x : AV} {op : AOp} {e : Env} : dC (some x) op [] e = some x := by
 unfold dC
 rw [Option.bind_some, keepD_nil]
 rfl
theorem free_eq {op : AOp} {h : Heap} {older : List Heap} {e : Env} (hf : op.free = true) : ((stepQ op e.get h).bind fun x => if keepD op e older x then some x else none) = stepQ op e.get h := by
 cases stepQ op e.get h with
 | none => rfl
 | some x => rw [Option.bind_some, keepD_free hf]; rfl
@[simp] theorem D_mov {x} {e : Env} {h : Heap} {older : List Heap} : opD (orc T) T (.mov x) e h older = some (ev e.get x) := free_eq (op := .mov x) (h := h) (older := older) (e := e) rfl
@[simp] theorem D_cpn {z y} {e : Env} {h : Heap} {older : List Heap} : opD (orc T) T (.app z (.c (.sl [] .nl)) y) e h older = cpnAV z (ev e.get y) := rfl
@[simp] theorem cpnAV_sl {z : Nat} {els : List (List AV)} {f : Fl} : cpnAV z (.sl els f) = if (els.head?.all fun r => r.length = z) ∧ els.length ≤ 4294967296 then some (.sl els .an) else none := rfl
@[simp] theorem writes_app_t {z n y} : (AOp.app z (.t n) y).writes = true := rfl
@[simp] theorem free_app_t {z n y} : (AOp.app z (.t n) y).free = false := rfl
@[simp] theorem maker_app_t {z n y} : (AOp.app z (.t n) y).maker = true := rfl
@[simp] theorem writes_cpn {z y} : (AOp.app z (.c (.sl [] .nl)) y).writes = false := rfl
@[simp] theorem free_cpn {z y} : (AOp.app z (.c (.sl [] .nl)) y).free = true := rfl
@[simp] theorem maker_cpn {z y} : (AOp.app z (.c (.sl [] .nl)) y).maker = false := rfl
@[simp] theorem D_pick {c a b} {e : Env} {h : Heap} {older : List Heap} : opD (orc T) T (.pick c a b) e h older = pickAV (ev e.get c) (ev e.get a) (ev e.get b) := free_eq (op := .pick c a b) (h := h) (older := older) (e := e) rfl
@[simp] theorem D_build {zs ps} {e : Env} {h : Heap} {older : List Heap} : opD (orc T) T (.build zs ps) e h older = (fillL zs (ps.map fun p => (p.1, p.2.1, ev e.get p.2.2))).map .agg := free_eq (op := .build zs ps) (h := h) (older := older) (e := e) rfl
@[simp] theorem D_bin {o x y} {e : Env} {h : Heap} {older : List Heap} : opD (orc T) T (.bin o x y) e h older = binV o (ev e.get x) (ev e.get y) := free_eq (op := .bin o x y) (h := h) (older := older) (e := e) rfl
@[simp] theorem D_eqs {g ls x y} {e : Env} {h : Heap} {older : List Heap} : opD (orc T) T (.eqs g ls x y) e h older = eqsAV g ls (ev e.get x) (ev e.get y) := free_eq (op := .eqs g ls x y) (h := h) (older := older) (e := e) rfl
@[simp] theorem D_eqnil {g x} {e : Env} {h : Heap} {older : List Heap} : opD (orc T) T (.eqnil g x) e h older = eqnilAV g (ev e.get x) := free_eq (op := .eqnil g x) (h := h) (older := older) (e := e) rfl
@[simp] theorem D_eqb {g x y} {e : Env} {h : Heap} {older : List Heap} : opD (orc T) T (.eqb g x y) e h older = eqbAV g (ev e.get x) (ev e.get y) := free_eq (op := .eqb g x y) (h := h) (older := older) (e := e) rfl
@[simp] theorem D_un {o x} {e : Env} {h : Heap} {older : List Heap} : opD (orc T) T (.un o x) e h older = unAV o (ev e.get x) := free_eq (op := .un o x) (h := h) (older := older) (e := e) rfl
@[simp] theorem D_conv {k x} {e : Env} {h : Heap} {older : List Heap} : opD (orc T) T (.conv k x) e h older = convAV k (ev e.get x) := free_eq (op := .conv k x) (h := h) (older := older) (e := e) rfl
@[simp] theorem D_slstr {x lo hi} {e : Env} {h : Heap} {older : List Heap} : opD (orc T) T (.slstr x lo hi) e h older = slstrAV (ev e.get x) (evO e.get lo) (evO e.get hi) := free_eq (op := .slstr x lo hi) (h := h) (older := older) (e := e) rfl
@[simp] theorem D_fld {o n x} {e : Env} {h : Heap} {older : List Heap} : opD (orc T) T (.fld o n x) e h older = fldAV o n (ev e.get x) := free_eq (op := .fld o n x) (h := h) (older := older) (e := e) rfl
@[simp] theorem D_ixs {x i} {e : Env} {h : Heap} {older : List Heap} : opD (orc T) T (.ixs x i) e h older = ixsAV (ev e.get x) (ev e.get i) := free_eq (op := .ixs x i) (h := h) (older := older) (e := e) rfl
@[simp] theorem D_ixa {z l n x i} {e : Env} {h : Heap} {older : List Heap} : opD (orc T) T (.ixa z l n x i) e h older = ixaAV z l n (ev e.get x) (ev e.get i) := free_eq (op := .ixa z l n x i) (h := h) (older := older) (e := e) rfl
@[simp] theorem D_lens {x} {e : Env} {h : Heap} {older : List Heap} : opD (orc T) T (.lens x) e h older = lensAV (ev e.get x) := free_eq (op := .lens x) (h := h) (older := older) (e := e) rfl
@[simp] theorem D_lenc {n} {e : Env} {h : Heap} {older : List Heap} : opD (orc T) T (.lenc n) e h older = some (.i .i64 n) := free_eq (op := .lenc n) (h := h) (older := older) (e := e) rfl
@[simp] theorem D_mm {m xs} {e : Env} {h : Heap} {older : List Heap} : opD (orc T) T (.mm m xs) e h older = mmAV m (xs.map (ev e.get)) := free_eq (op := .mm m xs) (h := h) (older := older) (e := e) rfl
@[simp] theorem D_ext {x n} {e : Env} {h : Heap} {older : List Heap} : opD (orc T) T (.ext x n) e h older = extAV n (ev e.get x) := free_eq (op := .ext x n) (h := h) (older := older) (e := e) rfl
@[simp] theorem D_load {n x} {e : Env} {h : Heap} {older : List Heap} : opD (orc T) T (.load n x) e h older = dC (loadAV n h (ev e.get x)) (.load n x) older e := rfl
@[simp] theorem D_slc {z x lo hi mx} {e : Env} {h : Heap} {older : List Heap} : opD (orc T) T (.slc z x lo hi mx) e h older = dC (slcAV z h (ev e.get x) (evO e.get lo) (evO e.get hi) (evO e.get mx)) (.slc z x lo hi mx) older e := rfl
@[simp] theorem D_fad {o x} {e : Env} {h : Heap} {older : List Heap} : opD (orc T) T (.fad o x) e h older = dC (fadAV o h (ev e.get x)) (.fad o x) older e := rfl
@[simp] theorem D_iad {z x i} {e : Env} {h : Heap} {older : List Heap} : opD (orc T) T (.iad z x i) e h older = dC (iadAV z h (ev e.get x) (ev e.get i)) (.iad z x i) older e := rfl
@[simp] theorem D_iaa {z n x i} {e : Env} {h : Heap} {older : List Heap} : opD (orc T) T (.iaa z n x i) e h older = dC (iaaAV z n h (ev e.get x) (ev e.get i)) (.iaa z n x i) older e := rfl
@[simp] theorem D_len {x} {e : Env} {h : Heap} {older : List Heap} : opD (orc T) T (.len x) e h older = dC (lenAV h (ev e.get x)) (.len x) older e := rfl
@[simp] theorem D_nilc {x} {e : Env} {h : Heap} {older : List Heap} : opD (orc T) T (.nilc x) e h older = dC (nilcAV h (ev e.get x)) (.nilc x) older e := rfl
def dR (r : Option AV) (xs : List AV) : Option AV := if xs.all noRef then r else none
@[congr] theorem dR_congr {r r' : Option AV} {xs : List AV} (h1 : r = r') : dR r xs = dR r' xs := by rw [h1]
@[simp] theorem dR_some {r : AV} {xs : List AV} : dR (some r) xs = if xs.all noRef then some r else none := rfl
theorem opD_call {u : Nat} {args : List Opd} {np nt : Nat} {res : List RV} {b : AX} {ex : Bool} {e : Env} {h : Heap} {older : List Heap} (hT : T u = some ⟨np, nt, res, b, none, ex⟩) :
  opD (orc T) T (.call u args) e h older = dR (callF T u ((args.map (ev e.get)).map (wkIf ex))) (args.map (ev e.get)) := by
 unfold dR callF
 simp only [opD, hT, Option.isNone_none, Bool.true_and]
@[simp] theorem D_bsl {z zs n ps} {e : Env} {h : Heap} {older : List Heap} : opD (orc T) T (.bsl z zs n ps) e h older = if (ps.map fun p => (p.1, ev e.get p.2)).all (fun p => noRef p.2) then (bslAV z zs n [] (ps.map fun p => (p.1, ev e.get p.2))).map (·.1) else none := rfl
@[congr] theorem headX_congr {tl l : List AO} {e e' : Env} {h h' : Heap} {clk clk' : Nat} (h1 : e = e') (h2 : h = h') (h3 : clk = clk') : headX (orc T) T tl l e h clk = headX (orc T) T tl l e' h' clk' := by rw [h1, h2, h3]
@[simp] theorem headX_nil {tl : List AO} {e : Env} {h : Heap} {clk : Nat} : headX (orc T) T tl [] e h clk = runX (orc T) T tl ⟨e, h, clk⟩ := rfl
@[simp] theorem headX_cons {tl r : List AO} {o : AO} {e : Env} {h : Heap} {clk : Nat} : headX (orc T) T tl (o :: r) e h clk = bD (qX (orc T) T o e h []) fun x => headX (orc T) T tl r (putE e o.dst x.1) h clk := rfl
@[congr] theorem headM_congr {tl l : List AO} {h0 : Heap} {c0 : Nat} {e e' : Env} {h h' : Heap} {clk clk' : Nat} (h1 : e = e') (h2 : h = h') (h3 : clk = clk') : headM (orc T) T tl h0 c0 l e h clk = headM (orc T) T tl h0 c0 l e' h' clk' := by rw [h1, h2, h3]
@[simp] theorem headM_nil {tl : List AO} {h0 : Heap} {c0 : Nat} {e : Env} {h : Heap} {clk : Nat} : headM (orc T) T tl h0 c0 [] e h clk = runX (orc T) T tl ⟨e, h, clk⟩ := rfl
noncomputable def kM (T : Tbl) (tl : List AO) (h0 : Heap) (c0 : Nat) (op : AOp) (d : Nat) (r : List AO) (e : Env) (h : Heap) (q : Option (AV × Heap × Nat)) : Option St :=
 q.bind fun q => if ((h.lookup (.loc d)).isNone && boxB c0 op e q.2.1) = true then headM (orc T) T tl h0 c0 r (putE e (some d) q.1) (q.2.1 ++ h) q.2.2 else none
@[simp] theorem kM_some {tl : List AO} {h0 : Heap} {c0 : Nat} {op : AOp} {d : Nat} {r : List AO} {e : Env} {h : Heap} {q : AV × Heap × Nat} : kM T tl h0 c0 op d r e h (some q) = if ((h.lookup (.loc d)).isNone && boxB c0 op e q.2.1) = true then headM (orc T) T tl h0 c0 r (putE e (some d) q.1) (q.2.1 ++ h) q.2.2 else none := rfl
noncomputable def kB (T : Tbl) (tl : List AO) (h0 : Heap) (c0 : Nat) (d : Nat) (r : List AO) (e : Env) (h : Heap) (q : Option (AV × Heap × Nat)) : Option St :=
 q.bind fun q => if q.2.1.all (fun p => (h.lookup p.1).isNone) = true then headM (orc T) T tl h0 c0 r (putE e (some d) q.1) (q.2.1 ++ h) q.2.2 else none
@[congr] theorem kB_congr {tl : List AO} {h0 : Heap} {c0 : Nat} {d : Nat} {r : List AO} {e : Env} {h : Heap} {q q' : Option (AV × Heap × Nat)} (h1 : q = q') : kB T tl h0 c0 d r e h q = kB T tl h0 c0 d r e h q' := by rw [h1]
@[simp] theorem kB_some {tl : List AO} {h0 : Heap} {c0 : Nat} {d : Nat} {r : List AO} {e : Env} {h : Heap} {q : AV × Heap × Nat} : kB T tl h0 c0 d r e h (some q) = if q.2.1.all (fun p => (h.lookup p.1).isNone) = true then headM (orc T) T tl h0 c0 r (putE e (some d) q.1) (q.2.1 ++ h) q.2.2 else none := rfl
noncomputable def lX (T : Tbl) (b : Option (Nat × List Opd)) (tl : List AO) (h0 : Heap) (c0 : Nat) (o : AO) (r : List AO) (e : Env) (h : Heap) (clk : Nat) : Option St :=
 match b with
 | some ua =>
  match o.guard, o.dst with
  | none, some d => kB T tl h0 c0 d r e h (callM (orc T) T ua.1 (ua.2.map (ev e.get)) d clk)
  | _, _ => none
 | none => bD (qX (orc T) T o e h0 []) fun x => if contB c0 o.op e (gnA x.1) = true then headM (orc T) T tl h0 c0 r (putE e o.dst x.1) h clk else none
@[simp] theorem lX_some {tl r : List AO} {h0 : Heap} {c0 : Nat} {op : AOp} {dd u : Nat} {args : List Opd} {e : Env} {h : Heap} {clk : Nat} : lX T (some (u, args)) tl h0 c0 ⟨some dd, none, op⟩ r e h clk = kB T tl h0 c0 dd r e h (callM (orc T) T u (args.map (ev e.get)) dd clk) := rfl
@[simp] theorem lX_none {tl r : List AO} {h0 : Heap} {c0 : Nat} {o : AO} {e : Env} {h : Heap} {clk : Nat} : lX T none tl h0 c0 o r e h clk = bD (qX (orc T) T o e h0 []) fun x => if contB c0 o.op e (gnA x.1) = true then headM (orc T) T tl h0 c0 r (putE e o.dst x.1) h clk else none := rfl
noncomputable def tX (T : Tbl) (tl : List AO) (h0 : Heap) (c0 : Nat) (r : List AO) (b : Bool) (e : Env) (q : Option Heap) (clk : Nat) : Option St :=
 q.bind fun h => if b = true then headM (orc T) T tl h0 c0 r e h clk else none
@[simp] theorem tX_some {tl : List AO} {h0 : Heap} {c0 : Nat} {r : List AO} {e : Env} {h : Heap} {clk : Nat} : tX T tl h0 c0 r true e (some h) clk = headM (orc T) T tl h0 c0 r e h clk := rfl
noncomputable def sX (T : Tbl) (b : Bool) (tl : List AO) (h0 : Heap) (c0 : Nat) (o : AO) (r : List AO) (e : Env) (h : Heap) (clk : Nat) : Option St :=
 match b with
 | true =>
  match o.guard, o.dst with
  | none, none => (stepW o.op none e.get h clk).bind fun q => if freshS h0 o.op e = true then headM (orc T) T tl h0 c0 r e q.2.1 q.2.2 else none
  | _, _ => none
 | false => lX T o.op.lentN tl h0 c0 o r e h clk
@[simp] theorem sX_true {tl r : List AO} {h0 : Heap} {c0 : Nat} {n : Nat} {x v : Opd} {e : Env} {h : Heap} {clk : Nat} : sX T true tl h0 c0 ⟨none, none, .store n x v⟩ r e h clk = tX T tl h0 c0 r (freshS h0 (.store n x v) e) e (storeAV n h (ev e.get x) (ev e.get v)) clk := by
 unfold sX tX
 simp only [stepW]
 cases storeAV n h (ev e.get x) (ev e.get v) <;> rfl
@[simp] theorem sX_false {tl r : List AO} {h0 : Heap} {c0 : Nat} {o : AO} {e : Env} {h : Heap} {clk : Nat} : sX T false tl h0 c0 o r e h clk = lX T o.op.lentN tl h0 c0 o r e h clk := rfl
noncomputable def callMr (r : Option (AV × Heap)) (d clk : Nat) : Option (AV × Heap × Nat) :=
 r.bind fun r =>
  let hb' := r.2.map fun p => (outN [] d p.1, rlBox true (outN [] d) (outG [] clk) p.2)
  let r' := rlA (outN [] d) (outG [] clk) r.1
  if (hb'.map (·.1)).Nodup ∧ geB clk (gnA r') = true ∧ geH clk hb' = true then some (r', hb', clk + (r.2.length + 2)) else none
theorem callM_row {u : Nat} {xs : List AV} {dd clk : Nat} {np nt : Nat} {res : List RV} {b : AX} {ms : List Bool} {ex : Bool} (hT : T u = some ⟨np, nt, res, b, some ms, ex⟩) (hn : xs.all noRef = true) :
  callM (orc T) T u xs dd clk = callMr (callH T u (xs.map fun y => rlA (inN []) (inG []) (wkIf ex y)) []) dd clk := by
 unfold callM callMr callH
 rw [hT]
 simp only [hn, if_true]
@[congr] theorem callMr_congr {r r' : Option (AV × Heap)} {dd clk : Nat} (h : r = r') : callMr r dd clk = callMr r' dd clk := by rw [h]
@[simp] theorem callMr_some {r : AV × Heap} {dd clk : Nat} : callMr (some r) dd clk = if ((r.2.map fun p => (outN [] dd p.1, rlBox true (outN [] dd) (outG [] clk) p.2)).map (·.1)).Nodup ∧ geB clk (gnA (rlA (outN [] dd) (outG [] clk) r.1)) = true ∧ geH clk (r.2.map fun p => (outN [] dd p.1, rlBox true (outN [] dd) (outG [] clk) p.2)) = true then some (rlA (outN [] dd) (outG [] clk) r.1, r.2.map fun p => (outN [] dd p.1, rlBox true (outN [] dd) (outG [] clk) p.2), clk + (r.2.length + 2)) else none := rfl
noncomputable def mX (T : Tbl) (b : Bool) (tl : List AO) (h0 : Heap) (c0 : Nat) (o : AO) (r : List AO) (e : Env) (h : Heap) (clk : Nat) : Option St :=
 match b with
 | true =>
  match o.guard, o.dst with
  | none, some d => kM T tl h0 c0 o.op d r e h (stepW o.op (some d) e.get [] clk)
  | _, _ => none
 | false => sX T o.op.isStore tl h0 c0 o r e h clk
@[simp] theorem headM_cons {tl r : List AO} {h0 : Heap} {c0 : Nat} {o : AO} {e : Env} {h : Heap} {clk : Nat} : headM (orc T) T tl h0 c0 (o :: r) e h clk = mX T (AOp.maker o.op) tl h0 c0 o r e h clk := by
 unfold mX
 simp only [headM]
 cases AOp.maker o.op with
 | false =>
  unfold sX
  simp only
  cases AOp.isStore o.op with
  | true =>
   obtain ⟨dd, g, op⟩ := o
   cases g <;> cases dd <;> rfl
  | false =>
   unfold lX
   simp only
   cases AOp.lentN o.op with
   | none => rfl
   | some ua =>
    obtain ⟨dd, g, op⟩ := o
    cases g <;> cases dd <;> rfl
 | true =>
  obtain ⟨dd, g, op⟩ := o
  cases g <;> cases dd <;> rfl
@[simp] theorem mX_true {tl r : List AO} {h0 : Heap} {c0 : Nat} {op : AOp} {dd : Nat} {e : Env} {h : Heap} {clk : Nat} : mX T true tl h0 c0 ⟨some dd, none, op⟩ r e h clk = kM T tl h0 c0 op dd r e h (stepW op (some dd) e.get [] clk) := rfl
@[simp] theorem mX_false {tl r : List AO} {h0 : Heap} {c0 : Nat} {o : AO} {e : Env} {h : Heap} {clk : Nat} : mX T false tl h0 c0 o r e h clk = sX T o.op.isStore tl h0 c0 o r e h clk := rfl
@[simp] theorem X_drawM {hd tl : List AO} : evX (orc T) T k (.drawM hd tl) st = stX (headM (orc T) T tl st.heap st.clk hd st.env st.heap st.clk) := rfl
@[simp] theorem O_ifc {n x} : opX (orc T) T (.ifc n x) d st = some ⟨putE st.env d (.ifc (tyNum T n) (ev st.env.get x)), st.heap, st.clk⟩ := rfl
noncomputable def iS (T : Tbl) (x : AV) (nm : String) (n u : Nat) (args : List AV) (d : Option Nat) (st : St) : Option St :=
 match x with
 | .ifc t y => if t = tyNum T n ∧ (nm, u) ∈ methsT T n then callX (orc T) T u (y :: args) d st else none
 | _ => none
@[congr] theorem iS_congr {x x' : AV} {nm : String} {n u : Nat} {args args' : List AV} {d : Option Nat} {st : St} (h1 : x = x') (h2 : args = args') : iS T x nm n u args d st = iS T x' nm n u args' d st := by rw [h1, h2]
@[simp] theorem O_inv {nm n u r args} : opX (orc T) T (.inv nm n u r args) d st = iS T (ev st.env.get r) nm n u (args.map (ev st.env.get)) d st := by
 simp only [opX]
 cases ev st.env.get r <;> rfl
@[simp] theorem iS_ifc {y : AV} {nm : String} {n u : Nat} {args : List AV} {st : St} : iS T (.ifc (tyNum T n) y) nm n u args d st = if (nm, u) ∈ methsT T n then callX (orc T) T u (y :: args) d st else none := by
 unfold iS
 simp only [true_and]
@[simp] theorem D_ifc {n x} {e : Env} {h : Heap} {older : List Heap} : opD (orc T) T (.ifc n x) e h older = some (.ifc (tyNum T n) (ev e.get x)) := rfl
noncomputable def dI (T : Tbl) (u : Nat) (xs : List AV) : Option AV :=
 match T u with
 | none => none
 | some af => if (af.lent.isNone && xs.all noRef) = true then ((orc T).call u (xs.map (wkIf af.exact)) []).map (·.1) else none
noncomputable def iD (T : Tbl) (x : AV) (nm : String) (n u : Nat) (args : List AV) : Option AV :=
 match x with
 | .ifc t y => if t = tyNum T n ∧ (nm, u) ∈ methsT T n then dI T u (drp1 y :: args) else none
 | _ => none
@[congr] theorem iD_congr {x x' : AV} {nm : String} {n u : Nat} {args args' : List AV} (h1 : x = x') (h2 : args = args') : iD T x nm n u args = iD T x' nm n u args' := by rw [h1, h2]
@[simp] theorem D_inv {nm n u r args} {e : Env} {h : Heap} {older : List Heap} : opD (orc T) T (.inv nm n u r args) e h older = iD T (ev e.get r) nm n u (args.map (ev e.get)) := by
 simp only [opD]
 cases ev e.get r <;> rfl
@[simp] theorem iD_ifc {y : AV} {nm : String} {n u : Nat} {args : List AV} : iD T (.ifc (tyNum T n) y) nm n u args = if (nm, u) ∈ methsT T n then dI T u (drp1 y :: args) else none := by
 unfold iD
 simp only [true_and]
theorem dI_eq {u : Nat} {xs : List AV} {np nt : Nat} {res : List RV} {b : AX} {ex : Bool} (hT : T u = some ⟨np, nt, res, b, none, ex⟩) : dI T u xs = dR (callF T u (xs.map (wkIf ex))) xs := by
 unfold dI dR callF
 simp only [hT, Option.isNone_none, Bool.true_and]
theorem meths_eq {n t : Nat} {res : List RV} {x : String × Nat} (hT : T (1000000 + n) = some ⟨t, 0, res, .bad, none, false⟩) : x ∈ methsT T n ↔ x ∈ methsA ⟨t, 0, res, .bad, none, false⟩ := by
 unfold methsT
 rw [hT]
 rfl
@[simp] theorem X_drawT {hd tl : List AO} : evX (orc T) T k (.drawT hd tl) st = stX (headX (orc T) T tl hd st.env st.heap st.clk) := rfl
attribute [simp] pendAdd stepXV boxXV cpyXV bstrXV arslXV appsXV ghS normS reach bors pickH sigG genIx kids rlBox
attribute [simp] gnA gnR contB boxB slotsM slotOf AOp.maker drp1 drpC AOp.lentN AOp.isStore freshS geB geH
attribute [simp] AOp.writes AOp.free slcAV bndO liveP storeAV allocAV mksAV
end
end
section
open Go.RowKit
def sub32 (a b : Nat) : Nat := (((a : Int) - b) % 4294967296).toNat
def sub64 (a b : Nat) : Nat := (((a : Int) - b) % 18446744073709551616).toNat
def sub8 (a b : Nat) : Nat := (((a : Int) - b) % 256).toNat
theorem wrap_u32' (n : Int) : IntKind.wrap .u32 n = (((n % 4294967296).toNat : Nat) : Int) := by
 simp [IntKind.wrap, IntKind.signed, IntKind.bits]; omega
theorem wrap_u64' (n : Int) : IntKind.wrap .u64 n = (((n % 18446744073709551616).toNat : Nat) : Int) := by
 simp [IntKind.wrap, IntKind.signed, IntKind.bits]; omega
@[simp] theorem wrap_i64s (n : Int) (h1 : -9223372036854775808 ≤ n) (h2 : n < 9223372036854775808) : IntKind.wrap .i64 n = n := wrap_i64 n ⟨h1, h2⟩
@[simp] theorem toNat_add2 (a b : Nat) : ((a : Int) + (b : Int)).toNat = a + b := by omega
@[simp] theorem nonneg_add2 (a b : Nat) : (0 : Int) ≤ (a : Int) + (b : Int) := by omega
@[simp] theorem toNat_add21 (a b : Nat) : ((a : Int) + (b : Int) + 1).toNat = a + b + 1 := by omega
@[simp] theorem nonneg_add21 (a b : Nat) : (0 : Int) ≤ (a : Int) + (b : Int) + 1 := by omega
section
variable (a b : Nat) (k : IntKind) (n : Int)
@[simp] theorem add32 : binV .add (u32 a) (u32 b) = some (u32 ((a + b) % 4294967296)) := by
 simp only [u32, binV_add, ← Int.natCast_add, wrap_u32]
@[simp] theorem add64 : binV .add (u64 a) (u64 b) = some (u64 ((a + b) % 18446744073709551616)) := by
 simp only [u64, binV_add, ← Int.natCast_add, wrap_u64]
@[simp] theorem mul64 : binV .mul (u64 a) (u64 b) = some (u64 ((a * b) % 18446744073709551616)) := by
 simp only [u64, binV_mul, ← Int.natCast_mul, wrap_u64]
@[simp] theorem subw32 : binV .sub (u32 a) (u32 b) = some (u32 (sub32 a b)) := by
 simp only [u32, binV_sub, wrap_u32', sub32]
theorem tdiv_nat : ((a : Int).tdiv (b : Int)) = ((a / b : Nat) : Int) := by rw [Int.ofNat_tdiv]
theorem tmod_nat : ((a : Int).tmod (b : Int)) = ((a % b : Nat) : Int) := by rw [Int.ofNat_tmod]
@[simp] theorem quo32 : binV .quo (u32 a) (u32 b) = if b = 0 then none else some (u32 (a / b % 4294967296)) := by
 simp only [u32, binV_quo, tdiv_nat, wrap_u32, Int.natCast_eq_zero]
@[simp] theorem quo64 : binV .quo (u64 a) (u64 b) = if b = 0 then none else some (u64 (a / b % 18446744073709551616)) := by
 simp only [u64, binV_quo, tdiv_nat, wrap_u64, Int.natCast_eq_zero]
@[simp] theorem rem32 : binV .rem (u32 a) (u32 b) = if b = 0 then none else some (u32 (a % b)) := by
 simp only [u32, binV_rem, tmod_nat, Int.natCast_eq_zero]
@[simp] theorem rem64 : binV .rem (u64 a) (u64 b) = if b = 0 then none else some (u64 (a % b)) := by
 simp only [u64, binV_rem, tmod_nat, Int.natCast_eq_zero]
theorem bvn (w : Nat) : (BitVec.ofInt w (a : Int)).toNat = a % 2 ^ w := by simp
@[simp] theorem or32 : binV .or (u32 a) (u32 b) = some (u32 ((a ||| b) % 4294967296)) := by
 have h := Nat.or_mod_two_pow (a := a) (b := b) (n := 32)
 have e : ((BitVec.ofInt 32 (a : Int) ||| BitVec.ofInt 32 (b : Int)).toNat) = (a ||| b) % 2 ^ 32 := by rw [BitVec.toNat_or, bvn, bvn, ← h]
 show some (AV.i .u32 (IntKind.wrap .u32 (((BitVec.ofInt 32 (a : Int) ||| BitVec.ofInt 32 (b : Int)).toNat : Nat) : Int))) = _
 rw [e, wrap_u32]
 simp [u32]
@[simp] theorem or64 : binV .or (u64 a) (u64 b) = some (u64 ((a ||| b) % 18446744073709551616)) := by
 have h := Nat.or_mod_two_pow (a := a) (b := b) (n := 64)
 have e : ((BitVec.ofInt 64 (a : Int) ||| BitVec.ofInt 64 (b : Int)).toNat) = (a ||| b) % 2 ^ 64 := by rw [BitVec.toNat_or, bvn, bvn, ← h]
 show some (AV.i .u64 (IntKind.wrap .u64 (((BitVec.ofInt 64 (a : Int) ||| BitVec.ofInt 64 (b : Int)).toNat : Nat) : Int))) = _
 rw [e, wrap_u64]
 simp [u64]
theorem natMulPow (m : Nat) : ((a : Int) * 2 ^ m) = ((a * 2 ^ m : Nat) : Int) := by simp
theorem natFdivPow (m : Nat) : ((a : Int).fdiv (2 ^ m)) = ((a / 2 ^ m : Nat) : Int) := by
 rw [Int.fdiv_eq_ediv_of_nonneg _ (Int.pow_nonneg (by decide))]; simp
@[simp] theorem shl64 : binV .shl (u64 a) (.i k n) = if n < 0 then none else some (u64 (a * 2 ^ (min n.toNat 64) % 18446744073709551616)) := by
 simp only [u64, binV, IntKind.bits, natMulPow, wrap_u64]
@[simp] theorem shr32 : binV .shr (u32 a) (.i k n) = if n < 0 then none else some (u32 (a / 2 ^ (min n.toNat 32))) := by
 simp only [u32, binV, IntKind.bits, natFdivPow]
@[simp] theorem shr64 : binV .shr (u64 a) (.i k n) = if n < 0 then none else some (u64 (a / 2 ^ (min n.toNat 64))) := by
 simp only [u64, binV, IntKind.bits, natFdivPow]
@[simp] theorem notneg : ¬ ((b : Int) < 0) := by omega
@[simp] theorem shl64b : binV .shl (u64 a) (u64 b) = some (u64 (a * 2 ^ (min b 64) % 18446744073709551616)) := by
 rw [show u64 b = .i .u64 (b : Int) from rfl, shl64, if_neg (notneg b), Int.toNat_natCast]
@[simp] theorem shr64b : binV .shr (u64 a) (u64 b) = some (u64 (a / 2 ^ (min b 64))) := by
 rw [show u64 b = .i .u64 (b : Int) from rfl, shr64, if_neg (notneg b), Int.toNat_natCast]
@[simp] theorem eql32 : binV .eql (u32 a) (u32 b) = some (.b (decide (a = b))) := by
 simp only [u32, binV_eql, Option.some.injEq, AV.b.injEq]; rw [Bool.eq_iff_iff]; simp [Int.natCast_inj]
@[simp] theorem neq32 : binV .neq (u32 a) (u32 b) = some (.b (!decide (a = b))) := by
 simp only [u32, binV_neq, Option.some.injEq, AV.b.injEq]; rw [Bool.eq_iff_iff]; simp [Int.natCast_inj]
@[simp] theorem lss32 : binV .lss (u32 a) (u32 b) = some (.b (decide (a < b))) := by simp [u32, binV_lss]
@[simp] theorem leq32 : binV .leq (u32 a) (u32 b) = some (.b (decide (a ≤ b))) := by simp [u32, binV_leq]
@[simp] theorem gtr32 : binV .gtr (u32 a) (u32 b) = some (.b (decide (b < a))) := by simp [u32, binV_gtr]
@[simp] theorem geq32 : binV .geq (u32 a) (u32 b) = some (.b (decide (b ≤ a))) := by simp [u32, binV_geq]
@[simp] theorem neq64 : binV .neq (u64 a) (u64 b) = some (.b (!decide (a = b))) := by
 simp only [u64, binV_neq, Option.some.injEq, AV.b.injEq]; rw [Bool.eq_iff_iff]; simp [Int.natCast_inj]
@[simp] theorem eql8 : binV .eql (u8 a) (u8 b) = some (.b (decide (a = b))) := by
 simp only [u8, binV_eql, Option.some.injEq, AV.b.injEq]; rw [Bool.eq_iff_iff]; simp [Int.natCast_inj]
@[simp] theorem lss8 : binV .lss (u8 a) (u8 b) = some (.b (decide (a < b))) := by simp [u8, binV_lss]
@[simp] theorem conv_32_64 : convAV .u64 (u32 a) = some (u64 (a % 18446744073709551616)) := by simp only [u32, u64, convAV, wrap_u64]
@[simp] theorem conv_64_32 : convAV .u32 (u64 a) = some (u32 (a % 4294967296)) := by simp only [u32, u64, convAV, wrap_u32]
@[simp] theorem conv_32_8 : convAV .u8 (u32 a) = some (u8 (a % 256)) := by simp only [u32, u8, convAV, wrap_u8]
@[simp] theorem conv_i_64 : convAV .u64 (.i .i64 n) = some (u64 (n % 18446744073709551616).toNat) := by simp only [u64, convAV, wrap_u64']
@[simp] theorem conv_32_i : convAV .i64 (u32 a) = some (.i .i64 (IntKind.wrap .i64 a)) := rfl
@[simp] theorem conv_64_i : convAV .i64 (u64 a) = some (.i .i64 (IntKind.wrap .i64 a)) := rfl
@[simp] theorem conv_8_i : convAV .i64 (u8 a) = some (.i .i64 (IntKind.wrap .i64 a)) := rfl
@[simp] theorem conv_i_i : convAV .i64 (.i .i64 n) = some (.i .i64 (IntKind.wrap .i64 n)) := rfl
@[simp] theorem neg64 : unAV .neg (u64 a) = some (u64 (sub64 0 a)) := by simp [u64, unAV, wrap_u64', sub64]
@[simp] theorem neg_i : unAV .neg (.i .i64 n) = some (.i .i64 (IntKind.wrap .i64 (0 - n))) := rfl
@[simp] theorem not_b (t : Bool) : unAV .not (.b t) = some (.b (!t)) := rfl
@[simp] theorem bnd_u8 (m : Nat) (y : Int) : bnd (u8 m) y = if 0 ≤ (m : Int) ∧ (m : Int) ≤ y then some m else none := rfl
@[simp] theorem bnd_u32 (m : Nat) (y : Int) : bnd (u32 m) y = if 0 ≤ (m : Int) ∧ (m : Int) ≤ y then some m else none := rfl
@[simp] theorem bnd_u64 (m : Nat) (y : Int) : bnd (u64 m) y = if 0 ≤ (m : Int) ∧ (m : Int) ≤ y then some m else none := rfl
attribute [simp] slstrAV iaaAV ixaAV
@[simp] theorem ixs_u8 (l : List UInt8) : ixsAV (.s l) (.i k n) = if 0 ≤ n ∧ n < l.length then (l[n.toNat]?).map fun b => u8 b.toNat else none := rfl
@[simp] theorem leafEq_i (k' : IntKind) (x y : Int) : leafEq .int (.i k x) (.i k' y) = if k = k' then some (x == y) else none := rfl
end
@[simp] theorem u32_inj (a b : Nat) : u32 a = u32 b ↔ a = b := by simp [u32, Int.natCast_inj]
@[simp] theorem u64_inj (a b : Nat) : u64 a = u64 b ↔ a = b := by simp [u64, Int.natCast_inj]
theorem u32_lt (x : UInt32) : x.toNat < 4294967296 := x.toNat_lt
@[simp] theorem u32_lts (x : UInt32) : x.toNat < 4294967296 := x.toNat_lt
def w32 (n : Nat) : UInt32 := UInt32.ofNat n
theorem w32_toNat (n : Nat) : (w32 n).toNat = n % 4294967296 := UInt32.toNat_ofNat' ..
theorem w32_of_lt {n : Nat} (h : n < 4294967296) : (w32 n).toNat = n := by rw [w32_toNat, Nat.mod_eq_of_lt h]
@[simp] theorem w32_toNat' (x : UInt32) : w32 x.toNat = x := UInt32.ofNat_toNat
def u32s (l : List UInt32) : List (List AV) := l.map fun x => [u32 x.toNat]
def ints (l : List Int) : List (List AV) := l.map fun x => [.i .i64 x]
def u8s (l : List UInt8) : List (List AV) := l.map fun x => [u8 x.toNat]
section
variable (l m : List UInt32) (x : UInt32)
@[simp] theorem u32s_nil : u32s [] = [] := rfl
@[simp] theorem u32s_length : (u32s l).length = l.length := by simp [u32s]
@[simp] theorem u32s_wk : wkL (u32s l) = u32s l := by
 rw [wkL_map]; simp [u32s, wkR]
@[simp] theorem u32s_take (n : Nat) : (u32s l).take n = u32s (l.take n) := by simp [u32s]
@[simp] theorem u32s_drop (n : Nat) : (u32s l).drop n = u32s (l.drop n) := by simp [u32s]
@[simp] theorem u32s_append : u32s l ++ u32s m = u32s (l ++ m) := by simp [u32s]
@[simp] theorem u32s_snoc (n : Nat) (h : n < 4294967296) : u32s l ++ [[u32 n]] = u32s (l ++ [w32 n]) := by simp [u32s, w32_of_lt h]
@[simp] theorem u32s_getElem? (i : Nat) : (u32s l)[i]? = (l[i]?).map fun x => [u32 x.toNat] := by simp [u32s]
@[simp] theorem u32s_getElem (i : Nat) (h : i < (u32s l).length) : (u32s l)[i] = [u32 (l[i]'(by simpa using h)).toNat] := by simp [u32s]
theorem u32s_set (i : Nat) (n : Nat) (h : n < 4294967296) : (u32s l).set i [u32 n] = u32s (l.set i (w32 n)) := by simp [u32s, List.map_set, w32_of_lt h]
@[simp] theorem u32s_setm (i n : Nat) : (u32s l).set i [u32 (n % 4294967296)] = u32s (l.set i (w32 n)) := by simp [u32s, List.map_set, w32_toNat]
@[simp] theorem u32s_rep (n : Nat) : List.replicate n [u32 0] = u32s (List.replicate n 0) := by simp [u32s]
@[simp] theorem u32s_head (z : Nat) : ((u32s l).head?.all fun r => decide (r.length = z)) = (l.isEmpty || decide (z = 1)) := by
 cases l <;> simp [u32s, eq_comm]
end
end
def b115 : AX :=
 (.seq
 (.reg [⟨(some 6), none, .mov (.c (u32 0))⟩,
 ⟨(some 7), none, .mov (.c (u32 0))⟩])
 (.seq
 (.reg [⟨(some 8), none, .mov (.t 0)⟩,
 ⟨(some 9), none, .mov (.t 1)⟩,
 ⟨(some 10), none, .bin .add (.t 8) (.t 9)⟩,
 ⟨(some 6), none, .mov (.t 10)⟩])
 (.seq
 (.seq
 (.reg [⟨(some 11), none, .mov (.t 6)⟩,
 ⟨(some 12), none, .mov (.t 0)⟩,
 ⟨(some 13), none, .bin .lss (.t 11) (.t 12)⟩])
 (.cond (.t 13)
 (.reg [⟨(some 14), none, .mov (.t 7)⟩,
 ⟨(some 15), none, .bin .add (.t 14) (.c (u32 1))⟩,
 ⟨(some 7), none, .mov (.t 15)⟩])
 .skip))
 (.seq
 (.reg [⟨(some 16), none, .mov (.t 6)⟩,
 ⟨(some 17), none, .mov (.t 2)⟩,
 ⟨(some 18), none, .bin .add (.t 16) (.t 17)⟩,
 ⟨(some 6), none, .mov (.t 18)⟩])
 (.seq
 (.seq
 (.reg [⟨(some 19), none, .mov (.t 6)⟩,
 ⟨(some 20), none, .mov (.t 2)⟩,
 ⟨(some 21), none, .bin .lss (.t 19) (.t 20)⟩])
 (.cond (.t 21)
 (.reg [⟨(some 22), none, .mov (.t 7)⟩,
 ⟨(some 23), none, .bin .add (.t 22) (.c (u32 1))⟩,
 ⟨(some 7), none, .mov (.t 23)⟩])
 .skip))
 (.seq
 (.reg [⟨(some 24), none, .mov (.t 6)⟩,
 ⟨(some 25), none, .mov (.t 7)⟩,
 ⟨(some 6), none, .mov (.t 24)⟩,
 ⟨(some 7), none, .mov (.t 25)⟩])
 (.pre (.norm false [6, 7]) .ret)))))))
def b116 : AX :=
 (.seq
 (.reg [⟨(some 6), none, .mov (.c (u32 0))⟩,
 ⟨(some 7), none, .mov (.c (u32 0))⟩])
 (.seq
 (.reg [⟨(some 8), none, .mov (.t 0)⟩,
 ⟨(some 9), none, .mov (.t 1)⟩,
 ⟨(some 10), none, .bin .sub (.t 8) (.t 9)⟩,
 ⟨(some 6), none, .mov (.t 10)⟩])
 (.seq
 (.seq
 (.reg [⟨(some 11), none, .mov (.t 0)⟩,
 ⟨(some 12), none, .mov (.t 1)⟩,
 ⟨(some 13), none, .bin .lss (.t 11) (.t 12)⟩])
 (.cond (.t 13)
 (.reg [⟨(some 14), none, .mov (.t 7)⟩,
 ⟨(some 15), none, .bin .add (.t 14) (.c (u32 1))⟩,
 ⟨(some 7), none, .mov (.t 15)⟩])
 .skip))
 (.seq
 (.seq
 (.reg [⟨(some 16), none, .mov (.t 6)⟩,
 ⟨(some 17), none, .mov (.t 2)⟩,
 ⟨(some 18), none, .bin .lss (.t 16) (.t 17)⟩])
 (.cond (.t 18)
 (.reg [⟨(some 19), none, .mov (.t 7)⟩,
 ⟨(some 20), none, .bin .add (.t 19) (.c (u32 1))⟩,
 ⟨(some 7), none, .mov (.t 20)⟩])
 .skip))
 (.seq
 (.reg [⟨(some 21), none, .mov (.t 6)⟩,
 ⟨(some 22), none, .mov (.t 2)⟩,
 ⟨(some 23), none, .bin .sub (.t 21) (.t 22)⟩,
 ⟨(some 24), none, .mov (.t 7)⟩,
 ⟨(some 6), none, .mov (.t 23)⟩,
 ⟨(some 7), none, .mov (.t 24)⟩])
 (.pre (.norm false [6, 7]) .ret))))))
def b117 : AX :=
 (.seq
 (.reg [⟨(some 8), none, .mov (.c (u32 0))⟩,
 ⟨(some 9), none, .mov (.c (u32 0))⟩])
 (.seq
 (.reg [⟨(some 11), none, .mov (.t 0)⟩,
 ⟨(some 12), none, .conv .u64 (.t 11)⟩,
 ⟨(some 13), none, .mov (.t 1)⟩,
 ⟨(some 14), none, .conv .u64 (.t 13)⟩,
 ⟨(some 15), none, .bin .mul (.t 12) (.t 14)⟩,
 ⟨(some 16), none, .mov (.t 2)⟩,
 ⟨(some 17), none, .conv .u64 (.t 16)⟩,
 ⟨(some 18), none, .bin .add (.t 15) (.t 17)⟩,
 ⟨(some 19), none, .mov (.t 3)⟩,
 ⟨(some 20), none, .conv .u64 (.t 19)⟩,
 ⟨(some 21), none, .bin .add (.t 18) (.t 20)⟩,
 ⟨(some 10), none, .mov (.t 21)⟩])
 (.seq
 (.reg [⟨(some 22), none, .mov (.t 10)⟩,
 ⟨(some 23), none, .bin .shr (.t 22) (.c (u64 32))⟩,
 ⟨(some 24), none, .conv .u32 (.t 23)⟩,
 ⟨(some 25), none, .mov (.t 10)⟩,
 ⟨(some 26), none, .conv .u32 (.t 25)⟩,
 ⟨(some 8), none, .mov (.t 24)⟩,
 ⟨(some 9), none, .mov (.t 26)⟩])
 (.pre (.norm false [8, 9]) .ret))))
def b118 : AX :=
 (.seq
 (.reg [⟨(some 6), none, .mov (.c (u32 0))⟩,
 ⟨(some 7), none, .mov (.c (u32 0))⟩,
 ⟨(some 8), none, .mov (.c (.b false))⟩])
 (.seq
 (.seq
 (.reg [⟨(some 10), none, .mov (.t 0)⟩,
 ⟨(some 11), none, .mov (.t 2)⟩,
 ⟨(some 12), none, .bin .geq (.t 10) (.t 11)⟩])
 (.cond (.t 12)
 (.seq
 (.reg [⟨(some 6), none, .mov (.c (u32 0))⟩,
 ⟨(some 7), none, .mov (.c (u32 0))⟩,
 ⟨(some 8), none, .mov (.c (.b false))⟩])
 (.pre (.norm false [6, 7, 8]) .ret))
 .skip))
 (.seq
 (.reg [⟨(some 13), none, .mov (.t 0)⟩,
 ⟨(some 14), none, .conv .u64 (.t 13)⟩,
 ⟨(some 15), none, .bin .shl (.t 14) (.c (u64 32))⟩,
 ⟨(some 16), none, .mov (.t 1)⟩,
 ⟨(some 17), none, .conv .u64 (.t 16)⟩,
 ⟨(some 18), none, .bin .or (.t 15) (.t 17)⟩,
 ⟨(some 9), none, .mov (.t 18)⟩])
 (.seq
 (.drawT [⟨(some 19), none, .mov (.t 9)⟩,
 ⟨(some 20), none, .mov (.t 2)⟩,
 ⟨(some 21), none, .conv .u64 (.t 20)⟩,
 ⟨(some 22), none, .bin .quo (.t 19) (.t 21)⟩,
 ⟨(some 23), none, .conv .u32 (.t 22)⟩,
 ⟨(some 24), none, .mov (.t 9)⟩,
 ⟨(some 25), none, .mov (.t 2)⟩,
 ⟨(some 26), none, .conv .u64 (.t 25)⟩,
 ⟨(some 27), none, .bin .rem (.t 24) (.t 26)⟩,
 ⟨(some 28), none, .conv .u32 (.t 27)⟩,
 ⟨(some 6), none, .mov (.t 23)⟩]
 [⟨(some 7), none, .mov (.t 28)⟩,
 ⟨(some 8), none, .mov (.c (.b true))⟩])
 (.pre (.norm false [6, 7, 8]) .ret)))))
def l91_0 : AX :=
 (.note
 (.seq
 (.seq
 (.reg [⟨(some 5), none, .mov (.t 4)⟩,
 ⟨(some 6), none, .bin .gtr (.t 5) (.c (.i .i64 0))⟩])
 (.cond (.t 6)
 .skip
 (.exit 0)))
 (.seq
 (.block 1
 (.seq
 (.reg [⟨(some 9), none, .mov (.t 0)⟩,
 ⟨(some 10), none, .mov (.t 4)⟩,
 ⟨(some 11), none, .bin .shr (.t 9) (.t 10)⟩,
 ⟨(some 12), none, .bin .neq (.t 11) (.c (u32 0))⟩])
 (.cond (.t 12)
 (.seq
 (.reg [⟨(some 13), none, .mov (.t 0)⟩,
 ⟨(some 14), none, .mov (.t 4)⟩,
 ⟨(some 15), none, .bin .shr (.t 13) (.t 14)⟩,
 ⟨(some 0), none, .mov (.t 15)⟩])
 (.reg [⟨(some 16), none, .mov (.t 3)⟩,
 ⟨(some 17), none, .mov (.t 4)⟩,
 ⟨(some 18), none, .bin .add (.t 16) (.t 17)⟩,
 ⟨(some 3), none, .mov (.t 18)⟩]))
 .skip)))
 (.reg [⟨(some 7), none, .mov (.t 4)⟩,
 ⟨(some 8), none, .bin .quo (.t 7) (.c (.i .i64 2))⟩,
 ⟨(some 4), none, .mov (.t 8)⟩])))
 (.norm false [0, 3, 4]))
def b91 : AX :=
 (.seq
 (.reg [⟨(some 2), none, .mov (.c (.i .i64 0))⟩])
 (.seq
 (.reg [⟨(some 3), none, .mov (.c (.i .i64 0))⟩])
 (.seq
 (.seq
 (.reg [⟨(some 4), none, .mov (.c (.i .i64 16))⟩])
 (.lp 0 (.norm false [0, 3, 4]) l91_0 (.norm false [0, 3])))
 (.seq
 (.reg [⟨(some 19), none, .mov (.t 3)⟩,
 ⟨(some 20), none, .mov (.t 0)⟩,
 ⟨(some 21), none, .conv .i64 (.t 20)⟩,
 ⟨(some 22), none, .bin .add (.t 19) (.t 21)⟩,
 ⟨(some 2), none, .mov (.t 22)⟩])
 (.pre (.norm false [2]) .ret)))))
class CLimb (T : Tbl) : Prop where
 h115 : T 115 = some ⟨3, 26, [.t 6, .t 7], b115, none, false⟩
 h116 : T 116 = some ⟨3, 25, [.t 6, .t 7], b116, none, false⟩
 h117 : T 117 = some ⟨4, 27, [.t 8, .t 9], b117, none, false⟩
 h118 : T 118 = some ⟨3, 29, [.t 6, .t 7, .t 8], b118, none, false⟩
 h91 : T 91 = some ⟨1, 23, [.t 2], b91, none, false⟩
section
variable {T : Tbl} [CLimb T] {d : Option Nat} {st : St}
@[simp] theorem x115 (xs : List AV) : callX (orc T) T 115 xs d st = bL (frzL st.heap xs) fun ys => cR (callF T 115 (ys.map (wkIf false))) xs d st := callX_pure CLimb.h115
theorem f115 (xs : List AV) (hn : xs.length = 3) : callF T 115 xs = retF [.t 6, .t 7] false (evX (orc T) T 0 b115 ⟨argEnv xs, [], 1⟩) := callF_eq CLimb.h115 hn
@[simp] theorem x116 (xs : List AV) : callX (orc T) T 116 xs d st = bL (frzL st.heap xs) fun ys => cR (callF T 116 (ys.map (wkIf false))) xs d st := callX_pure CLimb.h116
theorem f116 (xs : List AV) (hn : xs.length = 3) : callF T 116 xs = retF [.t 6, .t 7] false (evX (orc T) T 0 b116 ⟨argEnv xs, [], 1⟩) := callF_eq CLimb.h116 hn
@[simp] theorem x117 (xs : List AV) : callX (orc T) T 117 xs d st = bL (frzL st.heap xs) fun ys => cR (callF T 117 (ys.map (wkIf false))) xs d st := callX_pure CLimb.h117
theorem f117 (xs : List AV) (hn : xs.length = 4) : callF T 117 xs = retF [.t 8, .t 9] false (evX (orc T) T 0 b117 ⟨argEnv xs, [], 1⟩) := callF_eq CLimb.h117 hn
@[simp] theorem x118 (xs : List AV) : callX (orc T) T 118 xs d st = bL (frzL st.heap xs) fun ys => cR (callF T 118 (ys.map (wkIf false))) xs d st := callX_pure CLimb.h118
theorem f118 (xs : List AV) (hn : xs.length = 3) : callF T 118 xs = retF [.t 6, .t 7, .t 8] false (evX (orc T) T 0 b118 ⟨argEnv xs, [], 1⟩) := callF_eq CLimb.h118 hn
@[simp] theorem x91 (xs : List AV) : callX (orc T) T 91 xs d st = bL (frzL st.heap xs) fun ys => cR (callF T 91 (ys.map (wkIf false))) xs d st := callX_pure CLimb.h91
theorem f91 (xs : List AV) (hn : xs.length = 1) : callF T 91 xs = retF [.t 2] false (evX (orc T) T 0 b91 ⟨argEnv xs, [], 1⟩) := callF_eq CLimb.h91 hn
end
section
variable {T : Tbl} [CLimb T]
theorem limb_add (x y c : UInt32) : callF T 115 [u32 x.toNat, u32 y.toNat, u32 c.toNat] =
  some (.tup [u32 (w32 (x.toNat + y.toNat + c.toNat)).toNat, u32 (w32 ((x.toNat + y.toNat + c.toNat) / 4294967296)).toNat]) := by
 have hx := u32_lt x
 have hy := u32_lt y
 have hc := u32_lt c
 rw [f115 _ rfl, b115]
 simp [w32_toNat]
 repeat' split
 all_goals simp
 all_goals omega
theorem limb_sub (x y b : UInt32) : callF T 116 [u32 x.toNat, u32 y.toNat, u32 b.toNat] =
  some (.tup [u32 (w32 (x.toNat + 8589934592 - (y.toNat + b.toNat))).toNat, u32 (w32 (2 - (x.toNat + 8589934592 - (y.toNat + b.toNat)) / 4294967296)).toNat]) := by
 have hx := u32_lt x
 have hy := u32_lt y
 have hb := u32_lt b
 rw [f116 _ rfl, b116]
 by_cases h1 : x.toNat < y.toNat <;>
 by_cases h2 : sub32 x.toNat y.toNat < b.toNat <;>
 ·simp [h1, h2, w32_toNat]
  unfold sub32 at *
  omega
theorem mul_lt {a b : Nat} (ha : a < 4294967296) (hb : b < 4294967296) : a * b ≤ 18446744065119617025 := by
 have : a * b ≤ 4294967295 * 4294967295 := Nat.mul_le_mul (by omega) (by omega)
 omega
theorem limb_mul (x y c d : UInt32) : callF T 117 [u32 x.toNat, u32 y.toNat, u32 c.toNat, u32 d.toNat] =
  some (.tup [u32 (w32 ((x.toNat * y.toNat + c.toNat + d.toNat) / 4294967296)).toNat, u32 (w32 (x.toNat * y.toNat + c.toNat + d.toNat)).toNat]) := by
 have hx := u32_lt x
 have hy := u32_lt y
 have hc := u32_lt c
 have hd := u32_lt d
 have hm := mul_lt hx hy
 rw [f117 _ rfl, b117]
 simp [w32_toNat]
 generalize x.toNat * y.toNat = m at *
 omega
theorem limb_div (hi lo y : UInt32) : callF T 118 [u32 hi.toNat, u32 lo.toNat, u32 y.toNat] =
  some (if y.toNat ≤ hi.toNat then .tup [u32 0, u32 0, .b false]
   else .tup [u32 (w32 ((hi.toNat * 4294967296 + lo.toNat) / y.toNat)).toNat, u32 (w32 ((hi.toNat * 4294967296 + lo.toNat) % y.toNat)).toNat, .b true]) := by
 have hx := u32_lt hi
 have hy := u32_lt y
 have hl := u32_lt lo
 rw [f118 _ rfl, b118]
 by_cases h1 : y.toNat ≤ hi.toNat
 ·simp [h1]
 ·have h2 : ¬ y.toNat = 0 := by omega
  simp [h1, h2, w32_toNat]
  have e : hi.toNat * 4294967296 % 18446744073709551616 = hi.toNat * 4294967296 := Nat.mod_eq_of_lt (by omega)
  have e2 : (hi.toNat * 4294967296) ||| lo.toNat = hi.toNat * 4294967296 + lo.toNat := by
   have := Nat.two_pow_add_eq_or_of_lt (i := 32) hl hi.toNat
   rw [Nat.mul_comm hi.toNat, show (4294967296 : Nat) = 2 ^ 32 from rfl, this]
  have h3 : (hi.toNat * 4294967296 + lo.toNat) / y.toNat < 4294967296 := by
   rw [Nat.div_lt_iff_lt_mul (by omega)]
   have := Nat.mul_le_mul_left 4294967296 (show hi.toNat + 1 ≤ y.toNat by omega)
   omega
  rw [e, e2, Nat.mod_eq_of_lt (show hi.toNat * 4294967296 + lo.toNat < 18446744073709551616 by omega)]
  exact ⟨rfl, rfl⟩
theorem limb_addN (x y c : Nat) (hx : x < 4294967296) (hy : y < 4294967296) (hc : c < 4294967296) : callF T 115 [u32 x, u32 y, u32 c] = some (.tup [u32 ((x + y + c) % 4294967296), u32 ((x + y + c) / 4294967296)]) := by
 have := limb_add (T := T) (w32 x) (w32 y) (w32 c)
 rw [w32_of_lt hx, w32_of_lt hy, w32_of_lt hc, w32_toNat, w32_of_lt (by omega)] at this
 exact this
theorem limb_subN (x y b : Nat) (hx : x < 4294967296) (hy : y < 4294967296) (hb : b < 4294967296) : callF T 116 [u32 x, u32 y, u32 b] =
  some (.tup [u32 ((x + 8589934592 - (y + b)) % 4294967296), u32 (2 - (x + 8589934592 - (y + b)) / 4294967296)]) := by
 have := limb_sub (T := T) (w32 x) (w32 y) (w32 b)
 rw [w32_of_lt hx, w32_of_lt hy, w32_of_lt hb, w32_toNat, w32_of_lt (by omega)] at this
 exact this
theorem limb_mulN (x y c d : Nat) (hx : x < 4294967296) (hy : y < 4294967296) (hc : c < 4294967296) (hd : d < 4294967296) : callF T 117 [u32 x, u32 y, u32 c, u32 d] =
  some (.tup [u32 ((x * y + c + d) / 4294967296), u32 ((x * y + c + d) % 4294967296)]) := by
 have := limb_mul (T := T) (w32 x) (w32 y) (w32 c) (w32 d)
 have hm := mul_lt hx hy
 rw [w32_of_lt hx, w32_of_lt hy, w32_of_lt hc, w32_of_lt hd, w32_toNat (x * y + c + d), w32_of_lt (by omega)] at this
 exact this
theorem div_lt {hi lo y : Nat} (h : hi < y) (hl : lo < 4294967296) : (hi * 4294967296 + lo) / y < 4294967296 := by
 rw [Nat.div_lt_iff_lt_mul (by omega)]
 have := Nat.mul_le_mul_left 4294967296 (show hi + 1 ≤ y by omega)
 omega
theorem limb_divN (hi lo y : Nat) (hx : hi < y) (hl : lo < 4294967296) (hy : y < 4294967296) : callF T 118 [u32 hi, u32 lo, u32 y] =
  some (.tup [u32 ((hi * 4294967296 + lo) / y), u32 ((hi * 4294967296 + lo) % y), .b true]) := by
 have := limb_div (T := T) (w32 hi) (w32 lo) (w32 y)
 rw [w32_of_lt (show hi < 4294967296 by omega), w32_of_lt hl, w32_of_lt hy, w32_of_lt (div_lt hx hl), w32_of_lt (by have := Nat.mod_lt (hi * 4294967296 + lo) (show 0 < y by omega); omega), if_neg (by omega)] at this
 exact this
theorem limb_divN' (hi lo y : Nat) (hx : y ≤ hi) (hh : hi < 4294967296) (hl : lo < 4294967296) : callF T 118 [u32 hi, u32 lo, u32 y] = some (.tup [u32 0, u32 0, .b false]) := by
 have := limb_div (T := T) (w32 hi) (w32 lo) (w32 y)
 rw [w32_of_lt hh, w32_of_lt hl, w32_of_lt (show y < 4294967296 by omega), if_pos hx] at this
 exact this
def blen (n : Nat) : Nat := if n = 0 then 0 else n.log2 + 1
theorem blen_shift {n s : Nat} (h : n / 2 ^ s ≠ 0) : blen n = s + blen (n / 2 ^ s) := by
 have hn : n ≠ 0 := by rintro rfl; simp at h
 have hlog : (n / 2 ^ s).log2 + s = n.log2 := by
  have h1 := Nat.log2_self_le h
  have h2 := Nat.lt_log2_self (n := n / 2 ^ s)
  have h3 := Nat.log2_self_le hn
  have h4 := Nat.lt_log2_self (n := n)
  have hp : 0 < 2 ^ s := Nat.pow_pos (by decide)
  have a1 : 2 ^ ((n / 2 ^ s).log2 + s) ≤ n := by
   rw [Nat.pow_add]
   exact (Nat.le_div_iff_mul_le hp).1 h1
  have a2 : n < 2 ^ ((n / 2 ^ s).log2 + 1 + s) := by
   rw [Nat.pow_add]
   exact (Nat.div_lt_iff_lt_mul hp).1 h2
  have b1 := (Nat.le_log2 hn).2 a1
  have b2 := (Nat.log2_lt hn).2 a2
  omega
 unfold blen
 rw [if_neg h, if_neg hn]
 omega
theorem blen_small {x : Nat} (h : x < 2) : blen x = x := by
 rcases (show x = 0 ∨ x = 1 by omega) with rfl | rfl <;> decide
def stLen (y : Nat × Nat × Nat) : St := ⟨[(0, u32 y.1), (3, .i .i64 y.2.1), (4, .i .i64 y.2.2)], [], 2⟩
end
section
variable {T : Tbl}
theorem limb_len_loop (N : Nat) : ∀ y : Nat × Nat × Nat, ((y.2.2 = 16 ∨ y.2.2 = 8 ∨ y.2.2 = 4 ∨ y.2.2 = 2 ∨ y.2.2 = 1 ∨ y.2.2 = 0) ∧ y.1 < 2 ^ (2 * y.2.2) * (if y.2.2 = 0 then 2 else 1) ∧ y.2.1 + blen y.1 = N ∧ y.2.1 + 2 * y.2.2 ≤ 32) →
  ∃ r, (∃ (x n : Nat), r = (Ex.n, (⟨[(0, u32 x), (3, .i .i64 (n : Int))], [], 2⟩ : St)) ∧ x < 2 ∧ n + blen x = N ∧ n ≤ 32) ∧ loopN T 0 0 (.norm false [0, 3]) l91_0 (stLen y) = some r := by
 refine loopN_ex _ _ (fun y => y.2.2) _ ?_
 rintro ⟨x, n, s⟩ ⟨hs, hx, hN, hn⟩
 simp only at hs hx hN hn
 by_cases h0 : s = 0
 ·right
  subst h0
  refine ⟨_, ⟨x, n, rfl, by simpa using hx, hN, by omega⟩, ?_, ?_⟩ <;> simp [l91_0, stLen]
 ·left
  by_cases h1 : x / 2 ^ s = 0
  ·refine ⟨(x, n, s / 2), ⟨?_, ?_, hN, by simp only; omega⟩, by simp only; omega, ?_⟩
   ·rcases hs with rfl | rfl | rfl | rfl | rfl | rfl <;> simp
   ·have h2 : x < 2 ^ s := by
     rcases Nat.lt_or_ge x (2 ^ s) with h | h
     ·exact h
     ·have := Nat.div_pos h (Nat.pow_pos (by decide))
      omega
    rcases hs with rfl | rfl | rfl | rfl | rfl | rfl <;> simp at h2 ⊢ <;> omega
   ·rcases hs with rfl | rfl | rfl | rfl | rfl | rfl <;> simp at h1 <;> simp [l91_0, stLen, h1] at h0 ⊢
  ·refine ⟨(x / 2 ^ s, n + s, s / 2), ⟨?_, ?_, ?_, by simp only; omega⟩, by simp only; omega, ?_⟩
   ·rcases hs with rfl | rfl | rfl | rfl | rfl | rfl <;> simp
   ·rcases hs with rfl | rfl | rfl | rfl | rfl | rfl <;> simp at hx h0 ⊢ <;> omega
   ·have := blen_shift h1
    simp only
    omega
   ·have hw : IntKind.wrap .i64 ((n : Int) + s) = ((n + s : Nat) : Int) := wrap_i64 _ (by omega)
    rcases hs with rfl | rfl | rfl | rfl | rfl | rfl <;> simp at h1 hw <;> simp [l91_0, stLen, h1, hw] at h0 ⊢
end
section
variable {T : Tbl} [CLimb T]
theorem limb_len (x : UInt32) : callF T 91 [u32 x.toNat] = some (.i .i64 (blen x.toNat)) := by
 have hx := u32_lt x
 obtain ⟨_, ⟨y, n, rfl, h1, h2, h3⟩, hl⟩ := limb_len_loop (T := T) (blen x.toNat) (x.toNat, 0, 16) ⟨.inl rfl, by simp, by simp, by simp⟩
 have hw : IntKind.wrap .i64 (y : Int) = y := wrap_i64 _ (by omega)
 have hw2 : IntKind.wrap .i64 ((n : Int) + y) = ((n + y : Nat) : Int) := wrap_i64 _ (by omega)
 have h4 := blen_small h1
 rw [f91 _ rfl, b91]
 simp
 unfold stLen at hl
 simp at hl
 rw [hl]
 simp [hw, hw2]
 omega
end
end Go.Ab