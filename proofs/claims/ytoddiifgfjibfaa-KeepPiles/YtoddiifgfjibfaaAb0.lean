/-
  Abstract values, and how they stand to the model's values in a world. Proved here: what a value stands for does not turn while the cells that it leads to stay as they are.
-/
import Derived.Below
import Derived.Laws.AppendOwn
import Derived.Laws.CopyRow
namespace Go.Ab
open Go.RowKit

inductive BId where
  | loc (n : Nat)
  | bor (k : Nat)
  | fld (b : BId) (o : Nat)
  deriving DecidableEq, Repr

inductive Fl where
  | nl | fu | so | an
  deriving DecidableEq, Repr

inductive AV where
  | i (k : IntKind) (n : Int)
  | b (x : Bool)
  | s (l : List UInt8)
  | raw (v : Value)
  | agg (cs : List AV)
  | tup (vs : List AV)
  | sl (els : List (List AV)) (f : Fl)
  | ep (cs : List AV) (o : Nat)
  | bs (id : BId) (g z off n : Nat)
  | ptr (id : BId) (g z i o : Nat)
  | dead

inductive Kind where
  | str | own | sh
  deriving DecidableEq, Repr

structure Box where
  gen : Nat
  kind : Kind
  z : Nat
  els : List (List AV)

/-- A value without boxes, in a world: each cell that it leads to is one of 'S'. -/
inductive CP (w : World) (S : Nat → Nat → Prop) : Value → AV → Prop
  | i (k n) : CP w S (.int k n) (.i k n)
  | b (x) : CP w S (.bool x) (.b x)
  | s (l : List UInt8) : CP w S (.string ⟨l.toArray⟩) (.s l)
  | raw (v) : CP w S v (.raw v)
  | dead (v) : CP w S v .dead
  | agg (vs : Array Value) (cs : List AV) (hl : vs.size = cs.length)
      (h1 : ∀ (j : Nat) (v : Value), vs[j]? = some v → v.oneCell' = true)
      (h : ∀ (j : Nat) (v : Value) (c : AV), vs[j]? = some v → cs[j]? = some c → CP w S v c) : CP w S (.agg vs) (.agg cs)
  | tup (vs : Array Value) (cs : List AV) (hl : vs.size = cs.length)
      (h : ∀ (j : Nat) (v : Value) (c : AV), vs[j]? = some v → cs[j]? = some c → CP w S v c) : CP w S (.tuple vs) (.tup cs)
  | slnil (f) (hf : f = .nl ∨ f = .an) : CP w S (.slice none 0 0) (.sl [] f)
  | slz (a : Addr) (f) (hf : f = .so ∨ f = .an) : CP w S (.slice (some a) 0 0) (.sl [] f)
  | sl (blk off z cap : Nat) (els : List (List AV)) (f : Fl) (u : Nat → Nat → Value) (hf : f ≠ .nl) (hfull : f = .fu → cap = els.length)
      (hcap : els.length ≤ cap) (hmax : cap ≤ maxLen)
      (hz : ∀ (i : Nat) (r : List AV), els[i]? = some r → r.length = z)
      (hS : ∀ i j, i < els.length → j < z → S blk (off + i * z + j) ∧ w.cell? ⟨blk, off + i * z + j, none⟩ = some (u i j) ∧ (u i j).oneCell' = true)
      (hc : ∀ (i : Nat) (r : List AV) (j : Nat) (c : AV), els[i]? = some r → r[j]? = some c → CP w S (u i j) c) : CP w S (.slice (some ⟨blk, off, none⟩) els.length cap) (.sl els f)
  | ep (blk off : Nat) (cs : List AV) (o : Nat) (u : Nat → Value)
      (hS : ∀ j, j < cs.length → S blk (off + j) ∧ w.cell? ⟨blk, off + j, none⟩ = some (u j) ∧ (u j).oneCell' = true)
      (hc : ∀ (j : Nat) (c : AV), cs[j]? = some c → CP w S (u j) c) : CP w S (.pointer (some ⟨blk, off + o, none⟩)) (.ep cs o)

theorem CP.mono {w w' : World} {S S' : Nat → Nat → Prop} {v : Value} {x : AV} (hS : ∀ k o, S k o → S' k o)
    (hw : ∀ k o u, S k o → w.cell? ⟨k, o, none⟩ = some u → w'.cell? ⟨k, o, none⟩ = some u) (h : CP w S v x) : CP w' S' v x := by
  induction h with
  | i k n => exact .i k n
  | b x => exact .b x
  | s l => exact .s l
  | raw v => exact .raw v
  | dead v => exact .dead v
  | agg vs cs hl h1 _ ih => exact .agg vs cs hl h1 ih
  | tup vs cs hl _ ih => exact .tup vs cs hl ih
  | slnil f hf => exact .slnil f hf
  | slz a f hf => exact .slz a f hf
  | sl blk off z cap els f u hf hfull hcap hmax hz hSc _ ih =>
    exact .sl blk off z cap els f u hf hfull hcap hmax hz (fun i j hi hj => ⟨hS _ _ (hSc i j hi hj).1, hw _ _ _ (hSc i j hi hj).1 (hSc i j hi hj).2.1, (hSc i j hi hj).2.2⟩) ih
  | ep blk off cs o u hSc _ ih =>
    exact .ep blk off cs o u (fun j hj => ⟨hS _ _ (hSc j hj).1, hw _ _ _ (hSc j hj).1 (hSc j hj).2.1, (hSc j hj).2.2⟩) ih

/-- Where a box lies: 'none': the box is no more; 'some none': it has no block yet; 'some (some k)': in block k. -/
abbrev Map := Nat → Option (Option Nat)

def BsOk (w : World) (m : Option (Option Nat)) (z off n : Nat) (v : Value) : Prop :=
  match m with
  | none => True
  | some none => n = 0 ∧ off = 0 ∧ ∃ a : Option Addr, v = .slice a 0 0 ∧ ∀ ad, a = some ad → ad.spot = none
  | some (some k) => ∃ arr e cap, w.heap[k]? = some (.cells arr e (0, 0)) ∧ v = .slice (some ⟨k, off * z, none⟩) n cap ∧ n ≤ cap ∧ cap ≤ maxLen ∧ (off + cap) * z = arr.size

def PtrOk (m : Option (Option Nat)) (z i o : Nat) (v : Value) : Prop :=
  match m with
  | some (some k) => v = .pointer (some ⟨k, i * z + o, none⟩)
  | _ => True

inductive C (w : World) (S : Nat → Nat → Prop) (M : Map) (clk : Nat) : Value → AV → Prop
  | p {v x} (h : CP w S v x) : C w S M clk v x
  | bs (id g z off n v) (hg : g < clk) (h : BsOk w (M g) z off n v) (h1 : v.oneCell' = true) : C w S M clk v (.bs id g z off n)
  | ptr (id g z i o v) (hg : g < clk) (h : PtrOk (M g) z i o v) (h1 : v.oneCell' = true) : C w S M clk v (.ptr id g z i o)
  | agg (vs : Array Value) (cs : List AV) (hl : vs.size = cs.length)
      (h1 : ∀ (j : Nat) (v : Value), vs[j]? = some v → v.oneCell' = true)
      (h : ∀ (j : Nat) (v : Value) (c : AV), vs[j]? = some v → cs[j]? = some c → C w S M clk v c) : C w S M clk (.agg vs) (.agg cs)
  | tup (vs : Array Value) (cs : List AV) (hl : vs.size = cs.length)
      (h : ∀ (j : Nat) (v : Value) (c : AV), vs[j]? = some v → cs[j]? = some c → C w S M clk v c) : C w S M clk (.tuple vs) (.tup cs)

/-- From one world, and one set of boxes, to a later one. -/
structure Ext (w : World) (S : Nat → Nat → Prop) (M : Map) (clk : Nat) (w' : World) (S' : Nat → Nat → Prop) (M' : Map) (clk' : Nat) : Prop where
  hS : ∀ k o, S k o → S' k o
  hcell : ∀ k o u, S k o → w.cell? ⟨k, o, none⟩ = some u → w'.cell? ⟨k, o, none⟩ = some u
  hclk : clk ≤ clk'
  hM : ∀ g m, g < clk → M' g = some m → M g = some m
  hblk : ∀ g k arr e, g < clk → M' g = some (some k) → w.heap[k]? = some (.cells arr e (0, 0)) → ∃ arr', w'.heap[k]? = some (.cells arr' e (0, 0)) ∧ arr'.size = arr.size

theorem Ext.refl (w : World) (S : Nat → Nat → Prop) (M : Map) (clk : Nat) : Ext w S M clk w S M clk :=
  ⟨fun _ _ h => h, fun _ _ _ _ h => h, Nat.le_refl _, fun _ _ _ h => h, fun _ _ arr _ _ _ h => ⟨arr, h, rfl⟩⟩

theorem Ext.trans {w w1 w2 : World} {S S1 S2 : Nat → Nat → Prop} {M M1 M2 : Map} {c c1 c2 : Nat}
    (h : Ext w S M c w1 S1 M1 c1) (h' : Ext w1 S1 M1 c1 w2 S2 M2 c2) : Ext w S M c w2 S2 M2 c2 := by
  refine ⟨fun k o hs => h'.hS _ _ (h.hS _ _ hs), fun k o u hs hc => h'.hcell _ _ _ (h.hS _ _ hs) (h.hcell _ _ _ hs hc), Nat.le_trans h.hclk h'.hclk,
    fun g m hg hm => h.hM _ _ hg (h'.hM _ _ (Nat.lt_of_lt_of_le hg h.hclk) hm), fun g k arr e hg hm hb => ?_⟩
  have hg1 := Nat.lt_of_lt_of_le hg h.hclk
  obtain ⟨arr1, h1, e1⟩ := h.hblk g k arr e hg (h'.hM _ _ hg1 hm) hb
  obtain ⟨arr2, h2, e2⟩ := h'.hblk g k arr1 e hg1 hm h1
  exact ⟨arr2, h2, e2.trans e1⟩

theorem C.mono {w w' : World} {S S' : Nat → Nat → Prop} {M M' : Map} {clk clk' : Nat} {v : Value} {x : AV}
    (hx : Ext w S M clk w' S' M' clk') (h : C w S M clk v x) : C w' S' M' clk' v x := by
  induction h with
  | p h => exact .p (h.mono hx.hS hx.hcell)
  | bs id g z off n v hg h h1 =>
    refine .bs id g z off n v (Nat.lt_of_lt_of_le hg hx.hclk) ?_ h1
    unfold BsOk at *
    cases hm : M' g with
    | none => trivial
    | some m =>
      rw [hx.hM g m hg hm] at h
      cases m with
      | none => exact h
      | some k =>
        obtain ⟨arr, e, cap, hb, hv, h1, h2, h3⟩ := h
        obtain ⟨arr', hb', he⟩ := hx.hblk g k arr e hg hm hb
        exact ⟨arr', e, cap, hb', hv, h1, h2, by rw [h3, he]⟩
  | ptr id g z i o v hg h h1 =>
    refine .ptr id g z i o v (Nat.lt_of_lt_of_le hg hx.hclk) ?_ h1
    unfold PtrOk at *
    cases hm : M' g with
    | none => trivial
    | some m =>
      rw [hx.hM g m hg hm] at h
      cases m with
      | none => trivial
      | some k => exact h
  | agg vs cs hl h1 _ ih => exact .agg vs cs hl h1 ih
  | tup vs cs hl _ ih => exact .tup vs cs hl ih

/-- A box in the world. -/
def BoxOk (w : World) (S : Nat → Nat → Prop) (M : Map) (clk : Nat) (bx : Box) : Prop :=
  bx.gen < clk ∧ (∀ r ∈ bx.els, r.length = bx.z) ∧ ∃ m, M bx.gen = some m ∧
  match m with
  | none => bx.els = [] ∧ bx.kind ≠ .str
  | some k => ∃ arr e, w.heap[k]? = some (.cells arr e (0, 0)) ∧ bx.els.length * bx.z ≤ arr.size ∧
      (∀ (i : Nat) (r : List AV) (j : Nat) (c : AV), bx.els[i]? = some r → r[j]? = some c → ∃ u, arr[i * bx.z + j]? = some u ∧ u.oneCell' = true ∧
        C w S M clk u c ∧ (bx.kind ≠ .str → CP w S u c)) ∧
      (bx.kind ≠ .sh → ∀ o, ¬ S k o) ∧ (∀ o, S k o → o < bx.els.length * bx.z)

abbrev Heap := List (BId × Box)
abbrev Env := List (Nat × AV)

def Heap.get (h : Heap) (b : BId) : Option Box := h.lookup b
def Env.get (e : Env) (t : Nat) : AV := (e.lookup t).getD .dead

structure HeapRel (w : World) (S : Nat → Nat → Prop) (M : Map) (clk : Nat) (h : Heap) : Prop where
  box : ∀ b bx, h.lookup b = some bx → BoxOk w S M clk bx
  live : ∀ g m, M g = some m → ∃ b bx, h.lookup b = some bx ∧ bx.gen = g
  gens : ∀ b bx b' bx', h.lookup b = some bx → h.lookup b' = some bx' → bx.gen = bx'.gen → b = b'
  inj : ∀ g g' k, M g = some (some k) → M g' = some (some k) → g = g'

def EnvOk (w : World) (S : Nat → Nat → Prop) (M : Map) (clk : Nat) (e : Nat → AV) (a : Act) : Prop :=
  ∀ t, C w S M clk (a.tmps.getD t undef) (e t)

structure St where
  env : Env
  heap : Heap
  clk : Nat

/-- What stays the same in one function's run. -/
structure Cx where
  P : Program
  nt : Nat
  W0 : World
  S0 : Nat → Nat → Prop
  M0 : Map
  clk0 : Nat

def Cx.brw (cx : Cx) (k : Nat) : Prop := ∃ g, cx.M0 g = some (some k)

/-- Frame: what the run has left alone. -/
structure Fr (W0 w : World) (brw : Nat → Prop) : Prop where
  os : w.os = W0.os
  tape : w.tape = W0.tape
  output : w.output = W0.output
  size : W0.heap.size ≤ w.heap.size
  block : ∀ k, k < W0.heap.size → ¬ brw k → w.heap[k]? = W0.heap[k]?

structure WRel (cx : Cx) (S : Nat → Nat → Prop) (M : Map) (clk : Nat) (h : Heap) (w : World) : Prop where
  heap : HeapRel w S M clk h
  ext : Ext cx.W0 cx.S0 cx.M0 cx.clk0 w S M clk
  fr : Fr cx.W0 w cx.brw
  Snew : ∀ k o, S k o → cx.S0 k o ∨ cx.W0.heap.size ≤ k ∨ cx.brw k
  Slt : ∀ k o, S k o → k < w.heap.size
  Mnew : ∀ g k, M g = some (some k) → k < w.heap.size ∧ (cx.W0.heap.size ≤ k ∨ cx.brw k)

/-- The state of a run: slots and boxes. -/
structure RelF (cx : Cx) (S : Nat → Nat → Prop) (M : Map) (clk : Nat) (h : Heap) (ρ : Nat → AV) (a : Act) (w : World) : Prop where
  size : a.tmps.size = cx.nt
  defers : a.defers = []
  env : EnvOk w S M clk ρ a
  wr : WRel cx S M clk h w

def Rel (cx : Cx) (st : St) (a : Act) (w : World) : Prop := ∃ S M, RelF cx S M st.clk st.heap st.env.get a w

end Go.Ab
