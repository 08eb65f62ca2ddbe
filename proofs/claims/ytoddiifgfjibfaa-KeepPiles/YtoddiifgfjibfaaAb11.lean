/-
  What is kept where a run goes on: a slot is filled, new memory is made, a call that only reckons comes back.
-/
import Derived.Test.YtoddiifgfjibfaaAb10
namespace Go.Ab
open Go.RowKit

section
variable {P : Program} {cx : Cx} {w w' : World} {S S' : Nat → Nat → Prop} {M : Map} {clk : Nat} {h : Heap} {ρ : Nat → AV} {a : Act}

theorem RelF.put (hr : RelF cx S M clk h ρ a w) {d : Option Nat} {v : Value} {x : AV} (hd : ∀ e, d = some e → e < cx.nt) (hC : C w S M clk v x) : RelF cx S M clk h (upd ρ d x) (a.put d v) w := by
  cases d with
  | none => exact hr
  | some d =>
    refine ⟨by simp only [Act.put, Array.size_setIfInBounds]; exact hr.size, hr.defers, fun t => ?_, hr.wr⟩
    simp only [Act.put, upd]
    by_cases ht : t = d
    · subst ht
      have : t < a.tmps.size := by rw [hr.size]; exact hd t rfl
      simp [this, hC]
    · have := hr.env t
      rw [if_neg ht]
      have h2 : (a.tmps.setIfInBounds d v).getD t undef = a.tmps.getD t undef := by
        simp [Array.getElem?_setIfInBounds_ne (Ne.symm ht)]
      rw [h2]
      exact this

def plus (S : Nat → Nat → Prop) (n m : Nat) : Nat → Nat → Prop := fun k o => S k o ∨ (n ≤ k ∧ k < m)

theorem Ext.below (hb : Below w.heap.size w w') (hS : ∀ k o, S k o → k < w.heap.size) (hM : ∀ g k, M g = some (some k) → k < w.heap.size) : Ext w S M clk w' (plus S w.heap.size w'.heap.size) M clk := by
  refine ⟨fun k o h => .inl h, fun k o u hs hc => ?_, Nat.le_refl _, fun g m _ h => h, fun g k arr e _ hm hh => ⟨arr, ?_, rfl⟩⟩
  · rw [hb.cell (p := ⟨k, o, none⟩) (hS k o hs)]; exact hc
  · rw [hb.block k (hM g k hm)]; exact hh

theorem BoxOk.mono {M' : Map} {clk' : Nat} {bx : Box} (hx : Ext w S M clk w' S' M' clk') (hb : BoxOk w S M clk bx) (hM : M' bx.gen = M bx.gen)
    (hblk : ∀ k, M bx.gen = some (some k) → w'.heap[k]? = w.heap[k]?) (hS : ∀ k o, M bx.gen = some (some k) → S' k o → S k o) : BoxOk w' S' M' clk' bx := by
  obtain ⟨h1, h2, m, hm, h3⟩ := hb
  refine ⟨Nat.lt_of_lt_of_le h1 hx.hclk, h2, m, by rw [hM]; exact hm, ?_⟩
  cases m with
  | none => exact h3
  | some k =>
    obtain ⟨arr, e, hh, hsz, hc, ho, hl⟩ := h3
    refine ⟨arr, e, by rw [hblk k hm]; exact hh, hsz, fun i r j c hi hj => ?_, fun hk o hs => ho hk o (hS k o hm hs), fun o hs => hl o (hS k o hm hs)⟩
    obtain ⟨u, hu, h1, hC, hP⟩ := hc i r j c hi hj
    exact ⟨u, hu, h1, hC.mono hx, fun hk => (hP hk).mono hx.hS hx.hcell⟩

theorem Fr.trans {W0 : World} {brw : Nat → Prop} (h1 : Fr W0 w brw) (hb : Below w.heap.size w w') : Fr W0 w' brw :=
  ⟨hb.os.trans h1.os, hb.tape.trans h1.tape, hb.output.trans h1.output, Nat.le_trans h1.size hb.size, fun k hk hn => (hb.block k (Nat.lt_of_lt_of_le hk h1.size)).trans (h1.block k hk hn)⟩

theorem WRel.below (hr : WRel cx S M clk h w) (hb : Below w.heap.size w w') : WRel cx (plus S w.heap.size w'.heap.size) M clk h w' := by
  have hx := Ext.below (clk := clk) hb hr.Slt fun g k hm => (hr.Mnew g k hm).1
  refine ⟨⟨fun b bx hl => ?_, hr.heap.live, hr.heap.gens, hr.heap.inj⟩, hr.ext.trans hx, hr.fr.trans hb, fun k o hs => ?_, fun k o hs => ?_, fun g k hm => ?_⟩
  · refine (hr.heap.box b bx hl).mono hx rfl (fun k hm => hb.block k (hr.Mnew _ k hm).1) fun k o hm hs => ?_
    rcases hs with hs | ⟨hs, _⟩
    · exact hs
    · have := (hr.Mnew _ k hm).1; omega
  · rcases hs with hs | ⟨hs, _⟩
    · exact hr.Snew k o hs
    · exact .inr (.inl (Nat.le_trans hr.fr.size hs))
  · rcases hs with hs | ⟨_, hs⟩
    · exact Nat.lt_of_lt_of_le (hr.Slt k o hs) hb.size
    · exact hs
  · exact ⟨Nat.lt_of_lt_of_le (hr.Mnew g k hm).1 hb.size, (hr.Mnew g k hm).2⟩

theorem RelF.below (hr : RelF cx S M clk h ρ a w) (hb : Below w.heap.size w w') : RelF cx (plus S w.heap.size w'.heap.size) M clk h ρ a w' :=
  ⟨hr.size, hr.defers, fun t => (hr.env t).mono (Ext.below hb hr.wr.Slt fun g k hm => (hr.wr.Mnew g k hm).1), hr.wr.below hb⟩

theorem below_drawn (w : World) : Below w.heap.size w { w with drawn := w.drawn + 1 } := ⟨rfl, rfl, rfl, Nat.le_refl _, fun _ _ => rfl⟩

/-- the state, boxes held fast -/
def RelR (cx : Cx) (clk : Nat) (h : Heap) (ρ : Nat → AV) (a : Act) (w : World) : Prop := ∃ S M, RelF cx S M clk h ρ a w

theorem RelR.drawn (hr : RelR cx clk h ρ a w) : RelR cx clk h ρ a { w with drawn := w.drawn + 1 } := by
  obtain ⟨S, M, hr⟩ := hr
  exact ⟨_, M, hr.below (below_drawn w)⟩

theorem args_of {l : List Operand} {ps : List Opd} (he : EnvOk w S M clk ρ a) (hr : resList l = some ps) (hn : (ps.map (ev ρ)).all noRef = true) :
    (l.map a.eval).length = (ps.map (ev ρ)).length ∧ ∀ (j : Nat) (v : Value) (c : AV), (l.map a.eval)[j]? = some v → (ps.map (ev ρ))[j]? = some c → CP w S v c := by
  obtain ⟨h1, h2⟩ := resList_C he l ps hr
  exact ⟨by simpa using h1, fun j v c hv hc => (h2 j v c hv hc).noRef (List.all_eq_true.1 hn c (List.mem_of_getElem? hc))⟩

theorem resOp_call {o : Op} {f : Nat} {args : List Opd} (hop : resOp P o = some (.call f args)) : ∃ cargs ats, o = .call { callee := .value (.func f), args := cargs, argTypes := ats } ∧ resList cargs.toList = some args := by
  cases o <;> simp only [resOp] at hop
  case call c =>
    obtain ⟨callee, cargs, ats⟩ := c
    cases callee with
    | invoke r m => cases hop
    | builtin b =>
      exfalso
      revert hop
      simp only
      repeat' split
      all_goals simp [Option.bind_eq_some_iff]
    | value fv =>
      cases fv <;> simp only at hop <;> try cases hop
      obtain ⟨l, hl, he⟩ := map_some hop
      injection he with h1 h2
      subst h1
      subst h2
      exact ⟨cargs, ats, rfl, hl⟩
  all_goals
    exfalso
    revert hop
    repeat' split
    all_goals simp [Option.bind_eq_some_iff]

end
end Go.Ab
