/-
  A box is made or changed: the state is kept.
-/
import Derived.Test.YtoddiifgfjibfaaAb12
namespace Go.Ab
open Go.RowKit

/-- gens that still have a box -/
def Live (h : Heap) (g : Nat) : Prop := ∃ b bx, h.lookup b = some bx ∧ bx.gen = g

open Classical in
noncomputable def setM (M : Map) (h : Heap) (g' : Nat) (k' : Option Nat) : Map := fun g => if g = g' then some k' else if Live h g then M g else none

theorem setM_self (M : Map) (h : Heap) (g' : Nat) (k' : Option Nat) : setM M h g' k' g' = some k' := by simp [setM]
theorem setM_live {M : Map} {h : Heap} {g g' : Nat} {k' : Option Nat} (hne : g ≠ g') (hl : Live h g) : setM M h g' k' g = M g := by simp [setM, hne, hl]
theorem setM_some {M : Map} {h : Heap} {g g' : Nat} {k' m : Option Nat} (hm : setM M h g' k' g = some m) : (g = g' ∧ m = k') ∨ (g ≠ g' ∧ Live h g ∧ M g = some m) := by
  unfold setM at hm
  split at hm
  · exact .inl ⟨‹_›, by simpa using hm.symm⟩
  · split at hm
    · exact .inr ⟨‹_›, ‹_›, hm⟩
    · cases hm

section
variable {P : Program} {cx : Cx} {w w' : World} {S S' : Nat → Nat → Prop} {M : Map} {clk : Nat} {h : Heap} {ρ : Nat → AV} {a : Act}

theorem lookup_cons_self (id : BId) (bx : Box) (h : Heap) : List.lookup id ((id, bx) :: h) = some bx := by simp
theorem lookup_cons_ne {id b : BId} (bx : Box) (h : Heap) (hne : b ≠ id) : List.lookup b ((id, bx) :: h) = List.lookup b h := by
  simp only [List.lookup_cons]
  have : (b == id) = false := by simpa using hne
  rw [this]

structure Touch (w w' : World) (S : Nat → Nat → Prop) (M : Map) (h : Heap) (id : BId) (touched : Option Nat) : Prop where
  os : w'.os = w.os
  tape : w'.tape = w.tape
  output : w'.output = w.output
  size : w.heap.size ≤ w'.heap.size
  block : ∀ k, k < w.heap.size → some k ≠ touched → w'.heap[k]? = w.heap[k]?
  own : ∀ k, touched = some k → ∃ bx, h.lookup id = some bx ∧ M bx.gen = some (some k)
  cell : ∀ k o u, touched = some k → S k o → w.cell? ⟨k, o, none⟩ = some u → w'.cell? ⟨k, o, none⟩ = some u
  blk : ∀ k arr e, touched = some k → w.heap[k]? = some (.cells arr e (0, 0)) → ∃ arr', w'.heap[k]? = some (.cells arr' e (0, 0)) ∧ arr'.size = arr.size

theorem Ext.set {id : BId} {bx' : Box} {k' : Option Nat} {clk' : Nat} {touched : Option Nat} (hr : WRel cx S M clk h w) (hclk : clk ≤ clk') (hsame : bx'.gen < clk → M bx'.gen = some k') (ht : Touch w w' S M h id touched) :
    Ext w S M clk w' S (setM M ((id, bx') :: h) bx'.gen k') clk' := by
  refine ⟨fun k o hs => hs, fun k o u hs hc => ?_, hclk, fun g m hg hm => ?_, fun g k arr e hg hm hb => ?_⟩
  · by_cases hk : some k = touched
    · exact ht.cell k o u hk.symm hs hc
    · rw [World.cell?_of_block (w := w) (ht.block k (hr.Slt k o hs) hk)]; exact hc
  · rcases setM_some hm with ⟨rfl, rfl⟩ | ⟨_, _, hm⟩
    · exact hsame hg
    · exact hm
  · by_cases hk : some k = touched
    · exact ht.blk k arr e hk.symm hb
    · refine ⟨arr, ?_, rfl⟩
      have hmm : M g = some (some k) := by
        rcases setM_some hm with ⟨rfl, hk'⟩ | ⟨_, _, hm⟩
        · rw [hk']; exact hsame hg
        · exact hm
      rw [ht.block k (hr.Mnew g k hmm).1 hk]
      exact hb

theorem WRel.set {id : BId} {bx' : Box} {k' : Option Nat} {clk' : Nat} {touched : Option Nat} (hr : WRel cx S M clk h w) (hclk : clk ≤ clk')
    (hnew : bx'.gen = clk ∨ ∃ bx, h.lookup id = some bx ∧ bx.gen = bx'.gen) (hsame : bx'.gen < clk → M bx'.gen = some k') (ht : Touch w w' S M h id touched)
    (hk' : ∀ k, k' = some k → (w.heap.size ≤ k ∧ k < w'.heap.size) ∨ touched = some k)
    (hbox : BoxOk w' S (setM M ((id, bx') :: h) bx'.gen k') clk' bx') : WRel cx S (setM M ((id, bx') :: h) bx'.gen k') clk' ((id, bx') :: h) w' := by
  have hx := Ext.set (bx' := bx') hr hclk hsame ht
  have hgen : ∀ b bx, b ≠ id → h.lookup b = some bx → bx.gen ≠ bx'.gen := by
    intro b bx hne hb heq
    rcases hnew with hn | ⟨bx0, h0, hg0⟩
    · have := (hr.heap.box b bx hb).1; omega
    · exact hne (hr.heap.gens _ _ _ _ hb h0 (heq.trans hg0.symm))
  have hold : ∀ b bx, b ≠ id → h.lookup b = some bx → ∀ k, M bx.gen = some (some k) → some k ≠ touched := by
    intro b bx hne hb k hm hk
    obtain ⟨bx0, h0, hm0⟩ := ht.own k hk.symm
    exact hne (hr.heap.gens _ _ _ _ hb h0 (hr.heap.inj _ _ _ hm hm0))
  refine ⟨⟨fun b bx hb => ?_, fun g m hm => ?_, fun b bx b' bx2 h1 h2 hg => ?_, fun g g' k hm hm' => ?_⟩, hr.ext.trans hx, ?_, hr.Snew, fun k o hs => Nat.lt_of_lt_of_le (hr.Slt k o hs) ht.size, fun g k hm => ?_⟩
  · by_cases hb1 : b = id
    · subst hb1
      rw [lookup_cons_self] at hb
      cases hb
      exact hbox
    · rw [lookup_cons_ne _ _ hb1] at hb
      have hl : Live ((id, bx') :: h) bx.gen := ⟨b, bx, by rw [lookup_cons_ne _ _ hb1]; exact hb, rfl⟩
      exact (hr.heap.box b bx hb).mono hx (setM_live (hgen b bx hb1 hb) hl) (fun k hm => ht.block k (hr.Mnew _ k hm).1 (hold b bx hb1 hb k hm)) fun k o _ hs => hs
  · rcases setM_some hm with ⟨rfl, _⟩ | ⟨_, hl, _⟩
    · exact ⟨id, bx', lookup_cons_self _ _ _, rfl⟩
    · exact hl
  · by_cases hb1 : b = id <;> by_cases hb2 : b' = id
    · rw [hb1, hb2]
    · subst hb1
      rw [lookup_cons_self] at h1
      cases h1
      rw [lookup_cons_ne _ _ hb2] at h2
      exact absurd hg.symm (hgen _ _ hb2 h2)
    · subst hb2
      rw [lookup_cons_self] at h2
      cases h2
      rw [lookup_cons_ne _ _ hb1] at h1
      exact absurd hg (hgen _ _ hb1 h1)
    · rw [lookup_cons_ne _ _ hb1] at h1
      rw [lookup_cons_ne _ _ hb2] at h2
      exact hr.heap.gens _ _ _ _ h1 h2 hg
  · have key : ∀ g1 g2, g1 = bx'.gen → g2 ≠ bx'.gen → Live ((id, bx') :: h) g2 → M g2 = some (some k) → some (some k) = some k' → False := by
      intro g1 g2 _ hne hl hm2 hk
      cases hk
      rcases hk' k rfl with ⟨hk, _⟩ | hk
      · have := (hr.Mnew g2 k hm2).1; omega
      · obtain ⟨bx0, h0, hm0⟩ := ht.own k hk
        have hg0 := hr.heap.inj _ _ _ hm2 hm0
        obtain ⟨b, bx, hb, hbg⟩ := hl
        by_cases hb1 : b = id
        · subst hb1
          rw [lookup_cons_self] at hb
          cases hb
          exact hne hbg.symm
        · rw [lookup_cons_ne _ _ hb1] at hb
          exact hb1 (hr.heap.gens _ _ _ _ hb h0 (hbg.trans hg0))
    rcases setM_some hm with ⟨h1, hk1⟩ | ⟨h1, hl1, hm1⟩ <;> rcases setM_some hm' with ⟨h2, hk2⟩ | ⟨h2, hl2, hm2⟩
    · rw [h1, h2]
    · exact (key _ _ h1 h2 hl2 hm2 (congrArg some hk1)).elim
    · exact (key _ _ h2 h1 hl1 hm1 (congrArg some hk2)).elim
    · exact hr.heap.inj _ _ _ hm1 hm2
  · refine ⟨ht.os.trans hr.fr.os, ht.tape.trans hr.fr.tape, ht.output.trans hr.fr.output, Nat.le_trans hr.fr.size ht.size, fun k hk hn => ?_⟩
    rw [ht.block k (Nat.lt_of_lt_of_le hk hr.fr.size) fun he => ?_]
    · exact hr.fr.block k hk hn
    · obtain ⟨bx0, h0, hm0⟩ := ht.own k he.symm
      rcases (hr.Mnew _ k hm0).2 with h1 | h1
      · omega
      · exact hn h1
  · rcases setM_some hm with ⟨_, hk⟩ | ⟨_, _, hm⟩
    · rcases hk' k hk.symm with ⟨h1, h2⟩ | h1
      · exact ⟨h2, .inl (Nat.le_trans hr.fr.size h1)⟩
      · obtain ⟨bx0, h0, hm0⟩ := ht.own k h1
        exact ⟨Nat.lt_of_lt_of_le (hr.Mnew _ k hm0).1 ht.size, (hr.Mnew _ k hm0).2⟩
    · exact ⟨Nat.lt_of_lt_of_le (hr.Mnew g k hm).1 ht.size, (hr.Mnew g k hm).2⟩

/-- the whole state -/
theorem RelF.set {id : BId} {bx' : Box} {k' : Option Nat} {clk' : Nat} {touched : Option Nat} (hr : RelF cx S M clk h ρ a w) (hclk : clk ≤ clk')
    (hnew : bx'.gen = clk ∨ ∃ bx, h.lookup id = some bx ∧ bx.gen = bx'.gen) (hsame : bx'.gen < clk → M bx'.gen = some k') (ht : Touch w w' S M h id touched)
    (hk' : ∀ k, k' = some k → (w.heap.size ≤ k ∧ k < w'.heap.size) ∨ touched = some k)
    (hbox : BoxOk w' S (setM M ((id, bx') :: h) bx'.gen k') clk' bx') : RelF cx S (setM M ((id, bx') :: h) bx'.gen k') clk' ((id, bx') :: h) ρ a w' :=
  ⟨hr.size, hr.defers, fun t => (hr.env t).mono (Ext.set hr.wr hclk hsame ht), hr.wr.set hclk hnew hsame ht hk' hbox⟩

theorem Touch.of_below {id : BId} (hb : Below w.heap.size w w') : Touch w w' S M h id none :=
  ⟨hb.os, hb.tape, hb.output, hb.size, fun k hk _ => hb.block k hk, fun k hk => (by cases hk), fun k o u hk => (by cases hk), fun k arr e hk => (by cases hk)⟩

end
end Go.Ab
