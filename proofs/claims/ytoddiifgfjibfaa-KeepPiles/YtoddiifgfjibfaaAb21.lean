/-
  Code and functions: the abstract run's laws.
-/
import Derived.Test.YtoddiifgfjibfaaAb20c
namespace Go.Ab
open Go.RowKit

/-- From this abstract state the code comes to an end with 'Q'. -/
def AWp (cx : Cx) (c : AC) (Q : Exit → St → Prop) (st : St) : Prop :=
  ∀ code, resCode cx.P cx.nt code = some c → cx.P.follows .mixedOrders = true → ∀ a w, Rel cx st a w → code.wp cx.P (fun ex a' w' => ∃ st', Q ex st' ∧ Rel cx st' a' w') a w

section
variable {cx : Cx} {Q : Exit → St → Prop} {st : St}

theorem AWp.mono {c : AC} {Q' : Exit → St → Prop} (h : AWp cx c Q st) (hq : ∀ ex st, Q ex st → Q' ex st) : AWp cx c Q' st :=
  fun code hc hm a w hr => wp_mono (h code hc hm a w hr) fun _ _ _ ⟨st', h1, h2⟩ => ⟨st', hq _ _ h1, h2⟩

theorem AWp_skip (h : Q .normal st) : AWp cx .skip Q st := by
  intro code hc hm a w hr
  cases code <;> simp only [resCode] at hc <;> try cases hc
  case skip => exact wp_skip ⟨st, h, hr⟩
  case label l => exact wp_label ⟨st, h, hr⟩
  case region id ops draw =>
    obtain ⟨l, _, hc1⟩ := bind_some hc
    split at hc1
    · split at hc1 <;> cases hc1
    · cases hc1
  all_goals simp [Option.bind_eq_some_iff] at hc

theorem AWp_reg {l : List AO} (h : runK cx.P l st (Q .normal)) : AWp cx (.reg l) Q st := by
  intro code hc hm a w hr
  cases code <;> simp only [resCode] at hc <;> try cases hc
  case region id ops draw =>
    obtain ⟨l', hl, hc1⟩ := bind_some hc
    split at hc1
    · split at hc1 <;> cases hc1
    · rename_i hd
      cases hc1
      have : draw = false := by simpa using hd
      subst this
      exact wp_region_list (runK_sound rfl ops.toList l st (Q .normal) a w hl h hr fun st' a' w' h1 h2 => ⟨st', h1, h2⟩)
  all_goals simp [Option.bind_eq_some_iff] at hc

theorem AWp_draw {l : List DO} (h : drawK cx.P l st (Q .normal)) : AWp cx (.draw l) Q st := by
  intro code hc hm a w hr
  cases code <;> simp only [resCode] at hc <;> try cases hc
  case region id ops draw =>
    obtain ⟨l', hl, hc1⟩ := bind_some hc
    split at hc1
    · rename_i hd
      split at hc1 <;> cases hc1
      rename_i hB
      subst hd
      exact drawK_sound rfl hm hB hl h hr fun st' a' w' h1 h2 => ⟨st', h1, h2⟩
    · cases hc1
  all_goals simp [Option.bind_eq_some_iff] at hc

/-- what stands behind -/
def thenK (N : St → Prop) (Q : Exit → St → Prop) : Exit → St → Prop
  | .normal, st => N st
  | ex, st => Q ex st

theorem AWp_seq {x y : AC} (h : AWp cx x (thenK (AWp cx y Q) Q) st) : AWp cx (.seq x y) Q st := by
  intro code hc hm a w hr
  cases code <;> simp only [resCode] at hc <;> try cases hc
  case seq c1 c2 =>
    obtain ⟨x', hx, hc1⟩ := bind_some hc
    obtain ⟨y', hy, he⟩ := map_some hc1
    cases he
    refine wp_seq (wp_mono (h c1 hx hm a w hr) fun ex a' w' ⟨st', h1, h2⟩ => ?_)
    cases ex with
    | normal => exact h1 c2 hy hm a' w' h2
    | _ => exact ⟨st', h1, h2⟩
  case region id ops draw =>
    obtain ⟨l, _, hc1⟩ := bind_some hc
    split at hc1
    · split at hc1 <;> cases hc1
    · cases hc1
  all_goals simp [Option.bind_eq_some_iff] at hc

theorem AWp_cond {c : Opd} {x y : AC} {t : Bool} (hc0 : ev st.env.get c = .b t) (ht : t = true → AWp cx x Q st) (hf : t = false → AWp cx y Q st) : AWp cx (.cond c x y) Q st := by
  intro code hc hm a w hr
  cases code <;> simp only [resCode] at hc <;> try cases hc
  case cond o c1 c2 =>
    obtain ⟨p, hp, hc1⟩ := bind_some hc
    obtain ⟨x', hx, hc2⟩ := bind_some hc1
    obtain ⟨y', hy, he⟩ := map_some hc2
    cases he
    obtain ⟨S, M, hrf⟩ := hr
    have hC := ev_C hrf.env hp
    rw [hc0] at hC
    refine wp_cond_split hC.inv_b (fun h1 => ht h1 c1 hx hm a w ⟨S, M, hrf⟩) (fun h1 => hf h1 c2 hy hm a w ⟨S, M, hrf⟩)
  case region id ops draw =>
    obtain ⟨l, _, hc1⟩ := bind_some hc
    split at hc1
    · split at hc1 <;> cases hc1
    · cases hc1
  all_goals simp [Option.bind_eq_some_iff] at hc

def blockK (id : Nat) (Q : Exit → St → Prop) : Exit → St → Prop
  | .exit id', st => if id' = id then Q .normal st else Q (.exit id') st
  | ex, st => Q ex st

theorem AWp_block {id : Nat} {c : AC} (h : AWp cx c (blockK id Q) st) : AWp cx (.block id c) Q st := by
  intro code hc hm a w hr
  cases code <;> simp only [resCode] at hc <;> try cases hc
  case block id' c1 =>
    obtain ⟨x', hx, he⟩ := map_some hc
    cases he
    refine wp_block (wp_mono (h c1 hx hm a w hr) fun ex a' w' ⟨st', h1, h2⟩ => ?_)
    cases ex with
    | exit j =>
      simp only [blockK] at h1
      simp only [Exit.inBlock]
      split at h1
      · rename_i hj; rw [if_pos hj]; exact ⟨st', h1, h2⟩
      · rename_i hj; rw [if_neg hj]; exact ⟨st', h1, h2⟩
    | _ => exact ⟨st', h1, h2⟩
  case region id ops draw =>
    obtain ⟨l, _, hc1⟩ := bind_some hc
    split at hc1
    · split at hc1 <;> cases hc1
    · cases hc1
  all_goals simp [Option.bind_eq_some_iff] at hc

theorem AWp_exit {id : Nat} (h : Q (.exit id) st) : AWp cx (.exit id) Q st := by
  intro code hc hm a w hr
  cases code <;> simp only [resCode] at hc <;> try cases hc
  case exit => exact wp_exit ⟨st, h, hr⟩
  case region id ops draw =>
    obtain ⟨l, _, hc1⟩ := bind_some hc
    split at hc1
    · split at hc1 <;> cases hc1
    · cases hc1
  all_goals simp [Option.bind_eq_some_iff] at hc

theorem AWp_ret (h : Q .ret st) : AWp cx .ret Q st := by
  intro code hc hm a w hr
  cases code <;> simp only [resCode] at hc <;> try cases hc
  case ret => exact wp_ret ⟨st, h, hr⟩
  case region id ops draw =>
    obtain ⟨l, _, hc1⟩ := bind_some hc
    split at hc1
    · split at hc1 <;> cases hc1
    · cases hc1
  all_goals simp [Option.bind_eq_some_iff] at hc

/-! ### states that say less -/

/-- 'st'' says no more than 'st'. -/
structure Sub (st st' : St) : Prop where
  env : ∀ t x, st'.env.lookup t = some x → st.env.get t = x
  heap : ∀ b bx, st'.heap.lookup b = some bx → ∃ bx0, st.heap.lookup b = some bx0 ∧ (bx = bx0 ∨ (bx0.kind ≠ .str ∧ bx = { bx0 with kind := .sh }))
  clk : st.clk ≤ st'.clk

theorem Rel.sub {st' : St} {a : Act} {w : World} (hs : Sub st st') (hr : Rel cx st a w) : Rel cx st' a w := by
  obtain ⟨S, M, hr⟩ := hr
  classical
  generalize hMb : (fun g => if Live st'.heap g then M g else none : Map) = Mb
  have hMb1 : ∀ g m, Mb g = some m → Live st'.heap g ∧ M g = some m := by
    intro g m hm
    rw [← hMb] at hm
    simp only at hm
    split at hm
    · exact ⟨‹_›, hm⟩
    · cases hm
  have hMb2 : ∀ g, Live st'.heap g → Mb g = M g := by intro g hg; rw [← hMb]; simp [hg]
  have hx : Ext w S M st.clk w S Mb st'.clk := ⟨fun _ _ hs => hs, fun _ _ _ _ hc => hc, hs.clk, fun g m _ hm => (hMb1 g m hm).2, fun _ _ arr _ _ _ hb => ⟨arr, hb, rfl⟩⟩
  refine ⟨S, Mb, hr.size, hr.defers, fun t => ?_, ⟨fun b bx hb => ?_, fun g m hm => (hMb1 g m hm).1, fun b bx b' bx' h1 h2 hg => ?_, fun g g' k h1 h2 => hr.wr.heap.inj _ _ _ (hMb1 _ _ h1).2 (hMb1 _ _ h2).2⟩, hr.wr.ext.trans hx, hr.wr.fr, hr.wr.Snew, hr.wr.Slt, fun g k hm => hr.wr.Mnew g k (hMb1 _ _ hm).2⟩
  · unfold Env.get
    cases hl : st'.env.lookup t with
    | none => exact .p (.dead _)
    | some x =>
      have := hr.env t
      rw [hs.env t x hl] at this
      exact this.mono hx
  · obtain ⟨bx0, h0, h1⟩ := hs.heap b bx hb
    have hl : Live st'.heap bx.gen := ⟨b, bx, hb, rfl⟩
    have hbox := hr.wr.heap.box b bx0 h0
    rcases h1 with rfl | ⟨hk, rfl⟩
    · exact hbox.mono hx (hMb2 _ hl) (fun _ _ => rfl) fun _ _ _ hs => hs
    · obtain ⟨b1, b2, m, hm, b3⟩ := hbox.mono hx (hMb2 bx0.gen hl) (fun _ _ => rfl) fun _ _ _ hs => hs
      refine ⟨b1, b2, m, hm, ?_⟩
      cases m with
      | none => exact ⟨b3.1, by simp⟩
      | some k =>
        obtain ⟨arr, e, hh, hsz, hc, ho, hlt⟩ := b3
        refine ⟨arr, e, hh, hsz, fun i r j c hi hj => ?_, fun hne => absurd rfl hne, hlt⟩
        obtain ⟨u, hu, h1, hC, hP⟩ := hc i r j c hi hj
        exact ⟨u, hu, h1, hC, fun _ => hP hk⟩
  · obtain ⟨bx0, h3, h4⟩ := hs.heap b bx h1
    obtain ⟨bx0', h5, h6⟩ := hs.heap b' bx' h2
    have e1 : bx.gen = bx0.gen := by rcases h4 with rfl | ⟨_, rfl⟩ <;> rfl
    have e2 : bx'.gen = bx0'.gen := by rcases h6 with rfl | ⟨_, rfl⟩ <;> rfl
    exact hr.wr.heap.gens _ _ _ _ h3 h5 (by rw [← e1, ← e2, hg])

theorem AWp.sub {c : AC} {st' : St} (hs : Sub st st') (h : AWp cx c Q st') : AWp cx c Q st :=
  fun code hc hm a w hr => h code hc hm a w (hr.sub hs)

/-! ### loops -/

theorem AWp_loop {α : Type} {c : AC} (F : α → St) (I : α → Prop) (μ : α → Nat) (x0 : α) (h0 : I x0) (hs : Sub st (F x0))
    (round : ∀ x, I x → AWp cx c (thenK (fun st' => ∃ x', I x' ∧ Sub st' (F x') ∧ μ x' < μ x) Q) (F x)) : AWp cx (.loop c) Q st := by
  intro code hc hm a w hr
  cases code <;> simp only [resCode] at hc <;> try cases hc
  case loop c1 =>
    obtain ⟨x', hx, he⟩ := map_some hc
    cases he
    have key : ∀ n, ∀ x, μ x = n → I x → ∀ a w, Rel cx (F x) a w → ∀ (b : Frame) (k : List Item) (cs : List Frame),
        ∃ e a' w', (∃ st', Q e st' ∧ Rel cx st' a' w') ∧ Arrives cx.P (lone (b.at a (.code c1 :: .inLoop c1 :: k)) cs w) b k cs e a' w' := by
      intro n
      induction n using Nat.strongRecOn with
      | _ n ih =>
        intro x hn hI a w hr b k cs
        obtain ⟨ex, a1, w1, ⟨st1, hq1, hrel1⟩, harr⟩ := round x hI c1 hx hm a w hr b (.inLoop c1 :: k) cs
        cases ex with
        | normal =>
          obtain ⟨x2, hI2, hs2, hlt⟩ := hq1
          obtain ⟨e2, a2, w2, hq2, harr2⟩ := ih (μ x2) (hn ▸ hlt) x2 rfl hI2 a1 w1 (hrel1.sub hs2) b k cs
          exact ⟨e2, a2, w2, hq2, .of_steps (Steps.trans harr (.one step_inLoop)) harr2⟩
        | exit id => exact ⟨_, a1, w1, ⟨st1, hq1, hrel1⟩, .pass (x := .inLoop c1) rfl (fun _ _ => .inl (by simp)) harr⟩
        | goto l => exact ⟨_, a1, w1, ⟨st1, hq1, hrel1⟩, .pass (x := .inLoop c1) rfl (fun _ _ => .inl (by simp)) harr⟩
        | ret => exact ⟨_, a1, w1, ⟨st1, hq1, hrel1⟩, .pass (x := .inLoop c1) rfl (fun _ _ => .inl (by simp)) harr⟩
        | panic ch => exact ⟨_, a1, w1, ⟨st1, hq1, hrel1⟩, .pass (x := .inLoop c1) rfl (fun _ _ => .inl (by simp)) harr⟩
        | outgrown => exact ⟨_, a1, w1, ⟨st1, hq1, hrel1⟩, .pass (x := .inLoop c1) rfl (fun _ _ => .inl (by simp)) harr⟩
    intro b k cs
    obtain ⟨e, a', w', hq, harr⟩ := key _ x0 rfl h0 a w (hr.sub hs) b k cs
    exact ⟨e, a', w', hq, .of_steps (.one step_loop) harr⟩
  case region id ops draw =>
    obtain ⟨l, _, hc1⟩ := bind_some hc
    split at hc1
    · split at hc1 <;> cases hc1
    · cases hc1
  all_goals simp [Option.bind_eq_some_iff] at hc

end
end Go.Ab
