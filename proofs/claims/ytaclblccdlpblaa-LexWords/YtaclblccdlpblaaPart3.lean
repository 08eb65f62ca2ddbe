/-
  A calculus of values, boxes and code, and what functions of the program compute, proved in it.
  Conditions: none beyond those that the theorems state. (Part 3: Ax5, Ax6, Ax7, Ax8, Ax9, Nm1, Nm2, Nm3, Nm4, NmLex, GcJoin, GcLex, GcRef16, GpLex, GpRef16, GcLaw16, Ax10.)
-/
import Derived.Test.YtaclblccdlpblaaPart2

set_option linter.unusedSectionVars false
set_option linter.unusedVariables false
set_option linter.unusedSimpArgs false
set_option linter.unnecessarySimpa false

section
namespace Go.Ab
open Go.RowKit
def mapOp (ν : Nat → FuncId) : AOp → AOp
 | .call u args => .call (ν u) args
 | op => op
def mapAO (ν : Nat → FuncId) (o : AO) : AO := ⟨o.dst, o.guard, mapOp ν o.op⟩
def mapDO (ν : Nat → FuncId) (o : DO) : DO := ⟨mapAO ν o.ao, o.lo, o.hi⟩
def er (ν : Nat → FuncId) : AX → AC
 | .skip => .skip
 | .reg l => .reg (l.map (mapAO ν))
 | .draw l => .draw (l.map (mapDO ν))
 | .seq a b => .seq (er ν a) (er ν b)
 | .cond c x y => .cond c (er ν x) (er ν y)
 | .block id c => .block id (er ν c)
 | .loop c => .loop (er ν c)
 | .exit id => .exit id
 | .ret => .ret
 | .note c _ => er ν c
 | .pre _ c => er ν c
 | .scope c => .scope (er ν c)
 | .lp id _ c _ => .block id (.loop (er ν c))
 | .bad => .bad
 | .drawT hd tl => .drawT (hd.map (mapAO ν)) (tl.map (mapAO ν))
 | .prim _ => .bad
def erF (ν : Nat → FuncId) (af : AFx) : AF := ⟨af.np, af.nt, af.res, er ν af.body⟩
def Ex.out : Ex → Exit
 | .n => .normal
 | .x id => .exit id
 | .r => .ret
def LWp (cx : Cx) (c : AC) (Q : Exit → St → Prop) (st : St) : Prop :=
 ∀ code, resCode cx.P cx.nt code = some c → cx.P.follows .mixedOrders = true → ∀ a w, Rel cx st a w → ∀ (b : Frame) (k : List Item) (cs : List Frame),
  ∃ e a' w', (∃ st', Q e st' ∧ Rel cx st' a' w') ∧ Arrives cx.P (lone (b.at a (.code code :: .inLoop code :: k)) cs w) b k cs e a' w'
theorem LWp_step {cx : Cx} {c : AC} {Q : Exit → St → Prop} {st : St} (h : AWp cx c (thenK (fun s => LWp cx c Q s) Q) st) : LWp cx c Q st := by
 intro code hc hm a w hr b k cs
 obtain ⟨ex, a1, w1, ⟨st1, hq1, hrel1⟩, harr⟩ := h code hc hm a w hr b (.inLoop code :: k) cs
 cases ex with
 | normal =>
  obtain ⟨e2, a2, w2, hq2, harr2⟩ := hq1 code hc hm a1 w1 hrel1 b k cs
  exact ⟨e2, a2, w2, hq2, .of_steps (Steps.trans harr (.one step_inLoop)) harr2⟩
 | exit id => exact ⟨_, a1, w1, ⟨st1, hq1, hrel1⟩, .pass (x := .inLoop code) rfl (fun _ _ => .inl (by simp)) harr⟩
 | goto l => exact ⟨_, a1, w1, ⟨st1, hq1, hrel1⟩, .pass (x := .inLoop code) rfl (fun _ _ => .inl (by simp)) harr⟩
 | ret => exact ⟨_, a1, w1, ⟨st1, hq1, hrel1⟩, .pass (x := .inLoop code) rfl (fun _ _ => .inl (by simp)) harr⟩
 | panic ch => exact ⟨_, a1, w1, ⟨st1, hq1, hrel1⟩, .pass (x := .inLoop code) rfl (fun _ _ => .inl (by simp)) harr⟩
 | outgrown => exact ⟨_, a1, w1, ⟨st1, hq1, hrel1⟩, .pass (x := .inLoop code) rfl (fun _ _ => .inl (by simp)) harr⟩
theorem AWp_loop_of {cx : Cx} {c : AC} {Q : Exit → St → Prop} {st : St} (h : LWp cx c Q st) : AWp cx (.loop c) Q st := by
 intro code hc hm a w hr
 have hcode := hc
 cases code <;> simp only [resCode] at hc <;> try cases hc
 case loop c1 =>
  obtain ⟨x', hx, he⟩ := map_some hc
  cases he
  intro b k cs
  obtain ⟨e, a', w', hq, harr⟩ := h c1 hx hm a w hr b k cs
  exact ⟨e, a', w', hq, .of_steps (.one step_loop) harr⟩
 case region id ops draw =>
  rcases resCode_region hcode with ⟨_, l, _, h1⟩ | ⟨_, l, _, ⟨n, _, h1⟩ | ⟨_, h1⟩ | h1⟩ <;> cases h1
 all_goals simp [Option.bind_eq_some_iff] at hc
theorem LWp.mono {cx : Cx} {c : AC} {Q Q' : Exit → St → Prop} {st : St} (h : LWp cx c Q st) (hq : ∀ ex st, Q ex st → Q' ex st) : LWp cx c Q' st :=
 fun code hc hm a w hr b k cs => let ⟨e, a', w', ⟨st', h1, h2⟩, h3⟩ := h code hc hm a w hr b k cs; ⟨e, a', w', ⟨st', hq _ _ h1, h2⟩, h3⟩
def Is (e : Ex) (st' : St) : Exit → St → Prop := fun ex s => ex = e.out ∧ s = st'
structure GoodO (P : Program) (ν : Nat → FuncId) (T : Tbl) (O : Orc) : Prop where
 pure : ∀ u af xs r h, T u = some af → af.lent = none → O.call u xs [] = some (r, h) → PCall P (ν u) xs (· = r)
 lent : ∀ u af ms xs hb r hb', T u = some af → af.lent = some ms → O.call u xs hb = some (r, hb') → ACall P (ν u) xs hb (hb.length + 1) (fun r1 h1 c1 => r1 = r ∧ h1 = hb' ∧ c1 = hb.length + hb'.length + 2)
 loop : ∀ k c st e st', O.loop k c st = some (e, st') → ∀ cx : Cx, cx.P = P → cx.clk0 = k + 1 → LWp cx (er ν c) (Is e st') st
section
variable {P : Program} {ν : Nat → FuncId} {T : Tbl} {O : Orc}
theorem lookup_filterP (q : BId → Bool) (h : Heap) (b : BId) : (h.filter fun p => !q p.1).lookup b = if q b = true then none else h.lookup b := by
 induction h with
 | nil => simp
 | cons p h ih =>
  obtain ⟨p1, p2⟩ := p
  by_cases hp : q p1 = true
  ·rw [List.filter_cons, if_neg (by simp [hp]), ih]
   by_cases hb : b = p1
   ·subst hb; simp [hp]
   ·simp [hb]
  ·rw [List.filter_cons, if_pos (by simp [hp])]
   by_cases hb : b = p1
   ·subst hb; simp [hp]
   ·simpa [hb] using ih
theorem callX_sound (hO : GoodO P ν T O) {u : Nat} {xs : List AV} {d : Option Nat} {st st' : St} {K : St → Prop} (h : callX O T u xs d st = some st') (hK : K st') :
  callP P (ν u) xs st.heap (fun r h => K ⟨putE st.env d r, h, st.clk⟩) ∨ callB P (ν u) xs st.heap st.clk (fun r h c => K ⟨putE st.env d r, h, c⟩) := by
 unfold callX at h
 split at h
 ·cases h
 rename_i af hT
 split at h
 ·rename_i hl
  obtain ⟨ys, h1, h2⟩ := bind_some h
  obtain ⟨r, h3, h4⟩ := bind_some h2
  cases h4
  refine .inl ⟨ys, (· = r.1), h1, (hO.pure u af _ r.1 r.2 hT hl h3).wk, ?_⟩
  rintro r' rfl
  exact hK
 ·rename_i ms hl
  obtain ⟨ys, h1, h2⟩ := bind_some h
  simp only at h2
  generalize hh1 : shareIds (refsM ms xs) st.heap = h1' at *
  generalize hll : reach h1' 40 (rootsM ms xs) [] = l at *
  generalize hhp : pickH h1' l = hp at *
  split at h2
  ·rename_i hc
   obtain ⟨r, h3, h4⟩ := bind_some h2
   generalize hhb : (r.2.map fun p => (outN l (d.getD 0) p.1, rlBox true (outN l (d.getD 0)) (outG hp st.clk) p.2)) = hb' at *
   split at h4
   ·rename_i hchk
    cases h4
    simp only [Bool.and_eq_true, decide_eq_true_eq] at hchk
    obtain ⟨⟨k2, k3⟩, k4⟩ := hchk
    have hmem : ∀ b bx, hp.lookup b = some bx → h1'.lookup b = some bx := by
     intro b bx hb
     have := lookup_mem _ _ _ hb
     rw [← hhp] at this
     exact pickH_mem this
    have hin : ∀ b, (hp.lookup b).isSome = true ↔ b ∈ l := by
     intro b
     constructor
     ·intro hb
      obtain ⟨bx, hb⟩ := Option.isSome_iff_exists.1 hb
      rw [← hc.1]
      exact List.mem_map.2 ⟨_, lookup_mem _ _ _ hb, rfl⟩
     ·intro hb
      rw [← hc.1] at hb
      obtain ⟨p, hp1, rfl⟩ := List.mem_map.1 hb
      obtain ⟨x, hx⟩ := mem_lookup _ _ hp1
      rw [hx]; rfl
    have hlk : ∀ id, (h1'.filter fun p => !(l.contains p.1 || (hb'.map (·.1)).contains p.1)).lookup id = if (l.contains id || (hb'.map (·.1)).contains id) = true then none else h1'.lookup id :=
     fun id => lookup_filterP (fun b => l.contains b || (hb'.map (·.1)).contains b) h1' id
    refine .inr ⟨ms, ys, h1, hp, h1'.filter (fun p => !(l.contains p.1 || (hb'.map (·.1)).contains p.1)), _, ⟨fun id bx hid => ?_, fun id bx hid => ?_⟩, fun id hid => ?_, ACall.rl hc.1 hc.2 (by rw [hhb]; exact k2) (by
     have := hO.lent u af ms _ _ r.1 r.2 hT hl h3
     rw [List.length_map] at this
     exact this), ?_⟩
    ·rw [hh1]; exact hmem id bx hid
    ·rw [hlk] at hid
     split at hid
     ·cases hid
     ·rw [hh1]; exact hid
    ·rw [hlk, if_pos (by rw [Bool.or_eq_true]; exact .inl (by simpa using (hin id).1 hid))]
    ·rintro r' h' c' hle ⟨rfl, rfl, rfl⟩
     rw [hhb]
     refine ⟨fun id hid => ?_, k3, k4, ?_⟩
     ·obtain ⟨bx, hb⟩ := Option.isSome_iff_exists.1 hid
      have : id ∈ hb'.map (·.1) := List.mem_map.2 ⟨(id, bx), lookup_mem _ _ _ hb, rfl⟩
      rw [hlk, if_pos (by rw [Bool.or_eq_true]; exact .inr (by rw [List.contains_iff_mem]; exact this))]
     ·have e1 : st.clk + (hp.length + r.2.length + 2 - hp.length) = st.clk + r.2.length + 2 := by omega
      rw [e1]
      exact hK
   ·cases h4
  ·cases h2
theorem opX_sound (hO : GoodO P ν T O) {op : AOp} {d : Option Nat} {st st' : St} {K : St → Prop} (h : opX O T op d st = some st') (hK : K st') : opK P (mapOp ν op) d st K := by
 cases op <;> simp only [opX] at h
 case call u args => exact callX_sound hO h hK
 case bsl z zs len ps =>
  obtain ⟨q, h1, rfl⟩ := map_some h
  exact ⟨q, h1, hK⟩
 case alloc zs =>
  obtain ⟨q, h1, rfl⟩ := map_some h
  exact ⟨q, h1, hK⟩
 case store n x v =>
  obtain ⟨q, h1, rfl⟩ := map_some h
  exact ⟨q, h1, hK⟩
 case mks z zs l c =>
  obtain ⟨q, h1, rfl⟩ := map_some h
  exact ⟨q, h1, hK⟩
 case app z x y =>
  obtain ⟨q, h1, rfl⟩ := map_some h
  exact ⟨q, h1, hK⟩
 case xop k xs =>
  obtain ⟨q, h1, rfl⟩ := map_some h
  exact ⟨q, h1, hK⟩
 all_goals
  obtain ⟨q, h1, rfl⟩ := map_some h
  exact ⟨q, h1, hK⟩
theorem stepAX_sound (hO : GoodO P ν T O) {o : AO} {st st' : St} {K : St → Prop} (h : stepX O T o st = some st') (hK : K st') : stepK P (mapAO ν o) st K := by
 unfold stepX at h
 unfold stepK
 simp only [mapAO]
 cases hg : o.guard with
 | none => rw [hg] at h; exact opX_sound hO h hK
 | some p =>
  obtain ⟨t, want⟩ := p
  rw [hg] at h
  simp only [gX] at h ⊢
  cases hx : st.env.get t <;> rw [hx] at h <;> simp only at h ⊢ <;> try (cases h; done)
  ·split at h
   ·rename_i hv; rw [if_pos hv]; exact opX_sound hO h hK
   ·rename_i hv; rw [if_neg hv]; cases h; exact hK
  ·cases h; exact hK
theorem runX_sound (hO : GoodO P ν T O) : ∀ (l : List AO) (st st' : St) (K : St → Prop), runX O T l st = some st' → K st' → runK P (l.map (mapAO ν)) st K
 | [], st, st', K, h, hK => by simp only [runX] at h; cases h; exact hK
 | o :: l, st, st', K, h, hK => by
  simp only [runX] at h
  obtain ⟨s1, h1, h2⟩ := bind_some h
  simp only [List.map_cons, runK]
  exact stepAX_sound hO h1 (runX_sound hO l s1 st' K h2 hK)
theorem opD_sound (hO : GoodO P ν T O) {op : AOp} {e : Env} {h : Heap} {older : List Heap} {x : AV} {K : AV → Prop} (hx : opD O T op e h older = some x) (hK : K x) : opQ P (mapOp ν op) e h older K := by
 cases op <;> simp only [opD] at hx
 case call u args =>
  split at hx
  ·cases hx
  rename_i af hT
  split at hx
  ·rename_i hc
   simp only [Bool.and_eq_true] at hc
   obtain ⟨r, h1, rfl⟩ := map_some hx
   exact ⟨hc.2, r.1, (hO.pure u af _ r.1 r.2 hT (by simpa using hc.1) h1).wk, hK⟩
  ·cases hx
 case bsl z zs len ps =>
  split at hx
  ·rename_i hc
   obtain ⟨q, h1, rfl⟩ := map_some hx
   exact ⟨hc, q, h1, hK⟩
  ·cases hx
 all_goals
  obtain ⟨q, h1, h2⟩ := bind_some hx
  split at h2
  ·rename_i hc
   cases h2
   refine ⟨_, h1, ?_, hK⟩
   rcases keepD_spec hc with hc | hc
   ·simp only [mapOp]
    rw [hc]
    trivial
   ·simp only [mapOp]
    split
    ·trivial
    ·exact hc
  ·cases h2
theorem QF_later {o : AO} {e : Env} {h' : Heap} {x : AV} (hf : o.op.free = false) (hw : o.op.writes = false) (hg : o.guard = none ∨ ∃ t want, o.guard = some (t, want) ∧ e.get t = .b want) (hs : stepQ o.op e.get h' = some x) : QF P h' (mapAO ν o) e.get x := by
 have hq : QOp P (mapOp ν o.op) e.get h' x := by
  obtain ⟨d, g, op⟩ := o
  cases op <;> first | exact hs | (cases hf; done) | (cases hw; done)
 unfold QF
 simp only [mapAO]
 rcases hg with hg | ⟨t, want, hg, ht⟩
 ·rw [hg]; exact hq
 ·rw [hg]; exact .inl ⟨ht, hq⟩
theorem QF_skip {o : AO} {e : Env} {h' : Heap} (hg : ∃ t want, o.guard = some (t, want) ∧ (e.get t = .b (!want) ∨ e.get t = .tup [])) : QF P h' (mapAO ν o) e.get (.tup []) := by
 obtain ⟨t, want, hg, ht⟩ := hg
 unfold QF
 simp only [mapAO]
 rw [hg]
 exact .inr ⟨ht, by trivial⟩
theorem QF_free2 {o : AO} {e : Env} {h h' : Heap} {x : AV} (hf : o.op.free = true) (hq : QF P h (mapAO ν o) e.get x) : QF P h' (mapAO ν o) e.get x :=
 QF_free (o := mapAO ν o) (by show (mapOp ν o.op).free = true; cases hop : o.op <;> rw [hop] at hf <;> first | rfl | cases hf) h h' hq
theorem qX_sound (hO : GoodO P ν T O) {o : AO} {e : Env} {h : Heap} {older : List Heap} {r : AV × Bool} {K : AV → Prop} (hx : qX O T o e h older = some r) (hK : K r.1) :
  qK P (mapAO ν o) e h older K ∧ (r.2 = true → (o.guard = none ∨ ∃ t want, o.guard = some (t, want) ∧ e.get t = .b want)) ∧ (r.2 = false → r.1 = .tup [] ∧ ∃ t want, o.guard = some (t, want) ∧ (e.get t = .b (!want) ∨ e.get t = .tup [])) := by
 unfold qX at hx
 unfold qK
 simp only [mapAO]
 cases hg : o.guard with
 | none =>
  rw [hg] at hx
  obtain ⟨x, h1, rfl⟩ := map_some hx
  exact ⟨opD_sound hO h1 hK, fun _ => .inl rfl, fun h => by cases h⟩
 | some p =>
  obtain ⟨t, want⟩ := p
  rw [hg] at hx
  simp only at hx ⊢
  cases hx2 : e.get t with
  | b v =>
   rw [hx2] at hx
   simp only at hx ⊢
   split at hx
   ·rename_i hv
    rw [if_pos hv]
    obtain ⟨x, h1, rfl⟩ := map_some hx
    exact ⟨opD_sound hO h1 hK, fun _ => .inr ⟨t, want, rfl, by rw [hx2, hv]⟩, fun h => by cases h⟩
   ·rename_i hv
    rw [if_neg hv]
    cases hx
    refine ⟨hK, ?_, ?_⟩
    ·intro h; cases h
    intro _
    refine ⟨rfl, t, want, rfl, .inl ?_⟩
    rw [hx2]
    congr 1
    cases v <;> cases want <;> simp_all
  | tup l =>
   rw [hx2] at hx
   cases l with
   | nil =>
    simp only at hx ⊢
    cases hx
    refine ⟨hK, ?_, ?_⟩
    ·intro h; cases h
    ·intro _; exact ⟨rfl, t, want, rfl, .inr hx2⟩
   | cons c l => simp at hx
  | _ => rw [hx2] at hx; simp at hx
theorem pendOk_spec {pend : PendX} {h : Heap} (hp : pendOk pend h = true) : ∀ p ∈ pend, 0 < p.1 → stepQ p.2.1 p.2.2.1.get h = some p.2.2.2 := by
 classical
 unfold pendOk at hp
 exact of_decide_eq_true hp
def PendRel (pendX : PendX) (pend : Pend) : Prop := ∀ q ∈ pend, (∀ h', q.2 h') ∨ q.1 = 0 ∨ ∃ p ∈ pendX, p.1 = q.1 ∧ ∀ h', stepQ p.2.1 p.2.2.1.get h' = some p.2.2.2 → q.2 h'
theorem PendRel.next {pendX : PendX} {pend : Pend} (h : PendRel pendX pend) : PendRel (pendX.map fun p => (p.1 - 1, p.2)) (pend.map fun p => (p.1 - 1, p.2)) := by
 intro q hq
 obtain ⟨q0, h1, rfl⟩ := List.mem_map.1 hq
 rcases h q0 h1 with h2 | h2 | ⟨p, h2, h3, h4⟩
 ·exact .inl h2
 ·exact .inr (.inl (by simp only; omega))
 ·exact .inr (.inr ⟨_, List.mem_map.2 ⟨p, h2, rfl⟩, by simp only; omega, h4⟩)
theorem drawX_sound (hO : GoodO P ν T O) : ∀ (l : List DO) (e : Env) (h : Heap) (clk : Nat) (older : List Heap) (pendX : PendX) (pend : Pend) (st' : St) (K : St → Prop), PendRel pendX pend → drawX O T l e h clk older pendX = some st' → K st' → drawL P (l.map (mapDO ν)) e h clk older pend K
 | [], e, h, clk, older, pendX, pend, st', K, hpr, hx, hK => by simp only [drawX] at hx; cases hx; exact hK
 | o :: l, e, h, clk, older, pendX, pend, st', K, hpr, hx, hK => by
  simp only [drawX] at hx
  simp only [List.map_cons, drawL]
  have hw : (mapDO ν o).ao.op.writes = o.ao.op.writes := by
   show (mapOp ν o.ao.op).writes = _
   cases o.ao.op <;> rfl
  rw [hw]
  cases ho : o.ao.op.writes with
  | true =>
   rw [ho] at hx
   simp only at hx ⊢
   split at hx
   ·rename_i hg
    obtain ⟨q, h1, h2⟩ := bind_some hx
    split at h2
    ·rename_i hpd
     have e1 : mapOp ν o.ao.op = o.ao.op := by
      cases hop : o.ao.op <;> rw [hop] at ho <;> first | rfl | (simp [AOp.writes] at ho)
     refine ⟨by show o.ao.guard = none; simpa using hg, q, ?_, fun p hp h0 => ?_, drawX_sound hO l _ _ _ _ _ _ st' K hpr.next h2 hK⟩
     ·show stepW (mapOp ν o.ao.op) o.ao.dst e.get h clk = some q
      rw [e1]
      exact h1
     ·rcases hpr p hp with h3 | h3 | ⟨p', h3, h4, h5⟩
      ·exact h3 _
      ·omega
      ·exact h5 _ (pendOk_spec hpd p' h3 (by omega))
    ·cases h2
   ·cases hx
  | false =>
   rw [ho] at hx
   simp only at hx ⊢
   obtain ⟨r, h1, h2⟩ := bind_some hx
   have key := fun (K' : AV → Prop) (hk : K' r.1) => qX_sound hO (K := K') h1 hk
   refine (key _ ?_).1
   refine drawX_sound hO l _ _ _ _ _ _ st' K ?_ h2 hK
   obtain ⟨_, k1, k2⟩ := key (fun _ => True) trivial
   intro q hq
   rcases List.mem_cons.1 hq with rfl | hq
   ·cases hr2 : r.2 with
    | false =>
     obtain ⟨h3, h4⟩ := k2 hr2
     exact .inl fun h' => by
      show QF P h' (mapAO ν o.ao) e.get r.1
      rw [h3]
      exact QF_skip h4
    | true =>
     cases hf : o.ao.op.free with
     | true =>
      obtain ⟨hqk, _⟩ := key (fun x => x = r.1) rfl
      obtain ⟨x, hq1, _, hxr⟩ := QF_of (o := mapAO ν o.ao) (by rw [← ho]; exact hw) hqk
      subst hxr
      exact .inl fun h' => QF_free2 hf hq1
     | false =>
      by_cases hn : older.length < o.hi
      ·refine .inr (.inr ⟨(o.hi - older.length, o.ao.op, e, r.1), ?_, rfl, fun h' hs => QF_later hf ho (k1 hr2) hs⟩)
       unfold pendAdd
       rw [if_pos (by rw [hr2, hf, decide_eq_true hn]; rfl)]
       exact List.mem_cons_self
      ·exact .inr (.inl (by show o.hi - older.length = 0; omega))
   ·rcases hpr q hq with h3 | h3 | ⟨p, h3, h4, h5⟩
    ·exact .inl h3
    ·exact .inr (.inl h3)
    ·refine .inr (.inr ⟨p, ?_, h4, h5⟩)
     unfold pendAdd
     split
     ·exact List.mem_cons_of_mem _ h3
     ·exact h3
theorem headX_sound (hO : GoodO P ν T O) (tl : List AO) : ∀ (l : List AO) (e : Env) (h : Heap) (clk : Nat) (st' : St) (K : St → Prop), headX O T tl l e h clk = some st' → K st' → drawTL P (tl.map (mapAO ν)) (l.map (mapAO ν)) e h clk K
 | [], e, h, clk, st', K, hx, hK => runX_sound hO tl _ st' K hx hK
 | o :: l, e, h, clk, st', K, hx, hK => by
  simp only [headX] at hx
  obtain ⟨r, h1, h2⟩ := bind_some hx
  simp only [List.map_cons, drawTL]
  exact (qX_sound hO (K := fun x => drawTL P (tl.map (mapAO ν)) (l.map (mapAO ν)) (putE e o.dst x) h clk K) h1 (headX_sound hO tl l _ h clk st' K h2 hK)).1
theorem snd_block {cx : Cx} {c : AC} {st : St} {id : Nat} {o : Option (Ex × St)} {e : Ex} {st' : St} (h0 : ∀ e1 s1, o = some (e1, s1) → AWp cx c (Is e1 s1) st)
  (h : (o.bind fun r => match r.1 with | .x j => if j = id then some (Ex.n, r.2) else some r | _ => some r) = some (e, st')) : AWp cx (.block id c) (Is e st') st := by
 obtain ⟨⟨e1, s1⟩, h1, h2⟩ := bind_some h
 refine AWp_block ((h0 e1 s1 h1).mono ?_)
 rintro ex s ⟨rfl, rfl⟩
 cases e1 with
 | n => simp only at h2; cases h2; exact ⟨rfl, rfl⟩
 | x j =>
  simp only at h2
  show blockK id _ (.exit j) _
  simp only [blockK]
  split at h2
  ·rename_i hj; rw [if_pos hj]; cases h2; exact ⟨rfl, rfl⟩
  ·rename_i hj; rw [if_neg hj]; cases h2; exact ⟨rfl, rfl⟩
 | r => simp only at h2; cases h2; exact ⟨rfl, rfl⟩
theorem snd_note {k : Nat} {cx : Cx} (hk : cx.clk0 = k + 1) {c : AC} {st : St} {g : Gh} {o : Option (Ex × St)} {e : Ex} {st' : St} (h0 : ∀ e1 s1, o = some (e1, s1) → AWp cx c (Is e1 s1) st)
  (h : (o.bind fun r => match r.1 with | .n => (ghS k g r.2).map fun s => (Ex.n, s) | _ => some r) = some (e, st')) : AWp cx c (Is e st') st := by
 obtain ⟨⟨e1, s1⟩, h1, h2⟩ := bind_some h
 intro code hc hm a w hr
 refine wp_mono (h0 e1 s1 h1 code hc hm a w hr) ?_
 rintro ex a' w' ⟨s, ⟨rfl, rfl⟩, hr'⟩
 cases e1 with
 | n =>
  simp only at h2
  obtain ⟨s2, h3, h4⟩ := map_some h2
  cases h4
  exact ⟨_, ⟨rfl, rfl⟩, hr'.gh hk h3⟩
 | x id => simp only at h2; cases h2; exact ⟨_, ⟨rfl, rfl⟩, hr'⟩
 | r => simp only at h2; cases h2; exact ⟨_, ⟨rfl, rfl⟩, hr'⟩
theorem evX_sound (hO : GoodO P ν T O) {k : Nat} {cx : Cx} (hP : cx.P = P) (hk : cx.clk0 = k + 1) : ∀ (c : AX) (st : St) (e : Ex) (st' : St), evX O T k c st = some (e, st') → AWp cx (er ν c) (Is e st') st
 | .skip, st, e, st', h => by simp only [evX] at h; cases h; exact AWp_skip ⟨rfl, rfl⟩
 | .reg l, st, e, st', h => by
  simp only [evX] at h
  obtain ⟨s, h1, h2⟩ := map_some h
  cases h2
  refine AWp_reg ?_
  rw [hP]
  exact runX_sound hO l st st' _ h1 ⟨rfl, rfl⟩
 | .draw l, st, e, st', h => by
  simp only [evX] at h
  obtain ⟨s, h1, h2⟩ := map_some h
  cases h2
  refine AWp_draw ?_
  rw [hP]
  exact drawX_sound hO l _ _ _ _ _ _ st' _ (fun q hq => by simp at hq) h1 ⟨rfl, rfl⟩
 | .drawT hd tl, st, e, st', h => by
  simp only [evX] at h
  obtain ⟨s, h1, h2⟩ := map_some h
  cases h2
  refine AWp_drawT ?_
  rw [hP]
  exact headX_sound hO tl hd _ _ _ st' _ h1 ⟨rfl, rfl⟩
 | .bad, st, e, st', h => by simp only [evX] at h; cases h
 | .prim f, st, e, st', h => by simp only [evX] at h; cases h
 | .seq a b, st, e, st', h => by
  simp only [evX] at h
  obtain ⟨⟨e1, s1⟩, h1, h2⟩ := bind_some h
  refine AWp_seq ((evX_sound hO hP hk a st e1 s1 h1).mono ?_)
  rintro ex s ⟨rfl, rfl⟩
  cases e1 with
  | n => exact evX_sound hO hP hk b _ e st' h2
  | x id => simp only at h2; cases h2; exact ⟨rfl, rfl⟩
  | r => simp only at h2; cases h2; exact ⟨rfl, rfl⟩
 | .cond c x y, st, e, st', h => by
  simp only [evX] at h
  split at h
  ·rename_i t ht
   refine AWp_cond ht (fun h1 => ?_) (fun h1 => ?_)
   ·subst h1; exact evX_sound hO hP hk x st e st' (by simpa using h)
   ·subst h1; exact evX_sound hO hP hk y st e st' (by simpa using h)
  ·cases h
 | .block id c, st, e, st', h => by
  simp only [evX] at h
  obtain ⟨⟨e1, s1⟩, h1, h2⟩ := bind_some h
  refine AWp_block ((evX_sound hO hP hk c st e1 s1 h1).mono ?_)
  rintro ex s ⟨rfl, rfl⟩
  cases e1 with
  | n => simp only at h2; cases h2; exact ⟨rfl, rfl⟩
  | x j =>
   simp only at h2
   show blockK id _ (.exit j) _
   simp only [blockK]
   split at h2
   ·rename_i hj; rw [if_pos hj]; cases h2; exact ⟨rfl, rfl⟩
   ·rename_i hj; rw [if_neg hj]; cases h2; exact ⟨rfl, rfl⟩
  | r => simp only at h2; cases h2; exact ⟨rfl, rfl⟩
 | .loop c, st, e, st', h => AWp_loop_of (hO.loop k c st e st' (by simpa only [evX] using h) cx hP hk)
 | .exit id, st, e, st', h => by simp only [evX] at h; cases h; exact AWp_exit ⟨rfl, rfl⟩
 | .ret, st, e, st', h => by simp only [evX] at h; cases h; exact AWp_ret ⟨rfl, rfl⟩
 | .note c g, st, e, st', h => by
  simp only [evX] at h
  obtain ⟨⟨e1, s1⟩, h1, h2⟩ := bind_some h
  intro code hc hm a w hr
  refine wp_mono (evX_sound hO hP hk c st e1 s1 h1 code hc hm a w hr) ?_
  rintro ex a' w' ⟨s, ⟨rfl, rfl⟩, hr'⟩
  cases e1 with
  | n =>
   simp only at h2
   obtain ⟨s2, h3, h4⟩ := map_some h2
   cases h4
   exact ⟨_, ⟨rfl, rfl⟩, hr'.gh hk h3⟩
  | x id => simp only at h2; cases h2; exact ⟨_, ⟨rfl, rfl⟩, hr'⟩
  | r => simp only at h2; cases h2; exact ⟨_, ⟨rfl, rfl⟩, hr'⟩
 | .lp id g c g2, st, e, st', h => by
  simp only [evX] at h
  obtain ⟨s, h1, h2⟩ := bind_some h
  have h3 : ((O.loop k c s).bind fun r => match r.1 with | .x j => if j = id then some (Ex.n, r.2) else some r | _ => some r).bind (fun r => match r.1 with | .n => (ghS k g2 r.2).map fun s => (Ex.n, s) | _ => some r) = some (e, st') := by
   rw [← h2]
   cases O.loop k c s with
   | none => rfl
   | some r =>
    obtain ⟨e1, s1⟩ := r
    cases e1 with
    | n => rfl
    | r => rfl
    | x j =>
     simp only [Option.bind_some]
     split <;> rfl
  have h4 : AWp cx (.block id (.loop (er ν c))) (Is e st') s :=
   snd_note hk (fun e1 s1 he => snd_block (fun e2 s2 he2 => AWp_loop_of (hO.loop k c s e2 s2 he2 cx hP hk)) he) h3
  intro code hc hm a w hr
  exact h4 code hc hm a w (hr.gh hk h1)
 | .scope c, st, e, st', h => by
  simp only [evX] at h
  refine AWp_scope ((evX_sound hO hP hk c st e st' h).mono ?_)
  rintro ex s ⟨rfl, rfl⟩
  exact ⟨fun l => by cases e <;> (intro he; cases he), rfl, rfl⟩
 | .pre g c, st, e, st', h => by
  simp only [evX] at h
  obtain ⟨s, h1, h2⟩ := bind_some h
  intro code hc hm a w hr
  exact evX_sound hO hP hk c s e st' h2 code hc hm a w (hr.gh hk h1)
theorem acall_norm {f : FuncId} {xs : List AV} {hb : Heap} {k : Nat} {ex : Bool} {x : AV} {hh : Heap} {cc : Nat} (h : ACall P f xs hb (k + 1) (fun r h c => r = x ∧ h = hh ∧ c = cc)) :
  ACall P f xs hb (k + 1) (fun r h c => r = (normS ex k [0] ⟨[(0, x)], hh, cc⟩).env.get 0 ∧ h = (normS ex k [0] ⟨[(0, x)], hh, cc⟩).heap ∧ c = (normS ex k [0] ⟨[(0, x)], hh, cc⟩).clk) := by
 refine ⟨h.1, fun w S M cargs hl hC hheap hS hM => (h.2 w S M cargs hl hC hheap hS hM).mono ?_⟩
 intro e w' ⟨v, r, h', S', M', clk', he, ⟨h1, h2, h3⟩, hCr, hw⟩
 subst h1
 subst h2
 subst h3
 have hrel : Rel ⟨P, 1, w, S, M, k + 1⟩ ⟨[(0, r)], h', clk'⟩ { tmps := #[v], defers := [] } w' := by
  refine ⟨S', M', rfl, rfl, fun t => ?_, hw 1⟩
  cases t with
  | zero => simpa using hCr
  | succ t => simp; exact .p (.dead _)
 obtain ⟨S2, M2, hr2⟩ := hrel.norm (ex := ex) (k := k) (live := [0]) rfl
 refine ⟨v, _, _, S2, M2, _, he, ⟨rfl, rfl, rfl⟩, by simpa using hr2.env 0, fun nt => ?_⟩
 have := hr2.wr
 exact ⟨this.heap, this.ext, this.fr, this.Snew, this.Slt, this.Mnew⟩
theorem PCall.res {f : FuncId} {xs : List AV} {y : AV} {ex : Bool} (h : PCall P f xs (· = y)) : PCall P f xs (· = wkIf ex y) :=
 ⟨h.1, fun w S cargs hl hC hS => (h.2 w S cargs hl hC hS).mono fun _ _ ⟨v, r, he, hr, hb, hC⟩ => ⟨v, _, he, rfl, hb, by have hr : r = y := hr; rw [← hr]; exact hC.wkIf ex⟩⟩
def TOk (P : Program) (ν : Nat → FuncId) (T : Tbl) : Prop := ∀ u af, T u = some af →
 match af.body.isPrim with
 | some f => ∀ xs r, f xs = some r → PCall P (ν u) xs (· = r)
 | none => resFn P (ν u) = some (erF ν af)
theorem GoodO.next (hT : TOk P ν T) (hm : P.follows .mixedOrders = true) (hO : GoodO P ν T O) : GoodO P ν T (nextO T O) := by
 refine ⟨fun u af xs r h hu hl hc => ?_, fun u af ms xs hb r hb' hu hl hc => ?_, fun k c st e st' h cx hP hk => ?_⟩
 ·have hTu := hT u af hu
  simp only [nextO, hu] at hc
  split at hc
  ·rename_i f hf
   rw [hf] at hTu
   split at hc
   ·obtain ⟨x, h1, h2⟩ := map_some hc
    cases h2
    exact hTu xs _ h1
   ·cases hc
  rename_i hf
  rw [hf] at hTu
  simp only at hTu
  split at hc
  ·rename_i hcond
   obtain ⟨⟨e, s⟩, h1, h2⟩ := bind_some hc
   have key : ∃ x y, (e = .n ∨ e = .r) ∧ resAV s af.res = some x ∧ frz s.heap x = some y ∧ r = wkIf af.exact y := by
    unfold endX at h2
    cases e with
    | x id => simp at h2
    | n =>
     simp only at h2
     obtain ⟨x, h3, h4⟩ := bind_some h2
     rw [hl] at h4
     obtain ⟨y, h5, h6⟩ := map_some h4
     cases h6
     exact ⟨x, y, .inl rfl, h3, h5, rfl⟩
    | r =>
     simp only at h2
     obtain ⟨x, h3, h4⟩ := bind_some h2
     rw [hl] at h4
     obtain ⟨y, h5, h6⟩ := map_some h4
     cases h6
     exact ⟨x, y, .inr rfl, h3, h5, rfl⟩
   obtain ⟨x, y, he, h3, h5, rfl⟩ := key
   refine PCall.res (pcall_of2 hTu hm hcond.1 fun cx hP hnt hclk => ((evX_sound hO hP hclk af.body _ e s h1).mono ?_))
   rintro ex s' ⟨rfl, rfl⟩
   exact ⟨by rcases he with rfl | rfl; exact .inl rfl; exact .inr rfl, x, y, h3, h5, rfl⟩
  ·cases hc
 ·have hTu := hT u af hu
  simp only [nextO, hu] at hc
  split at hc
  ·rename_i f hf
   split at hc
   ·rename_i hcond
    rw [hcond.2] at hl
    cases hl
   ·cases hc
  rename_i hf
  rw [hf] at hTu
  simp only at hTu
  split at hc
  ·rename_i hcond
   obtain ⟨⟨e, s⟩, h1, h2⟩ := bind_some hc
   have key : ∃ x, (e = .n ∨ e = .r) ∧ resAV s af.res = some x ∧ r = (normS af.exact hb.length [0] ⟨[(0, x)], s.heap, s.clk⟩).env.get 0 ∧ hb' = (normS af.exact hb.length [0] ⟨[(0, x)], s.heap, s.clk⟩).heap := by
    unfold endX at h2
    cases e with
    | x id => simp at h2
    | n =>
     simp only at h2
     obtain ⟨x, h3, h4⟩ := bind_some h2
     rw [hl] at h4
     cases h4
     exact ⟨x, .inl rfl, h3, rfl, rfl⟩
    | r =>
     simp only at h2
     obtain ⟨x, h3, h4⟩ := bind_some h2
     rw [hl] at h4
     cases h4
     exact ⟨x, .inr rfl, h3, rfl, rfl⟩
   obtain ⟨x, he, h3, rfl, rfl⟩ := key
   have hA : ACall P (ν u) xs hb (hb.length + 1) (fun r h c => r = x ∧ h = s.heap ∧ c = s.clk) := by
    refine acall_of2 hTu hm hcond.1 fun cx hP hnt hclk => ((evX_sound hO hP hclk af.body _ e s h1).mono ?_)
    rintro ex s' ⟨rfl, rfl⟩
    exact ⟨by rcases he with rfl | rfl; exact .inl rfl; exact .inr rfl, x, h3, rfl, rfl, rfl⟩
   have hB := acall_norm (ex := af.exact) hA
   refine ⟨hB.1, fun w S M cargs hl hC hheap hS hM => (hB.2 w S M cargs hl hC hheap hS hM).mono ?_⟩
   intro e w' ⟨v, r, h', S', M', clk', he, ⟨a1, a2, a3⟩, hCr, hw⟩
   refine ⟨v, r, h', S', M', clk', he, ⟨a1, a2, ?_⟩, hCr, hw⟩
   rw [a3]
   simp only [normS, List.length_map]
  ·cases hc
 ·simp only [nextO] at h
  obtain ⟨⟨e1, s1⟩, h1, h2⟩ := bind_some h
  refine LWp_step ((evX_sound hO hP hk c st e1 s1 h1).mono ?_)
  rintro ex s ⟨rfl, rfl⟩
  cases e1 with
  | n => exact hO.loop k c _ e st' h2 cx hP hk
  | x id => simp only at h2; cases h2; exact ⟨rfl, rfl⟩
  | r => simp only at h2; cases h2; exact ⟨rfl, rfl⟩
theorem GoodO.orcN (hT : TOk P ν T) (hm : P.follows .mixedOrders = true) : ∀ n, GoodO P ν T (orcN T n)
 | 0 => ⟨fun _ _ _ _ _ _ _ h => (by cases h), fun _ _ _ _ _ _ _ _ _ h => (by cases h), fun _ _ _ _ _ h => (by cases h)⟩
 | n + 1 => (GoodO.orcN hT hm n).next hT hm
end
end Go.Ab
end

section
namespace Go.Ab
open Go.RowKit
inductive Qy where
 | call (u : Nat) (xs : List AV) (hb : Heap) (r : AV × Heap)
 | loop (k : Nat) (c : AX) (st : St) (r : Ex × St)
def Holds (O : Orc) : Qy → Prop
 | .call u xs hb r => O.call u xs hb = some r
 | .loop k c st r => O.loop k c st = some r
def Fin1 {α : Type} (f : Orc → Option α) : Prop := ∀ O r, f O = some r → ∃ L : List Qy, (∀ q ∈ L, Holds O q) ∧ ∀ O', (∀ q ∈ L, Holds O' q) → f O' = some r
theorem Fin1.const {α : Type} (a : Option α) : Fin1 fun _ => a := fun _ _ h => ⟨[], by simp, fun _ _ => h⟩
theorem Fin1.bind {α β : Type} {g : Orc → Option α} {h : Orc → α → Option β} (hg : Fin1 g) (hh : ∀ x, Fin1 fun O => h O x) : Fin1 fun O => (g O).bind (h O) := by
 intro O r he
 obtain ⟨x, h1, h2⟩ := bind_some he
 obtain ⟨L1, a1, a2⟩ := hg O x h1
 obtain ⟨L2, b1, b2⟩ := hh x O r h2
 refine ⟨L1 ++ L2, fun q hq => ?_, fun O' hO' => ?_⟩
 ·rcases List.mem_append.1 hq with hq | hq
  ·exact a1 q hq
  ·exact b1 q hq
 ·have e1 := a2 O' fun q hq => hO' q (List.mem_append_left _ hq)
  have e2 := b2 O' fun q hq => hO' q (List.mem_append_right _ hq)
  simp only at e2
  simp only [e1, Option.bind_some, e2]
theorem Fin1.map {α β : Type} {g : Orc → Option α} (hg : Fin1 g) (f : α → β) : Fin1 fun O => (g O).map f := by
 have := hg.bind (h := fun _ x => some (f x)) fun x => .const _
 simpa only [Option.map_eq_bind, Function.comp_def] using this
theorem Fin1.call (u : Nat) (xs : List AV) (hb : Heap) : Fin1 fun O => O.call u xs hb := fun O r h => ⟨[.call u xs hb r], by simpa [Holds] using h, fun O' h' => by simpa [Holds] using h'⟩
theorem Fin1.loop (k : Nat) (c : AX) (st : St) : Fin1 fun O => O.loop k c st := fun O r h => ⟨[.loop k c st r], by simpa [Holds] using h, fun O' h' => by simpa [Holds] using h'⟩
section
variable (T : Tbl)
theorem callX_fin (u : Nat) (xs : List AV) (d : Option Nat) (st : St) : Fin1 fun O => callX O T u xs d st := by
 unfold callX
 split
 ·exact .const _
 ·split
  ·refine Fin1.bind (.const _) fun ys => Fin1.bind (.call _ _ _) fun r => .const _
  ·refine Fin1.bind (.const _) fun ys => ?_
   simp only
   split
   ·refine Fin1.bind (.call _ _ _) fun r => .const _
   ·exact .const _
theorem opX_fin (op : AOp) (d : Option Nat) (st : St) : Fin1 fun O => opX O T op d st := by
 cases op <;> simp only [opX] <;> first | exact .const _ | exact callX_fin T _ _ _ _
theorem stepX_fin (o : AO) (st : St) : Fin1 fun O => stepX O T o st := by
 unfold stepX
 split
 ·exact opX_fin T _ _ _
 ·unfold gX
  split
  ·split
   ·exact opX_fin T _ _ _
   ·exact .const _
  ·exact .const _
  ·exact .const _
theorem runX_fin : ∀ (l : List AO) (st : St), Fin1 fun O => runX O T l st
 | [], st => .const _
 | o :: l, st => by
  simp only [runX]
  exact (stepX_fin T o st).bind fun s => runX_fin l s
theorem opD_fin (op : AOp) (e : Env) (h : Heap) (older : List Heap) : Fin1 fun O => opD O T op e h older := by
 cases op <;> simp only [opD] <;> try exact .const _
 split
 ·exact .const _
 ·split
  ·exact (Fin1.call _ _ _).map _
  ·exact .const _
theorem qX_fin (o : AO) (e : Env) (h : Heap) (older : List Heap) : Fin1 fun O => qX O T o e h older := by
 unfold qX
 split
 ·exact (opD_fin T _ _ _ _).map _
 ·split
  ·split
   ·exact (opD_fin T _ _ _ _).map _
   ·exact .const _
  ·exact .const _
  ·exact .const _
theorem drawX_fin : ∀ (l : List DO) (e : Env) (h : Heap) (clk : Nat) (older : List Heap) (pend : PendX), Fin1 fun O => drawX O T l e h clk older pend
 | [], e, h, clk, older, pend => .const _
 | o :: l, e, h, clk, older, pend => by
  simp only [drawX]
  split
  ·split
   ·refine Fin1.bind (.const _) fun q => ?_
    split
    ·exact drawX_fin l _ _ _ _ _
    ·exact .const _
   ·exact .const _
  ·exact (qX_fin T _ _ _ _).bind fun x => drawX_fin l _ _ _ _ _
theorem headX_fin (tl : List AO) : ∀ (l : List AO) (e : Env) (h : Heap) (clk : Nat), Fin1 fun O => headX O T tl l e h clk
 | [], e, h, clk => runX_fin T tl _
 | o :: l, e, h, clk => by
  simp only [headX]
  exact (qX_fin T _ _ _ _).bind fun x => headX_fin tl l _ _ _
theorem evX_fin (k : Nat) : ∀ (c : AX) (st : St), Fin1 fun O => evX O T k c st
 | .skip, st => .const _
 | .reg l, st => by simp only [evX]; exact (runX_fin T l st).map _
 | .draw l, st => by simp only [evX]; exact (drawX_fin T l _ _ _ _ _).map _
 | .drawT hd tl, st => by simp only [evX]; exact (headX_fin T tl hd _ _ _).map _
 | .bad, st => .const _
 | .prim f, st => .const _
 | .seq a b, st => by
  simp only [evX]
  refine (evX_fin k a st).bind fun r => ?_
  obtain ⟨e, s⟩ := r
  cases e
  ·exact evX_fin k b s
  ·exact .const _
  ·exact .const _
 | .cond c x y, st => by
  simp only [evX]
  split
  ·split
   ·exact evX_fin k x st
   ·exact evX_fin k y st
  ·exact .const _
 | .block id c, st => by simp only [evX]; exact (evX_fin k c st).bind fun r => .const _
 | .loop c, st => by simp only [evX]; exact .loop _ _ _
 | .exit id, st => .const _
 | .ret, st => .const _
 | .note c g, st => by simp only [evX]; exact (evX_fin k c st).bind fun r => .const _
 | .pre g c, st => by simp only [evX]; exact Fin1.bind (.const _) fun s => evX_fin k c s
 | .scope c, st => by simp only [evX]; exact evX_fin k c st
 | .lp id g c g2, st => by simp only [evX]; exact Fin1.bind (.const _) fun s => (Fin1.loop _ _ _).bind fun r => .const _
theorem nextO_call_fin (u : Nat) (xs : List AV) (hb : Heap) : Fin1 fun O => (nextO T O).call u xs hb := by
 simp only [nextO]
 split
 ·exact .const _
 ·split
  ·exact .const _
  ·split
   ·exact (evX_fin T _ _ _).bind fun r => .const _
   ·exact .const _
theorem nextO_loop_fin (k : Nat) (c : AX) (st : St) : Fin1 fun O => (nextO T O).loop k c st := by
 simp only [nextO]
 refine (evX_fin T k c st).bind fun r => ?_
 obtain ⟨e, s⟩ := r
 cases e
 ·exact .loop _ _ _
 ·exact .const _
 ·exact .const _
theorem orcN_mono : ∀ (n : Nat) (q : Qy), Holds (orcN T n) q → Holds (orcN T (n + 1)) q
 | 0, q, h => by cases q <;> cases h
 | n + 1, .call u xs hb r, h => by
  obtain ⟨L, h1, h2⟩ := nextO_call_fin T u xs hb _ r h
  exact h2 _ fun q hq => orcN_mono n q (h1 q hq)
 | n + 1, .loop k c st r, h => by
  obtain ⟨L, h1, h2⟩ := nextO_loop_fin T k c st _ r h
  exact h2 _ fun q hq => orcN_mono n q (h1 q hq)
theorem orcN_le {n m : Nat} (h : n ≤ m) (q : Qy) (hq : Holds (orcN T n) q) : Holds (orcN T m) q := by
 induction h with
 | refl => exact hq
 | step _ ih => exact orcN_mono T _ q ih
open Classical in
noncomputable def lim {α : Type} (f : Nat → Option α) : Option α := if h : ∃ n a, f n = some a then f (Classical.choose h) else none
theorem lim_some {α : Type} {f : Nat → Option α} (hm : ∀ n m a, n ≤ m → f n = some a → f m = some a) (a : α) : lim f = some a ↔ ∃ n, f n = some a := by
 unfold lim
 constructor
 ·intro h
  split at h
  ·exact ⟨_, h⟩
  ·cases h
 ·intro ⟨n, h⟩
  have hex : ∃ n a, f n = some a := ⟨n, a, h⟩
  rw [dif_pos hex]
  obtain ⟨b, hb⟩ := Classical.choose_spec hex
  have h1 := hm _ _ _ (Nat.le_max_left n (Classical.choose hex)) h
  have h2 := hm _ _ _ (Nat.le_max_right n (Classical.choose hex)) hb
  rw [hb, ← h2, h1]
noncomputable def orc : Orc := ⟨fun u xs hb => lim fun n => (orcN T n).call u xs hb, fun k c st => lim fun n => (orcN T n).loop k c st⟩
theorem orc_holds (q : Qy) : Holds (orc T) q ↔ ∃ n, Holds (orcN T n) q := by
 cases q with
 | call u xs hb r => exact lim_some (fun n m a hnm h => orcN_le T hnm (.call u xs hb a) h) r
 | loop k c st r => exact lim_some (fun n m a hnm h => orcN_le T hnm (.loop k c st a) h) r
theorem orc_all {L : List Qy} (h : ∀ q ∈ L, Holds (orc T) q) : ∃ n, ∀ q ∈ L, Holds (orcN T n) q := by
 induction L with
 | nil => exact ⟨0, by simp⟩
 | cons q L ih =>
  obtain ⟨n, hn⟩ := ih fun q hq => h q (List.mem_cons_of_mem _ hq)
  obtain ⟨m, hm⟩ := (orc_holds T q).1 (h q List.mem_cons_self)
  refine ⟨max n m, fun x hx => ?_⟩
  rcases List.mem_cons.1 hx with rfl | hx
  ·exact orcN_le T (Nat.le_max_right _ _) _ hm
  ·exact orcN_le T (Nat.le_max_left _ _) _ (hn x hx)
theorem orc_call (u : Nat) (xs : List AV) (hb : Heap) : (orc T).call u xs hb = (nextO T (orc T)).call u xs hb := by
 apply Option.ext
 intro r
 constructor
 ·intro h
  obtain ⟨n, hn⟩ := (orc_holds T (.call u xs hb r)).1 h
  cases n with
  | zero => cases hn
  | succ n =>
   obtain ⟨L, h1, h2⟩ := nextO_call_fin T u xs hb _ r hn
   exact h2 _ fun q hq => (orc_holds T q).2 ⟨n, h1 q hq⟩
 ·intro h
  obtain ⟨L, h1, h2⟩ := nextO_call_fin T u xs hb _ r h
  obtain ⟨n, hn⟩ := orc_all T h1
  exact (orc_holds T (.call u xs hb r)).2 ⟨n + 1, h2 _ hn⟩
theorem orc_loop (k : Nat) (c : AX) (st : St) : (orc T).loop k c st = (nextO T (orc T)).loop k c st := by
 apply Option.ext
 intro r
 constructor
 ·intro h
  obtain ⟨n, hn⟩ := (orc_holds T (.loop k c st r)).1 h
  cases n with
  | zero => cases hn
  | succ n =>
   obtain ⟨L, h1, h2⟩ := nextO_loop_fin T k c st _ r hn
   exact h2 _ fun q hq => (orc_holds T q).2 ⟨n, h1 q hq⟩
 ·intro h
  obtain ⟨L, h1, h2⟩ := nextO_loop_fin T k c st _ r h
  obtain ⟨n, hn⟩ := orc_all T h1
  exact (orc_holds T (.loop k c st r)).2 ⟨n + 1, h2 _ hn⟩
end
noncomputable def callF (T : Tbl) (u : Nat) (xs : List AV) : Option AV := ((orc T).call u xs []).map (·.1)
noncomputable def callH (T : Tbl) (u : Nat) (xs : List AV) (hb : Heap) : Option (AV × Heap) := (orc T).call u xs hb
noncomputable def loopX (T : Tbl) (k : Nat) (c : AX) (st : St) : Option (Ex × St) := (orc T).loop k c st
theorem callF_sound {P : Program} {ν : Nat → FuncId} {T : Tbl} (hT : TOk P ν T) (hm : P.follows .mixedOrders = true) {u : Nat} {af : AFx} {xs : List AV} {r : AV} (hu : T u = some af) (hl : af.lent = none) (h : callF T u xs = some r) : PCall P (ν u) xs (· = r) := by
 obtain ⟨⟨r', h'⟩, h1, rfl⟩ := map_some h
 obtain ⟨n, hn⟩ := (orc_holds T (.call u xs [] (r', h'))).1 h1
 exact (GoodO.orcN hT hm n).pure u af xs r' h' hu hl hn
end Go.Ab
end

section
namespace Go.Ab
open Go.RowKit
def u8 (n : Nat) : AV := .i .u8 (n : Int)
def u32 (n : Nat) : AV := .i .u32 (n : Int)
def u64 (n : Nat) : AV := .i .u64 (n : Int)
@[simp] theorem wkA_i (k : IntKind) (n : Int) : wkA (.i k n) = .i k n := rfl
@[simp] theorem frz1_i {h : Heap} (k : IntKind) (n : Int) : frz1 h (.i k n) = some (.i k n) := rfl
@[simp] theorem frzC_i {h : Heap} (k : IntKind) (n : Int) : frzC h (.i k n) = some (.i k n) := rfl
@[simp] theorem frz_i {h : Heap} (k : IntKind) (n : Int) : frz h (.i k n) = some (.i k n) := rfl
@[simp] theorem scalarC_i (k : IntKind) (n : Int) : scalarC (.i k n) = true := rfl
@[simp] theorem scalar1_i (k : IntKind) (n : Int) : scalar1 (.i k n) = true := rfl
@[simp] theorem scalar_i (k : IntKind) (n : Int) : scalar (.i k n) = true := rfl
@[simp] theorem pureC_i (k : IntKind) (n : Int) : pureC (.i k n) = true := rfl
@[simp] theorem noRef_i (k : IntKind) (n : Int) : noRef (.i k n) = true := rfl
@[simp] theorem refs_i (k : IntKind) (n : Int) : refs (.i k n) = [] := rfl
@[simp] theorem rfC_i (k : IntKind) (n : Int) : rfC (.i k n) = [] := rfl
@[simp] theorem rf1_i (k : IntKind) (n : Int) : rf1 (.i k n) = [] := rfl
@[simp] theorem rfA_i (k : IntKind) (n : Int) : rfA (.i k n) = [] := rfl
@[simp] theorem rlC_i {σn : BId → BId} {σg : Nat → Nat} (k : IntKind) (n : Int) : rlC σn σg (.i k n) = (.i k n) := rfl
@[simp] theorem rl1_i {σn : BId → BId} {σg : Nat → Nat} (k : IntKind) (n : Int) : rl1 σn σg (.i k n) = (.i k n) := rfl
@[simp] theorem rlA_i {σn : BId → BId} {σg : Nat → Nat} (k : IntKind) (n : Int) : rlA σn σg (.i k n) = (.i k n) := rfl
@[simp] theorem refOkC_i {h : Heap} (k : IntKind) (n : Int) : refOkC h (.i k n) = true := rfl
@[simp] theorem refOk1_i {h : Heap} (k : IntKind) (n : Int) : refOk1 h (.i k n) = true := rfl
@[simp] theorem refOk_i {h : Heap} (k : IntKind) (n : Int) : refOk h (.i k n) = true := rfl
@[simp] theorem cellsOf_i (k : IntKind) (n : Int) : cellsOf (.i k n) = some [.i k n] := rfl
@[simp] theorem wkA_b (t : Bool) : wkA (.b t) = .b t := rfl
@[simp] theorem frz1_b {h : Heap} (t : Bool) : frz1 h (.b t) = some (.b t) := rfl
@[simp] theorem frzC_b {h : Heap} (t : Bool) : frzC h (.b t) = some (.b t) := rfl
@[simp] theorem frz_b {h : Heap} (t : Bool) : frz h (.b t) = some (.b t) := rfl
@[simp] theorem scalarC_b (t : Bool) : scalarC (.b t) = true := rfl
@[simp] theorem scalar1_b (t : Bool) : scalar1 (.b t) = true := rfl
@[simp] theorem scalar_b (t : Bool) : scalar (.b t) = true := rfl
@[simp] theorem pureC_b (t : Bool) : pureC (.b t) = true := rfl
@[simp] theorem noRef_b (t : Bool) : noRef (.b t) = true := rfl
@[simp] theorem refs_b (t : Bool) : refs (.b t) = [] := rfl
@[simp] theorem rfC_b (t : Bool) : rfC (.b t) = [] := rfl
@[simp] theorem rf1_b (t : Bool) : rf1 (.b t) = [] := rfl
@[simp] theorem rfA_b (t : Bool) : rfA (.b t) = [] := rfl
@[simp] theorem rlC_b {σn : BId → BId} {σg : Nat → Nat} (t : Bool) : rlC σn σg (.b t) = (.b t) := rfl
@[simp] theorem rl1_b {σn : BId → BId} {σg : Nat → Nat} (t : Bool) : rl1 σn σg (.b t) = (.b t) := rfl
@[simp] theorem rlA_b {σn : BId → BId} {σg : Nat → Nat} (t : Bool) : rlA σn σg (.b t) = (.b t) := rfl
@[simp] theorem refOkC_b {h : Heap} (t : Bool) : refOkC h (.b t) = true := rfl
@[simp] theorem refOk1_b {h : Heap} (t : Bool) : refOk1 h (.b t) = true := rfl
@[simp] theorem refOk_b {h : Heap} (t : Bool) : refOk h (.b t) = true := rfl
@[simp] theorem cellsOf_b (t : Bool) : cellsOf (.b t) = some [.b t] := rfl
@[simp] theorem wkA_s (l : List UInt8) : wkA (.s l) = .s l := rfl
@[simp] theorem frz1_s {h : Heap} (l : List UInt8) : frz1 h (.s l) = some (.s l) := rfl
@[simp] theorem frzC_s {h : Heap} (l : List UInt8) : frzC h (.s l) = some (.s l) := rfl
@[simp] theorem frz_s {h : Heap} (l : List UInt8) : frz h (.s l) = some (.s l) := rfl
@[simp] theorem scalarC_s (l : List UInt8) : scalarC (.s l) = true := rfl
@[simp] theorem scalar1_s (l : List UInt8) : scalar1 (.s l) = true := rfl
@[simp] theorem scalar_s (l : List UInt8) : scalar (.s l) = true := rfl
@[simp] theorem pureC_s (l : List UInt8) : pureC (.s l) = true := rfl
@[simp] theorem noRef_s (l : List UInt8) : noRef (.s l) = true := rfl
@[simp] theorem refs_s (l : List UInt8) : refs (.s l) = [] := rfl
@[simp] theorem rfC_s (l : List UInt8) : rfC (.s l) = [] := rfl
@[simp] theorem rf1_s (l : List UInt8) : rf1 (.s l) = [] := rfl
@[simp] theorem rfA_s (l : List UInt8) : rfA (.s l) = [] := rfl
@[simp] theorem rlC_s {σn : BId → BId} {σg : Nat → Nat} (l : List UInt8) : rlC σn σg (.s l) = (.s l) := rfl
@[simp] theorem rl1_s {σn : BId → BId} {σg : Nat → Nat} (l : List UInt8) : rl1 σn σg (.s l) = (.s l) := rfl
@[simp] theorem rlA_s {σn : BId → BId} {σg : Nat → Nat} (l : List UInt8) : rlA σn σg (.s l) = (.s l) := rfl
@[simp] theorem refOkC_s {h : Heap} (l : List UInt8) : refOkC h (.s l) = true := rfl
@[simp] theorem refOk1_s {h : Heap} (l : List UInt8) : refOk1 h (.s l) = true := rfl
@[simp] theorem refOk_s {h : Heap} (l : List UInt8) : refOk h (.s l) = true := rfl
@[simp] theorem cellsOf_s (l : List UInt8) : cellsOf (.s l) = some [.s l] := rfl
@[simp] theorem wkA_raw (v : Value) : wkA (.raw v) = .raw v := rfl
@[simp] theorem frz1_raw {h : Heap} (v : Value) : frz1 h (.raw v) = some (.raw v) := rfl
@[simp] theorem frzC_raw {h : Heap} (v : Value) : frzC h (.raw v) = some (.raw v) := rfl
@[simp] theorem frz_raw {h : Heap} (v : Value) : frz h (.raw v) = some (.raw v) := rfl
@[simp] theorem scalarC_raw (v : Value) : scalarC (.raw v) = false := rfl
@[simp] theorem scalar1_raw (v : Value) : scalar1 (.raw v) = false := rfl
@[simp] theorem scalar_raw (v : Value) : scalar (.raw v) = false := rfl
@[simp] theorem pureC_raw (v : Value) : pureC (.raw v) = true := rfl
@[simp] theorem noRef_raw (v : Value) : noRef (.raw v) = true := rfl
@[simp] theorem refs_raw (v : Value) : refs (.raw v) = [] := rfl
@[simp] theorem rfC_raw (v : Value) : rfC (.raw v) = [] := rfl
@[simp] theorem rf1_raw (v : Value) : rf1 (.raw v) = [] := rfl
@[simp] theorem rfA_raw (v : Value) : rfA (.raw v) = [] := rfl
@[simp] theorem rlC_raw {σn : BId → BId} {σg : Nat → Nat} (v : Value) : rlC σn σg (.raw v) = (.raw v) := rfl
@[simp] theorem rl1_raw {σn : BId → BId} {σg : Nat → Nat} (v : Value) : rl1 σn σg (.raw v) = (.raw v) := rfl
@[simp] theorem rlA_raw {σn : BId → BId} {σg : Nat → Nat} (v : Value) : rlA σn σg (.raw v) = (.raw v) := rfl
@[simp] theorem refOkC_raw {h : Heap} (v : Value) : refOkC h (.raw v) = true := rfl
@[simp] theorem refOk1_raw {h : Heap} (v : Value) : refOk1 h (.raw v) = true := rfl
@[simp] theorem refOk_raw {h : Heap} (v : Value) : refOk h (.raw v) = true := rfl
@[simp] theorem frz1_sl {h : Heap} (els : List (List AV)) (f : Fl) : frz1 h (.sl els f) = some (.sl els f) := rfl
@[simp] theorem frzC_sl {h : Heap} (els : List (List AV)) (f : Fl) : frzC h (.sl els f) = some (.sl els f) := rfl
@[simp] theorem frz_sl {h : Heap} (els : List (List AV)) (f : Fl) : frz h (.sl els f) = some (.sl els f) := rfl
@[simp] theorem scalarC_sl (els : List (List AV)) (f : Fl) : scalarC (.sl els f) = false := rfl
@[simp] theorem scalar1_sl (els : List (List AV)) (f : Fl) : scalar1 (.sl els f) = false := rfl
@[simp] theorem scalar_sl (els : List (List AV)) (f : Fl) : scalar (.sl els f) = false := rfl
@[simp] theorem pureC_sl (els : List (List AV)) (f : Fl) : pureC (.sl els f) = true := rfl
@[simp] theorem noRef_sl (els : List (List AV)) (f : Fl) : noRef (.sl els f) = true := rfl
@[simp] theorem refs_sl (els : List (List AV)) (f : Fl) : refs (.sl els f) = [] := rfl
@[simp] theorem rfC_sl (els : List (List AV)) (f : Fl) : rfC (.sl els f) = [] := rfl
@[simp] theorem rf1_sl (els : List (List AV)) (f : Fl) : rf1 (.sl els f) = [] := rfl
@[simp] theorem rfA_sl (els : List (List AV)) (f : Fl) : rfA (.sl els f) = [] := rfl
@[simp] theorem rlC_sl {σn : BId → BId} {σg : Nat → Nat} (els : List (List AV)) (f : Fl) : rlC σn σg (.sl els f) = (.sl els f) := rfl
@[simp] theorem rl1_sl {σn : BId → BId} {σg : Nat → Nat} (els : List (List AV)) (f : Fl) : rl1 σn σg (.sl els f) = (.sl els f) := rfl
@[simp] theorem rlA_sl {σn : BId → BId} {σg : Nat → Nat} (els : List (List AV)) (f : Fl) : rlA σn σg (.sl els f) = (.sl els f) := rfl
@[simp] theorem refOkC_sl {h : Heap} (els : List (List AV)) (f : Fl) : refOkC h (.sl els f) = true := rfl
@[simp] theorem refOk1_sl {h : Heap} (els : List (List AV)) (f : Fl) : refOk1 h (.sl els f) = true := rfl
@[simp] theorem refOk_sl {h : Heap} (els : List (List AV)) (f : Fl) : refOk h (.sl els f) = true := rfl
@[simp] theorem cellsOf_sl (els : List (List AV)) (f : Fl) : cellsOf (.sl els f) = some [.sl els f] := rfl
@[simp] theorem wkA_ep (cs : List AV) (o : Nat) : wkA (.ep cs o) = .ep cs o := rfl
@[simp] theorem frz1_ep {h : Heap} (cs : List AV) (o : Nat) : frz1 h (.ep cs o) = some (.ep cs o) := rfl
@[simp] theorem frzC_ep {h : Heap} (cs : List AV) (o : Nat) : frzC h (.ep cs o) = some (.ep cs o) := rfl
@[simp] theorem frz_ep {h : Heap} (cs : List AV) (o : Nat) : frz h (.ep cs o) = some (.ep cs o) := rfl
@[simp] theorem scalarC_ep (cs : List AV) (o : Nat) : scalarC (.ep cs o) = false := rfl
@[simp] theorem scalar1_ep (cs : List AV) (o : Nat) : scalar1 (.ep cs o) = false := rfl
@[simp] theorem scalar_ep (cs : List AV) (o : Nat) : scalar (.ep cs o) = false := rfl
@[simp] theorem pureC_ep (cs : List AV) (o : Nat) : pureC (.ep cs o) = true := rfl
@[simp] theorem noRef_ep (cs : List AV) (o : Nat) : noRef (.ep cs o) = true := rfl
@[simp] theorem refs_ep (cs : List AV) (o : Nat) : refs (.ep cs o) = [] := rfl
@[simp] theorem rfC_ep (cs : List AV) (o : Nat) : rfC (.ep cs o) = [] := rfl
@[simp] theorem rf1_ep (cs : List AV) (o : Nat) : rf1 (.ep cs o) = [] := rfl
@[simp] theorem rfA_ep (cs : List AV) (o : Nat) : rfA (.ep cs o) = [] := rfl
@[simp] theorem rlC_ep {σn : BId → BId} {σg : Nat → Nat} (cs : List AV) (o : Nat) : rlC σn σg (.ep cs o) = (.ep cs o) := rfl
@[simp] theorem rl1_ep {σn : BId → BId} {σg : Nat → Nat} (cs : List AV) (o : Nat) : rl1 σn σg (.ep cs o) = (.ep cs o) := rfl
@[simp] theorem rlA_ep {σn : BId → BId} {σg : Nat → Nat} (cs : List AV) (o : Nat) : rlA σn σg (.ep cs o) = (.ep cs o) := rfl
@[simp] theorem refOkC_ep {h : Heap} (cs : List AV) (o : Nat) : refOkC h (.ep cs o) = true := rfl
@[simp] theorem refOk1_ep {h : Heap} (cs : List AV) (o : Nat) : refOk1 h (.ep cs o) = true := rfl
@[simp] theorem refOk_ep {h : Heap} (cs : List AV) (o : Nat) : refOk h (.ep cs o) = true := rfl
@[simp] theorem cellsOf_ep (cs : List AV) (o : Nat) : cellsOf (.ep cs o) = some [.ep cs o] := rfl
@[simp] theorem wkA_u8 (n : Nat) : wkA (u8 n) = u8 n := rfl
@[simp] theorem frz1_u8 {h : Heap} (n : Nat) : frz1 h (u8 n) = some (u8 n) := rfl
@[simp] theorem frzC_u8 {h : Heap} (n : Nat) : frzC h (u8 n) = some (u8 n) := rfl
@[simp] theorem frz_u8 {h : Heap} (n : Nat) : frz h (u8 n) = some (u8 n) := rfl
@[simp] theorem scalarC_u8 (n : Nat) : scalarC (u8 n) = true := rfl
@[simp] theorem scalar1_u8 (n : Nat) : scalar1 (u8 n) = true := rfl
@[simp] theorem scalar_u8 (n : Nat) : scalar (u8 n) = true := rfl
@[simp] theorem pureC_u8 (n : Nat) : pureC (u8 n) = true := rfl
@[simp] theorem noRef_u8 (n : Nat) : noRef (u8 n) = true := rfl
@[simp] theorem refs_u8 (n : Nat) : refs (u8 n) = [] := rfl
@[simp] theorem rfC_u8 (n : Nat) : rfC (u8 n) = [] := rfl
@[simp] theorem rf1_u8 (n : Nat) : rf1 (u8 n) = [] := rfl
@[simp] theorem rfA_u8 (n : Nat) : rfA (u8 n) = [] := rfl
@[simp] theorem rlC_u8 {σn : BId → BId} {σg : Nat → Nat} (n : Nat) : rlC σn σg (u8 n) = (u8 n) := rfl
@[simp] theorem rl1_u8 {σn : BId → BId} {σg : Nat → Nat} (n : Nat) : rl1 σn σg (u8 n) = (u8 n) := rfl
@[simp] theorem rlA_u8 {σn : BId → BId} {σg : Nat → Nat} (n : Nat) : rlA σn σg (u8 n) = (u8 n) := rfl
@[simp] theorem refOkC_u8 {h : Heap} (n : Nat) : refOkC h (u8 n) = true := rfl
@[simp] theorem refOk1_u8 {h : Heap} (n : Nat) : refOk1 h (u8 n) = true := rfl
@[simp] theorem refOk_u8 {h : Heap} (n : Nat) : refOk h (u8 n) = true := rfl
@[simp] theorem cellsOf_u8 (n : Nat) : cellsOf (u8 n) = some [u8 n] := rfl
@[simp] theorem wkA_u32 (n : Nat) : wkA (u32 n) = u32 n := rfl
@[simp] theorem frz1_u32 {h : Heap} (n : Nat) : frz1 h (u32 n) = some (u32 n) := rfl
@[simp] theorem frzC_u32 {h : Heap} (n : Nat) : frzC h (u32 n) = some (u32 n) := rfl
@[simp] theorem frz_u32 {h : Heap} (n : Nat) : frz h (u32 n) = some (u32 n) := rfl
@[simp] theorem scalarC_u32 (n : Nat) : scalarC (u32 n) = true := rfl
@[simp] theorem scalar1_u32 (n : Nat) : scalar1 (u32 n) = true := rfl
@[simp] theorem scalar_u32 (n : Nat) : scalar (u32 n) = true := rfl
@[simp] theorem pureC_u32 (n : Nat) : pureC (u32 n) = true := rfl
@[simp] theorem noRef_u32 (n : Nat) : noRef (u32 n) = true := rfl
@[simp] theorem refs_u32 (n : Nat) : refs (u32 n) = [] := rfl
@[simp] theorem rfC_u32 (n : Nat) : rfC (u32 n) = [] := rfl
@[simp] theorem rf1_u32 (n : Nat) : rf1 (u32 n) = [] := rfl
@[simp] theorem rfA_u32 (n : Nat) : rfA (u32 n) = [] := rfl
@[simp] theorem rlC_u32 {σn : BId → BId} {σg : Nat → Nat} (n : Nat) : rlC σn σg (u32 n) = (u32 n) := rfl
@[simp] theorem rl1_u32 {σn : BId → BId} {σg : Nat → Nat} (n : Nat) : rl1 σn σg (u32 n) = (u32 n) := rfl
@[simp] theorem rlA_u32 {σn : BId → BId} {σg : Nat → Nat} (n : Nat) : rlA σn σg (u32 n) = (u32 n) := rfl
@[simp] theorem refOkC_u32 {h : Heap} (n : Nat) : refOkC h (u32 n) = true := rfl
@[simp] theorem refOk1_u32 {h : Heap} (n : Nat) : refOk1 h (u32 n) = true := rfl
@[simp] theorem refOk_u32 {h : Heap} (n : Nat) : refOk h (u32 n) = true := rfl
@[simp] theorem cellsOf_u32 (n : Nat) : cellsOf (u32 n) = some [u32 n] := rfl
@[simp] theorem wkA_u64 (n : Nat) : wkA (u64 n) = u64 n := rfl
@[simp] theorem frz1_u64 {h : Heap} (n : Nat) : frz1 h (u64 n) = some (u64 n) := rfl
@[simp] theorem frzC_u64 {h : Heap} (n : Nat) : frzC h (u64 n) = some (u64 n) := rfl
@[simp] theorem frz_u64 {h : Heap} (n : Nat) : frz h (u64 n) = some (u64 n) := rfl
@[simp] theorem scalarC_u64 (n : Nat) : scalarC (u64 n) = true := rfl
@[simp] theorem scalar1_u64 (n : Nat) : scalar1 (u64 n) = true := rfl
@[simp] theorem scalar_u64 (n : Nat) : scalar (u64 n) = true := rfl
@[simp] theorem pureC_u64 (n : Nat) : pureC (u64 n) = true := rfl
@[simp] theorem noRef_u64 (n : Nat) : noRef (u64 n) = true := rfl
@[simp] theorem refs_u64 (n : Nat) : refs (u64 n) = [] := rfl
@[simp] theorem rfC_u64 (n : Nat) : rfC (u64 n) = [] := rfl
@[simp] theorem rf1_u64 (n : Nat) : rf1 (u64 n) = [] := rfl
@[simp] theorem rfA_u64 (n : Nat) : rfA (u64 n) = [] := rfl
@[simp] theorem rlC_u64 {σn : BId → BId} {σg : Nat → Nat} (n : Nat) : rlC σn σg (u64 n) = (u64 n) := rfl
@[simp] theorem rl1_u64 {σn : BId → BId} {σg : Nat → Nat} (n : Nat) : rl1 σn σg (u64 n) = (u64 n) := rfl
@[simp] theorem rlA_u64 {σn : BId → BId} {σg : Nat → Nat} (n : Nat) : rlA σn σg (u64 n) = (u64 n) := rfl
@[simp] theorem refOkC_u64 {h : Heap} (n : Nat) : refOkC h (u64 n) = true := rfl
@[simp] theorem refOk1_u64 {h : Heap} (n : Nat) : refOk1 h (u64 n) = true := rfl
@[simp] theorem refOk_u64 {h : Heap} (n : Nat) : refOk h (u64 n) = true := rfl
@[simp] theorem cellsOf_u64 (n : Nat) : cellsOf (u64 n) = some [u64 n] := rfl
@[simp] theorem wkA_dead  : wkA .dead = .dead := rfl
@[simp] theorem frz1_dead {h : Heap}  : frz1 h .dead = some .dead := rfl
@[simp] theorem frzC_dead {h : Heap}  : frzC h .dead = some .dead := rfl
@[simp] theorem frz_dead {h : Heap}  : frz h .dead = some .dead := rfl
@[simp] theorem scalarC_dead  : scalarC .dead = false := rfl
@[simp] theorem scalar1_dead  : scalar1 .dead = false := rfl
@[simp] theorem scalar_dead  : scalar .dead = false := rfl
@[simp] theorem pureC_dead  : pureC .dead = true := rfl
@[simp] theorem noRef_dead  : noRef .dead = true := rfl
@[simp] theorem refs_dead  : refs .dead = [] := rfl
@[simp] theorem rfC_dead  : rfC .dead = [] := rfl
@[simp] theorem rf1_dead  : rf1 .dead = [] := rfl
@[simp] theorem rfA_dead  : rfA .dead = [] := rfl
@[simp] theorem rlC_dead {σn : BId → BId} {σg : Nat → Nat}  : rlC σn σg .dead = .dead := rfl
@[simp] theorem rl1_dead {σn : BId → BId} {σg : Nat → Nat}  : rl1 σn σg .dead = .dead := rfl
@[simp] theorem rlA_dead {σn : BId → BId} {σg : Nat → Nat}  : rlA σn σg .dead = .dead := rfl
@[simp] theorem refOkC_dead {h : Heap}  : refOkC h .dead = true := rfl
@[simp] theorem refOk1_dead {h : Heap}  : refOk1 h .dead = true := rfl
@[simp] theorem refOk_dead {h : Heap}  : refOk h .dead = true := rfl
@[simp] theorem wkA_sl (els : List (List AV)) (f : Fl) : wkA (.sl els f) = .sl (wkL els) .an := rfl
@[simp] theorem wkA_agg (cs : List AV) : wkA (.agg cs) = .agg (wkR cs) := rfl
@[simp] theorem wkA_tup (cs : List AV) : wkA (.tup cs) = .tup (wkR cs) := rfl
@[simp] theorem wkA_bs (id : BId) (g z off n : Nat) : wkA (.bs id g z off n) = .bs id g z off n := rfl
@[simp] theorem wkA_ptr (id : BId) (g z i o : Nat) : wkA (.ptr id g z i o) = .ptr id g z i o := rfl
@[simp] theorem wkR_nil  : wkR [] = [] := rfl
@[simp] theorem wkR_cons (c : AV) (r : List AV) : wkR (c :: r) = wkA c :: wkR r := rfl
@[simp] theorem wkL_nil  : wkL [] = [] := rfl
@[simp] theorem wkL_cons (c : List AV) (r : List (List AV)) : wkL (c :: r) = wkR c :: wkL r := rfl
@[simp] theorem frzC_bs {h : Heap} (id : BId) (g z off n : Nat) : frzC h (.bs id g z off n) = (boxAt h id g z).bind fun bx => if bx.kind ≠ .str ∧ off + n ≤ bx.els.length then some (.sl ((bx.els.drop off).take n) .an) else none := rfl
@[simp] theorem frzC_ptr {h : Heap} (id : BId) (g z i o : Nat) : frzC h (.ptr id g z i o) = none := rfl
@[simp] theorem frz1_bs {h : Heap} (id : BId) (g z off n : Nat) : frz1 h (.bs id g z off n) = (boxAt h id g z).bind fun bx => if bx.kind ≠ .str ∧ off + n ≤ bx.els.length then some (.sl ((bx.els.drop off).take n) .an) else none := rfl
@[simp] theorem frz1_ptr {h : Heap} (id : BId) (g z i o : Nat) : frz1 h (.ptr id g z i o) = none := rfl
@[simp] theorem frz_bs {h : Heap} (id : BId) (g z off n : Nat) : frz h (.bs id g z off n) = (boxAt h id g z).bind fun bx => if bx.kind ≠ .str ∧ off + n ≤ bx.els.length then some (.sl ((bx.els.drop off).take n) .an) else none := rfl
@[simp] theorem frz_ptr {h : Heap} (id : BId) (g z i o : Nat) : frz h (.ptr id g z i o) = none := rfl
@[simp] theorem frz1_agg {h : Heap} (cs : List AV) : frz1 h (.agg cs) = (cs.mapM (frzC h)).map .agg := rfl
@[simp] theorem frz_agg {h : Heap} (cs : List AV) : frz h (.agg cs) = (cs.mapM (frzC h)).map .agg := rfl
@[simp] theorem frz_tup {h : Heap} (cs : List AV) : frz h (.tup cs) = (cs.mapM (frz1 h)).map .tup := rfl
@[simp] theorem scalarC_bs (id : BId) (g z off n : Nat) : scalarC (.bs id g z off n) = false := rfl
@[simp] theorem scalarC_ptr (id : BId) (g z i o : Nat) : scalarC (.ptr id g z i o) = false := rfl
@[simp] theorem scalar1_bs (id : BId) (g z off n : Nat) : scalar1 (.bs id g z off n) = false := rfl
@[simp] theorem scalar1_ptr (id : BId) (g z i o : Nat) : scalar1 (.ptr id g z i o) = false := rfl
@[simp] theorem scalar_bs (id : BId) (g z off n : Nat) : scalar (.bs id g z off n) = false := rfl
@[simp] theorem scalar_ptr (id : BId) (g z i o : Nat) : scalar (.ptr id g z i o) = false := rfl
@[simp] theorem scalar1_agg (cs : List AV) : scalar1 (.agg cs) = cs.all scalarC := rfl
@[simp] theorem scalar_agg (cs : List AV) : scalar (.agg cs) = cs.all scalarC := rfl
@[simp] theorem scalar_tup (cs : List AV) : scalar (.tup cs) = cs.all scalar1 := rfl
@[simp] theorem pureC_bs (id : BId) (g z off n : Nat) : pureC (.bs id g z off n) = false := rfl
@[simp] theorem pureC_ptr (id : BId) (g z i o : Nat) : pureC (.ptr id g z i o) = false := rfl
@[simp] theorem pureC_agg (cs : List AV) : pureC (.agg cs) = false := rfl
@[simp] theorem pureC_tup (cs : List AV) : pureC (.tup cs) = false := rfl
@[simp] theorem noRef_bs (id : BId) (g z off n : Nat) : noRef (.bs id g z off n) = false := rfl
@[simp] theorem noRef_ptr (id : BId) (g z i o : Nat) : noRef (.ptr id g z i o) = false := rfl
@[simp] theorem noRef_agg (cs : List AV) : noRef (.agg cs) = cs.all pureC := rfl
@[simp] theorem noRef_tup (cs : List AV) : noRef (.tup cs) = false := rfl
@[simp] theorem refs_bs (id : BId) (g z off n : Nat) : refs (.bs id g z off n) = [id] := rfl
@[simp] theorem refs_ptr (id : BId) (g z i o : Nat) : refs (.ptr id g z i o) = [] := rfl
@[simp] theorem rfC_bs (id : BId) (g z off n : Nat) : rfC (.bs id g z off n) = [id] := rfl
@[simp] theorem rfC_ptr (id : BId) (g z i o : Nat) : rfC (.ptr id g z i o) = [id] := rfl
@[simp] theorem rf1_bs (id : BId) (g z off n : Nat) : rf1 (.bs id g z off n) = [id] := rfl
@[simp] theorem rf1_ptr (id : BId) (g z i o : Nat) : rf1 (.ptr id g z i o) = [id] := rfl
@[simp] theorem rfA_bs (id : BId) (g z off n : Nat) : rfA (.bs id g z off n) = [id] := rfl
@[simp] theorem rfA_ptr (id : BId) (g z i o : Nat) : rfA (.ptr id g z i o) = [id] := rfl
def rfsC : AV → List BId
 | .bs id .. => [id]
 | _ => []
@[simp] theorem rf1_agg (cs : List AV) : rf1 (.agg cs) = cs.flatMap rfC := rfl
@[simp] theorem rfA_agg (cs : List AV) : rfA (.agg cs) = cs.flatMap rfC := rfl
@[simp] theorem rfA_tup (cs : List AV) : rfA (.tup cs) = cs.flatMap rf1 := rfl
@[simp] theorem rlC_bs {σn : BId → BId} {σg : Nat → Nat} (id : BId) (g z off n : Nat) : rlC σn σg (.bs id g z off n) = .bs (σn id) (σg g) z off n := rfl
@[simp] theorem rlC_ptr {σn : BId → BId} {σg : Nat → Nat} (id : BId) (g z i o : Nat) : rlC σn σg (.ptr id g z i o) = .ptr (σn id) (σg g) z i o := rfl
@[simp] theorem rl1_bs {σn : BId → BId} {σg : Nat → Nat} (id : BId) (g z off n : Nat) : rl1 σn σg (.bs id g z off n) = .bs (σn id) (σg g) z off n := rfl
@[simp] theorem rl1_ptr {σn : BId → BId} {σg : Nat → Nat} (id : BId) (g z i o : Nat) : rl1 σn σg (.ptr id g z i o) = .ptr (σn id) (σg g) z i o := rfl
@[simp] theorem rlA_bs {σn : BId → BId} {σg : Nat → Nat} (id : BId) (g z off n : Nat) : rlA σn σg (.bs id g z off n) = .bs (σn id) (σg g) z off n := rfl
@[simp] theorem rlA_ptr {σn : BId → BId} {σg : Nat → Nat} (id : BId) (g z i o : Nat) : rlA σn σg (.ptr id g z i o) = .ptr (σn id) (σg g) z i o := rfl
@[simp] theorem rl1_agg {σn : BId → BId} {σg : Nat → Nat} (cs : List AV) : rl1 σn σg (.agg cs) = .agg (cs.map (rlC σn σg)) := rfl
@[simp] theorem rlA_agg {σn : BId → BId} {σg : Nat → Nat} (cs : List AV) : rlA σn σg (.agg cs) = .agg (cs.map (rlC σn σg)) := rfl
@[simp] theorem rlA_tup {σn : BId → BId} {σg : Nat → Nat} (cs : List AV) : rlA σn σg (.tup cs) = .tup (cs.map (rl1 σn σg)) := rfl
@[simp] theorem refOkC_bs {h : Heap} (id : BId) (g z off n : Nat) : refOkC h (.bs id g z off n) = (boxAt h id g z).isSome := rfl
@[simp] theorem refOkC_ptr {h : Heap} (id : BId) (g z i o : Nat) : refOkC h (.ptr id g z i o) = (boxAt h id g z).isSome := rfl
@[simp] theorem refOk1_bs {h : Heap} (id : BId) (g z off n : Nat) : refOk1 h (.bs id g z off n) = (boxAt h id g z).isSome := rfl
@[simp] theorem refOk1_ptr {h : Heap} (id : BId) (g z i o : Nat) : refOk1 h (.ptr id g z i o) = (boxAt h id g z).isSome := rfl
@[simp] theorem refOk_bs {h : Heap} (id : BId) (g z off n : Nat) : refOk h (.bs id g z off n) = (boxAt h id g z).isSome := rfl
@[simp] theorem refOk_ptr {h : Heap} (id : BId) (g z i o : Nat) : refOk h (.ptr id g z i o) = (boxAt h id g z).isSome := rfl
@[simp] theorem refOk1_agg {h : Heap} (cs : List AV) : refOk1 h (.agg cs) = cs.all (refOkC h) := rfl
@[simp] theorem refOk_agg {h : Heap} (cs : List AV) : refOk h (.agg cs) = cs.all (refOkC h) := rfl
@[simp] theorem refOk_tup {h : Heap} (cs : List AV) : refOk h (.tup cs) = cs.all (refOk1 h) := rfl
@[simp] theorem cellsOf_bs (id : BId) (g z off n : Nat) : cellsOf (.bs id g z off n) = some [.bs id g z off n] := rfl
@[simp] theorem cellsOf_ptr (id : BId) (g z i o : Nat) : cellsOf (.ptr id g z i o) = some [.ptr id g z i o] := rfl
@[simp] theorem cellsOf_agg (cs : List AV) : cellsOf (.agg cs) = some cs := rfl
@[simp] theorem rfsC_i (k : IntKind) (n : Int) : rfsC (.i k n) = [] := rfl
@[simp] theorem rfsC_b (t : Bool) : rfsC (.b t) = [] := rfl
@[simp] theorem rfsC_s (l : List UInt8) : rfsC (.s l) = [] := rfl
@[simp] theorem rfsC_raw (v : Value) : rfsC (.raw v) = [] := rfl
@[simp] theorem rfsC_sl (els : List (List AV)) (f : Fl) : rfsC (.sl els f) = [] := rfl
@[simp] theorem rfsC_ep (cs : List AV) (o : Nat) : rfsC (.ep cs o) = [] := rfl
@[simp] theorem rfsC_u8 (n : Nat) : rfsC (u8 n) = [] := rfl
@[simp] theorem rfsC_u32 (n : Nat) : rfsC (u32 n) = [] := rfl
@[simp] theorem rfsC_u64 (n : Nat) : rfsC (u64 n) = [] := rfl
@[simp] theorem rfsC_dead  : rfsC .dead = [] := rfl
@[simp] theorem rfsC_bs (id : BId) (g z off n : Nat) : rfsC (.bs id g z off n) = [id] := rfl
@[simp] theorem rfsC_ptr (id : BId) (g z i o : Nat) : rfsC (.ptr id g z i o) = [] := rfl
@[simp] theorem refs_agg (cs : List AV) : refs (.agg cs) = cs.flatMap rfsC := rfl
@[simp] theorem refs_tup_nil : refs (.tup []) = [] := rfl
@[simp] theorem boxAt_eq (h : Heap) (id : BId) (g z : Nat) : boxAt h id g z = (match h.lookup id with | some bx => if bx.gen = g ∧ bx.z = z then some bx else none | none => none) := rfl
@[simp] theorem wkIf_true (x : AV) : wkIf true x = x := rfl
@[simp] theorem wkIf_false (x : AV) : wkIf false x = wkA x := rfl
theorem wrap_u32 (n : Nat) : IntKind.wrap .u32 (n : Int) = ((n % 4294967296 : Nat) : Int) := by
 simp [IntKind.wrap, IntKind.signed, IntKind.bits]
theorem wrap_u64 (n : Nat) : IntKind.wrap .u64 (n : Int) = ((n % 18446744073709551616 : Nat) : Int) := by
 simp [IntKind.wrap, IntKind.signed, IntKind.bits]
theorem wrap_u8 (n : Nat) : IntKind.wrap .u8 (n : Int) = ((n % 256 : Nat) : Int) := by
 simp [IntKind.wrap, IntKind.signed, IntKind.bits]
def bX (o : Option (Ex × St)) (f : St → Option (Ex × St)) : Option (Ex × St) := o.bind fun r => match r.1 with | .n => f r.2 | _ => some r
def blkX (id : Nat) (o : Option (Ex × St)) : Option (Ex × St) := o.bind fun r => match r.1 with | .x j => if j = id then some (.n, r.2) else some r | _ => some r
def stX (o : Option St) : Option (Ex × St) := o.map fun s => (.n, s)
def bS (o : Option St) (f : St → Option St) : Option St := o.bind f
def cnX (v : AV) (x y : Option (Ex × St)) : Option (Ex × St) := match v with | .b t => if t then x else y | _ => none
def pS (o : Option AV) (d : Option Nat) (st : St) : Option St := o.map fun x => ⟨putE st.env d x, st.heap, st.clk⟩
def pW (o : Option (AV × Heap × Nat)) (d : Option Nat) (st : St) : Option St := o.map fun q => ⟨putE st.env d q.1, q.2.1, q.2.2⟩
def pB (o : Option (AV × Heap)) (d : Option Nat) (st : St) : Option St := o.map fun q => ⟨putE st.env d q.1, q.2, st.clk⟩
def retF (res : List RV) (ex : Bool) (o : Option (Ex × St)) : Option AV :=
 o.bind fun r => match r.1 with | .x _ => none | _ => (resAV r.2 res).bind fun x => (frz r.2.heap x).map (wkIf ex)
def retH (res : List RV) (ex : Bool) (k : Nat) (o : Option (Ex × St)) : Option (AV × Heap) :=
 o.bind fun r => match r.1 with | .x _ => none | _ => (resAV r.2 res).map fun x => let s := normS ex k [0] ⟨[(0, x)], r.2.heap, r.2.clk⟩; (s.env.get 0, s.heap)
section
variable {o o' : Option (Ex × St)} {f : St → Option (Ex × St)} {s : St}
@[congr] theorem bX_congr (h : o = o') : bX o f = bX o' f := by rw [h]
@[congr] theorem bS_congr {o o' : Option St} {f : St → Option St} (h : o = o') : bS o f = bS o' f := by rw [h]
@[congr] theorem cnX_congr {v v' : AV} {x y : Option (Ex × St)} (h : v = v') : cnX v x y = cnX v' x y := by rw [h]
@[simp] theorem bX_n : bX (some (.n, s)) f = f s := rfl
@[simp] theorem bX_x (id : Nat) : bX (some (.x id, s)) f = some (.x id, s) := rfl
@[simp] theorem bX_r : bX (some (.r, s)) f = some (.r, s) := rfl
@[simp] theorem bX_none : bX none f = none := rfl
@[simp] theorem bX_ite {c : Prop} [Decidable c] {a b : Option (Ex × St)} : bX (if c then a else b) f = if c then bX a f else bX b f := by split <;> rfl
@[simp] theorem blkX_ite (id : Nat) {c : Prop} [Decidable c] {a b : Option (Ex × St)} : blkX id (if c then a else b) = if c then blkX id a else blkX id b := by split <;> rfl
@[simp] theorem retF_ite {res : List RV} {ex : Bool} {c : Prop} [Decidable c] {a b : Option (Ex × St)} : retF res ex (if c then a else b) = if c then retF res ex a else retF res ex b := by split <;> rfl
@[simp] theorem retH_ite {res : List RV} {ex : Bool} {k : Nat} {c : Prop} [Decidable c] {a b : Option (Ex × St)} : retH res ex k (if c then a else b) = if c then retH res ex k a else retH res ex k b := by split <;> rfl
@[simp] theorem blkX_n (id : Nat) : blkX id (some (.n, s)) = some (.n, s) := rfl
@[simp] theorem blkX_x (id j : Nat) : blkX id (some (.x j, s)) = if j = id then some (.n, s) else some (.x j, s) := rfl
@[simp] theorem blkX_r (id : Nat) : blkX id (some (.r, s)) = some (.r, s) := rfl
@[simp] theorem blkX_none (id : Nat) : blkX id none = none := rfl
@[simp] theorem stX_some : stX (some s) = some (.n, s) := rfl
@[simp] theorem stX_none : stX none = none := rfl
@[simp] theorem bS_some {f : St → Option St} : bS (some s) f = f s := rfl
@[simp] theorem bS_none {f : St → Option St} : bS none f = none := rfl
@[simp] theorem cnX_b {t : Bool} {x y : Option (Ex × St)} : cnX (.b t) x y = if t then x else y := rfl
@[simp] theorem pS_some {x : AV} {d : Option Nat} : pS (some x) d s = some ⟨putE s.env d x, s.heap, s.clk⟩ := rfl
@[simp] theorem pS_none {d : Option Nat} : pS none d s = none := rfl
@[simp] theorem pW_some {x : AV} {h : Heap} {c : Nat} {d : Option Nat} : pW (some (x, h, c)) d s = some ⟨putE s.env d x, h, c⟩ := rfl
@[simp] theorem pW_none {d : Option Nat} : pW none d s = none := rfl
@[simp] theorem pB_some {x : AV} {h : Heap} {d : Option Nat} : pB (some (x, h)) d s = some ⟨putE s.env d x, h, s.clk⟩ := rfl
@[simp] theorem pB_none {d : Option Nat} : pB none d s = none := rfl
@[simp] theorem retF_r {res : List RV} {ex : Bool} : retF res ex (some (.r, s)) = (resAV s res).bind fun x => (frz s.heap x).map (wkIf ex) := rfl
@[simp] theorem retF_n {res : List RV} {ex : Bool} : retF res ex (some (.n, s)) = (resAV s res).bind fun x => (frz s.heap x).map (wkIf ex) := rfl
@[simp] theorem retH_r {res : List RV} {ex : Bool} {k : Nat} : retH res ex k (some (.r, s)) = (resAV s res).map fun x => ((normS ex k [0] ⟨[(0, x)], s.heap, s.clk⟩).env.get 0, (normS ex k [0] ⟨[(0, x)], s.heap, s.clk⟩).heap) := rfl
@[simp] theorem retH_n {res : List RV} {ex : Bool} {k : Nat} : retH res ex k (some (.n, s)) = (resAV s res).map fun x => ((normS ex k [0] ⟨[(0, x)], s.heap, s.clk⟩).env.get 0, (normS ex k [0] ⟨[(0, x)], s.heap, s.clk⟩).heap) := rfl
end
section
variable {T : Tbl} {k : Nat} {st : St} {d : Option Nat}
noncomputable abbrev X (T : Tbl) (k : Nat) (c : AX) (st : St) : Option (Ex × St) := evX (orc T) T k c st
noncomputable abbrev R (T : Tbl) (l : List AO) (st : St) : Option St := runX (orc T) T l st
@[congr] theorem evX_congr {O : Orc} {c : AX} {st st' : St} (h : st = st') : evX O T k c st = evX O T k c st' := by rw [h]
@[simp] theorem X_skip : evX (orc T) T k .skip st = some (.n, st) := rfl
@[simp] theorem X_reg {l : List AO} : evX (orc T) T k (.reg l) st = stX (runX (orc T) T l st) := rfl
@[simp] theorem X_draw {l : List DO} : evX (orc T) T k (.draw l) st = stX (drawX (orc T) T l st.env st.heap st.clk [] []) := rfl
@[simp] theorem X_seq {a b : AX} : evX (orc T) T k (.seq a b) st = bX (evX (orc T) T k a st) fun s => evX (orc T) T k b s := rfl
@[simp] theorem X_cond {c : Opd} {x y : AX} : evX (orc T) T k (.cond c x y) st = cnX (ev st.env.get c) (evX (orc T) T k x st) (evX (orc T) T k y st) := rfl
@[simp] theorem X_block {id : Nat} {c : AX} : evX (orc T) T k (.block id c) st = blkX id (evX (orc T) T k c st) := rfl
@[simp] theorem X_loop {c : AX} : evX (orc T) T k (.loop c) st = loopX T k c st := rfl
@[simp] theorem X_scope {c : AX} : evX (orc T) T k (.scope c) st = evX (orc T) T k c st := rfl
@[simp] theorem X_exit {id : Nat} : evX (orc T) T k (.exit id) st = some (.x id, st) := rfl
@[simp] theorem X_ret : evX (orc T) T k .ret st = some (.r, st) := rfl
@[simp] theorem X_note {c : AX} {g : Gh} : evX (orc T) T k (.note c g) st = bX (evX (orc T) T k c st) fun s => stX (ghS k g s) := rfl
def prX (o : Option St) (f : St → Option (Ex × St)) : Option (Ex × St) := o.bind f
@[simp] theorem prX_some {s : St} {f : St → Option (Ex × St)} : prX (some s) f = f s := rfl
@[simp] theorem X_pre {c : AX} {g : Gh} : evX (orc T) T k (.pre g c) st = prX (ghS k g st) fun s => evX (orc T) T k c s := rfl
noncomputable def finX (k id : Nat) (g2 : Gh) (o : Option (Ex × St)) : Option (Ex × St) := bX (blkX id o) fun s => stX (ghS k g2 s)
noncomputable def loopN (T : Tbl) (k id : Nat) (g2 : Gh) (c : AX) (st : St) : Option (Ex × St) := finX k id g2 (loopX T k c st)
@[congr] theorem loopN_congr {id : Nat} {g2 : Gh} {c : AX} {st st' : St} (h : st = st') : loopN T k id g2 c st = loopN T k id g2 c st' := by rw [h]
@[simp] theorem finX_x {id j : Nat} {g2 : Gh} {s : St} : finX k id g2 (some (.x j, s)) = if j = id then stX (ghS k g2 s) else some (.x j, s) := by
 unfold finX
 rw [blkX_x]
 split <;> simp
@[simp] theorem finX_r {id : Nat} {g2 : Gh} {s : St} : finX k id g2 (some (.r, s)) = some (.r, s) := rfl
@[simp] theorem X_lp {id : Nat} {g g2 : Gh} {c : AX} : evX (orc T) T k (.lp id g c g2) st = prX (ghS k g st) fun s => loopN T k id g2 c s := by
 simp only [evX, prX, loopN, finX, bX, blkX, stX, loopX]
 cases ghS k g st with
 | none => rfl
 | some s =>
  simp only [Option.bind_some]
  cases (orc T).loop k c s with
  | none => rfl
  | some r =>
   obtain ⟨e, s'⟩ := r
   cases e with
   | n => rfl
   | r => rfl
   | x j =>
    simp only [Option.bind_some]
    split <;> rfl
def isEx : Option (Ex × St) → Bool
 | some (.x _, _) => true
 | some (.r, _) => true
 | _ => false
@[simp] theorem isEx_x {j : Nat} {s : St} : isEx (some (.x j, s)) = true := rfl
@[simp] theorem isEx_r {s : St} : isEx (some (.r, s)) = true := rfl
@[simp] theorem isEx_ite {c : Prop} [Decidable c] {a b : Option (Ex × St)} : isEx (if c then a else b) = if c then isEx a else isEx b := by split <;> rfl
theorem loopX_eq {c : AX} : loopX T k c st = bX (evX (orc T) T k c st) fun s => loopX T k c s := orc_loop T k c st
theorem loopN_eq {α : Type} {id : Nat} {g2 : Gh} {c : AX} (F : α → St) (I : α → Prop) (μ : α → Nat) (G : α → Option (Ex × St))
  (step : ∀ x, I x → (∃ y, I y ∧ μ y < μ x ∧ evX (orc T) T k c (F x) = some (.n, F y) ∧ G y = G x) ∨ (isEx (evX (orc T) T k c (F x)) = true ∧ finX k id g2 (evX (orc T) T k c (F x)) = G x)) :
  ∀ x, I x → loopN T k id g2 c (F x) = G x := by
 have key : ∀ n x, μ x = n → I x → loopN T k id g2 c (F x) = G x := by
  intro n
  induction n using Nat.strongRecOn with
  | _ n ih =>
   intro x hn hI
   unfold loopN
   rw [loopX_eq]
   rcases step x hI with ⟨y, h1, h2, h3, h4⟩ | ⟨h2, h3⟩
   ·rw [h3, bX_n, ← h4]
    exact ih (μ y) (hn ▸ h2) y rfl h1
   ·rw [← h3]
    generalize evX (orc T) T k c (F x) = o at h2 ⊢
    cases o with
    | none => cases h2
    | some q =>
     obtain ⟨e, s⟩ := q
     cases e
     ·cases h2
     ·rfl
     ·rfl
 exact fun x hI => key _ x rfl hI
@[simp] theorem R_nil : runX (orc T) T [] st = some st := rfl
@[simp] theorem R_cons {d : Option Nat} {op : AOp} {l : List AO} : runX (orc T) T (⟨d, none, op⟩ :: l) st = bS (opX (orc T) T op d st) fun s => runX (orc T) T l s := rfl
noncomputable def gS (T : Tbl) (x : AV) (want : Bool) (op : AOp) (d : Option Nat) (st : St) : Option St := gX (orc T) T x want op d st
@[congr] theorem gS_congr {x x' : AV} {want : Bool} {op : AOp} (h : x = x') : gS T x want op d st = gS T x' want op d st := by rw [h]
@[simp] theorem R_guard {d : Option Nat} {op : AOp} {l : List AO} {t : Nat} {w : Bool} : runX (orc T) T (⟨d, some (t, w), op⟩ :: l) st = bS (gS T (st.env.get t) w op d st) fun s => runX (orc T) T l s := rfl
@[simp] theorem gS_b {v want : Bool} {op : AOp} : gS T (.b v) want op d st = if v = want then opX (orc T) T op d st else some ⟨putE st.env d (.tup []), st.heap, st.clk⟩ := rfl
@[simp] theorem gS_tup {vs : List AV} {want : Bool} {op : AOp} : gS T (.tup vs) want op d st = some ⟨putE st.env d (.tup []), st.heap, st.clk⟩ := rfl
@[simp] theorem O_mov {x} : opX (orc T) T (.mov x) d st = some ⟨putE st.env d (ev st.env.get x), st.heap, st.clk⟩ := rfl
@[simp] theorem O_pick {c a b} : opX (orc T) T (.pick c a b) d st = pS (pickAV (ev st.env.get c) (ev st.env.get a) (ev st.env.get b)) d st := rfl
@[simp] theorem O_build {zs ps} : opX (orc T) T (.build zs ps) d st = pS ((fillL zs (ps.map fun p => (p.1, p.2.1, ev st.env.get p.2.2))).map .agg) d st := rfl
@[simp] theorem O_load {n x} : opX (orc T) T (.load n x) d st = pS (loadAV n st.heap (ev st.env.get x)) d st := rfl
@[simp] theorem O_bin {o x y} : opX (orc T) T (.bin o x y) d st = pS (binV o (ev st.env.get x) (ev st.env.get y)) d st := rfl
@[simp] theorem O_eqs {g ls x y} : opX (orc T) T (.eqs g ls x y) d st = pS (eqsAV g ls (ev st.env.get x) (ev st.env.get y)) d st := rfl
@[simp] theorem O_eqnil {g x} : opX (orc T) T (.eqnil g x) d st = pS (eqnilAV g (ev st.env.get x)) d st := rfl
@[simp] theorem O_eqb {g x y} : opX (orc T) T (.eqb g x y) d st = pS (eqbAV g (ev st.env.get x) (ev st.env.get y)) d st := rfl
@[simp] theorem O_un {o x} : opX (orc T) T (.un o x) d st = pS (unAV o (ev st.env.get x)) d st := rfl
@[simp] theorem O_conv {n x} : opX (orc T) T (.conv n x) d st = pS (convAV n (ev st.env.get x)) d st := rfl
@[simp] theorem O_slc {z x lo hi mx} : opX (orc T) T (.slc z x lo hi mx) d st = pS (slcAV z st.heap (ev st.env.get x) (evO st.env.get lo) (evO st.env.get hi) (evO st.env.get mx)) d st := rfl
@[simp] theorem O_slstr {x lo hi} : opX (orc T) T (.slstr x lo hi) d st = pS (slstrAV (ev st.env.get x) (evO st.env.get lo) (evO st.env.get hi)) d st := rfl
@[simp] theorem O_fad {o x} : opX (orc T) T (.fad o x) d st = pS (fadAV o st.heap (ev st.env.get x)) d st := rfl
@[simp] theorem O_fld {o n x} : opX (orc T) T (.fld o n x) d st = pS (fldAV o n (ev st.env.get x)) d st := rfl
@[simp] theorem O_iad {z x i} : opX (orc T) T (.iad z x i) d st = pS (iadAV z st.heap (ev st.env.get x) (ev st.env.get i)) d st := rfl
@[simp] theorem O_iaa {z n x i} : opX (orc T) T (.iaa z n x i) d st = pS (iaaAV z n st.heap (ev st.env.get x) (ev st.env.get i)) d st := rfl
@[simp] theorem O_ixs {x i} : opX (orc T) T (.ixs x i) d st = pS (ixsAV (ev st.env.get x) (ev st.env.get i)) d st := rfl
@[simp] theorem O_ixa {z l n x i} : opX (orc T) T (.ixa z l n x i) d st = pS (ixaAV z l n (ev st.env.get x) (ev st.env.get i)) d st := rfl
@[simp] theorem O_len {x} : opX (orc T) T (.len x) d st = pS (lenAV st.heap (ev st.env.get x)) d st := rfl
@[simp] theorem O_lens {x} : opX (orc T) T (.lens x) d st = pS (lensAV (ev st.env.get x)) d st := rfl
@[simp] theorem O_lenc {n} : opX (orc T) T (.lenc n) d st = some ⟨putE st.env d (.i .i64 n), st.heap, st.clk⟩ := rfl
@[simp] theorem O_mm {m xs} : opX (orc T) T (.mm m xs) d st = pS (mmAV m (xs.map (ev st.env.get))) d st := rfl
@[simp] theorem O_ext {x n} : opX (orc T) T (.ext x n) d st = pS (extAV n (ev st.env.get x)) d st := rfl
@[simp] theorem O_nilc {x} : opX (orc T) T (.nilc x) d st = pS (nilcAV st.heap (ev st.env.get x)) d st := rfl
@[simp] theorem O_alloc {zs} : opX (orc T) T (.alloc zs) d st = pW (allocAV zs d st.heap st.clk) d st := rfl
@[simp] theorem O_store {n x v} : opX (orc T) T (.store n x v) d st = pW ((storeAV n st.heap (ev st.env.get x) (ev st.env.get v)).map fun h' => (.tup [], h', st.clk)) d st := rfl
@[simp] theorem O_mks {z zs l c} : opX (orc T) T (.mks z zs l c) d st = pW (mksAV z zs d st.heap st.clk (ev st.env.get l) (ev st.env.get c)) d st := rfl
@[simp] theorem O_app {z x y} : opX (orc T) T (.app z x y) d st = pW (appAV z d st.heap st.clk (ev st.env.get x) (ev st.env.get y)) d st := rfl
@[simp] theorem O_xop {x xs} : opX (orc T) T (.xop x xs) d st = pW (stepXV x (xs.map (ev st.env.get)) d st.heap st.clk) d st := rfl
@[simp] theorem O_bsl {z zs n ps} : opX (orc T) T (.bsl z zs n ps) d st = pB (bslAV z zs n st.heap (ps.map fun p => (p.1, ev st.env.get p.2))) d st := rfl
@[simp] theorem O_call {u args} : opX (orc T) T (.call u args) d st = callX (orc T) T u (args.map (ev st.env.get)) d st := rfl
def cR (r : Option AV) (xs : List AV) (d : Option Nat) (st : St) : Option St :=
 r.map fun r => ⟨putE st.env d r, if scalar r then st.heap else shareIds (xs.flatMap refs) st.heap, st.clk⟩
@[congr] theorem cR_congr {r r' : Option AV} {xs : List AV} (h : r = r') : cR r xs d st = cR r' xs d st := by rw [h]
@[simp] theorem cR_some {r : AV} {xs : List AV} : cR (some r) xs d st = some ⟨putE st.env d r, if scalar r then st.heap else shareIds (xs.flatMap refs) st.heap, st.clk⟩ := rfl
def bL (o : Option (List AV)) (f : List AV → Option St) : Option St := o.bind f
@[simp] theorem bL_some {xs : List AV} {f : List AV → Option St} : bL (some xs) f = f xs := rfl
def frzL (h : Heap) : List AV → Option (List AV)
 | [] => some []
 | x :: l => (frz1 h x).bind fun y => (frzL h l).map fun ys => y :: ys
theorem frzL_eq (h : Heap) : ∀ l : List AV, l.mapM (frz1 h) = frzL h l
 | [] => rfl
 | x :: l => by simp only [List.mapM_cons, frzL, frzL_eq h l, Option.bind_eq_bind, Option.pure_def, Option.map_eq_bind, Function.comp_def]
attribute [simp] frzL frzM refsM rootsM
theorem callX_pure {u : Nat} {xs : List AV} {np nt : Nat} {res : List RV} {b : AX} {ex : Bool} (hT : T u = some ⟨np, nt, res, b, none, ex⟩) :
  callX (orc T) T u xs d st = bL (frzL st.heap xs) fun ys => cR (callF T u (ys.map (wkIf ex))) xs d st := by
 unfold callX bL cR callF
 rw [hT]
 simp only [frzL_eq]
 congr 1
 funext ys
 cases (orc T).call u (ys.map (wkIf ex)) [] <;> rfl
theorem callF_eq {u : Nat} {xs : List AV} {np nt : Nat} {res : List RV} {b : AX} {ex : Bool} (hT : T u = some ⟨np, nt, res, b, none, ex⟩) (hn : xs.length = np) (hp : b.isPrim = none := by rfl) :
  callF T u xs = retF res ex (evX (orc T) T 0 b ⟨argEnv xs, [], 1⟩) := by
 unfold callF retF
 rw [orc_call]
 simp only [nextO, hT, hp]
 rw [if_pos ⟨hn, by simp⟩]
 simp only [List.length_nil, Nat.zero_add]
 cases evX (orc T) T 0 b ⟨argEnv xs, [], 1⟩ with
 | none => rfl
 | some r =>
  obtain ⟨e, s⟩ := r
  cases e <;> simp only [Option.bind_some, endX, Option.map_none] <;> (cases resAV s res <;> simp only [Option.bind_none, Option.map_none, Option.bind_some] <;> cases frz s.heap _ <;> rfl)
theorem callF_prim {u : Nat} {xs : List AV} {np nt : Nat} {res : List RV} {f : List AV → Option AV} {ex : Bool} (hT : T u = some ⟨np, nt, res, .prim f, none, ex⟩) : callF T u xs = f xs := by
 unfold callF
 rw [orc_call]
 simp only [nextO, hT, AX.isPrim]
 cases f xs <;> simp
def outX (l : List BId) (hp h1 : Heap) (r : Option (AV × Heap)) (d : Option Nat) (st : St) : Option St :=
 r.bind fun r =>
  let hb' := r.2.map fun p => (outN l (d.getD 0) p.1, rlBox true (outN l (d.getD 0)) (outG hp st.clk) p.2)
  let r' := rlA (outN l (d.getD 0)) (outG hp st.clk) r.1
  if (hb'.map (·.1)).Nodup && refOk hb' r' && heapOk hb' then
   some ⟨putE st.env d r', hb' ++ (h1.filter fun p => !(l.contains p.1 || (hb'.map (·.1)).contains p.1)), st.clk + r.2.length + 2⟩
  else none
noncomputable def lentX (ys : List AV) (h1 : Heap) (l : List BId) (T : Tbl) (u : Nat) (ex : Bool) (d : Option Nat) (st : St) : Option St :=
 if (pickH h1 l).map (·.1) = l ∧ l.Nodup then
  outX l (pickH h1 l) h1 (callH T u (ys.map fun y => rlA (inN l) (inG (pickH h1 l)) (wkIf ex y)) ((pickH h1 l).map fun p => (inN l p.1, rlBox ex (inN l) (inG (pickH h1 l)) p.2))) d st
 else none
@[simp] theorem outX_some {l : List BId} {hp h1 : Heap} {r : AV} {h2 : Heap} : outX l hp h1 (some (r, h2)) d st =
  (if ((h2.map fun p => (outN l (d.getD 0) p.1, rlBox true (outN l (d.getD 0)) (outG hp st.clk) p.2)).map (·.1)).Nodup && refOk (h2.map fun p => (outN l (d.getD 0) p.1, rlBox true (outN l (d.getD 0)) (outG hp st.clk) p.2)) (rlA (outN l (d.getD 0)) (outG hp st.clk) r) && heapOk (h2.map fun p => (outN l (d.getD 0) p.1, rlBox true (outN l (d.getD 0)) (outG hp st.clk) p.2)) then
   some ⟨putE st.env d (rlA (outN l (d.getD 0)) (outG hp st.clk) r), (h2.map fun p => (outN l (d.getD 0) p.1, rlBox true (outN l (d.getD 0)) (outG hp st.clk) p.2)) ++ (h1.filter fun p => !(l.contains p.1 || ((h2.map fun p => (outN l (d.getD 0) p.1, rlBox true (outN l (d.getD 0)) (outG hp st.clk) p.2)).map (·.1)).contains p.1)), st.clk + h2.length + 2⟩
  else none) := rfl
attribute [simp] lentX outN outG inN inG nameIx heapOk
def bD (o : Option (AV × Bool)) (f : AV × Bool → Option St) : Option St := o.bind f
@[congr] theorem bD_congr {o o' : Option (AV × Bool)} {f : AV × Bool → Option St} (h : o = o') : bD o f = bD o' f := by rw [h]
@[simp] theorem bD_some {e : AV × Bool} {f : AV × Bool → Option St} : bD (some e) f = f e := rfl
def bWr (o : Option (AV × Heap × Nat)) (f : AV × Heap × Nat → Option St) : Option St := o.bind f
@[simp] theorem bWr_some {q : AV × Heap × Nat} {f : AV × Heap × Nat → Option St} : bWr (some q) f = f q := rfl
def iP (b : Bool) (x : Option St) : Option St := if b then x else none
@[simp] theorem iP_true {x : Option St} : iP true x = x := rfl
@[simp] theorem pendOk_nil {h : Heap} : pendOk [] h = true := by
 classical
 unfold pendOk
 exact decide_eq_true fun p hp => by cases hp
@[simp] theorem pendOk_zero {q : AOp × Env × AV} {l : PendX} {h : Heap} : pendOk ((0, q) :: l) h = pendOk l h := by
 classical
 unfold pendOk
 refine decide_eq_decide.2 ⟨fun h1 p hp => h1 p (List.mem_cons_of_mem _ hp), fun h1 p hp h0 => ?_⟩
 rcases List.mem_cons.1 hp with rfl | hp
 ·cases h0
 ·exact h1 p hp h0
@[simp] theorem pendOk_cons {n : Nat} {op : AOp} {e : Env} {x : AV} {l : PendX} {h : Heap} (hs : stepQ op e.get h = some x) : pendOk ((n, op, e, x) :: l) h = pendOk l h := by
 classical
 unfold pendOk
 refine decide_eq_decide.2 ⟨fun h1 p hp => h1 p (List.mem_cons_of_mem _ hp), fun h1 p hp h0 => ?_⟩
 rcases List.mem_cons.1 hp with rfl | hp
 ·exact hs
 ·exact h1 p hp h0
theorem keepD_free {op : AOp} {e : Env} {older : List Heap} {x : AV} (hf : op.free = true) : keepD op e older x = true := by unfold keepD; rw [hf]; rfl
theorem keepD_nil {op : AOp} {e : Env} {x : AV} : keepD op e [] x = true := by
 classical
 unfold keepD
 rw [Bool.or_eq_true]
 exact .inr (decide_eq_true fun h' hh => by cases hh)
noncomputable def dX (T : Tbl) (wr : Bool) (o : DO) (r : List DO) (e : Env) (h : Heap) (clk : Nat) (older : List Heap) (pend : PendX) : Option St :=
 match wr with
 | true => if o.ao.guard.isNone then bWr (stepW o.ao.op o.ao.dst e.get h clk) fun q => iP (pendOk pend q.2.1) (drawX (orc T) T r (putE e o.ao.dst q.1) q.2.1 q.2.2 (h :: older) (pend.map fun p => (p.1 - 1, p.2))) else none
 | false => bD (qX (orc T) T o.ao e h (older.take (older.length - o.lo))) fun x => drawX (orc T) T r (putE e o.ao.dst x.1) h clk older (pendAdd o older.length e x pend)
@[simp] theorem drawX_nil {e : Env} {h : Heap} {clk : Nat} {older : List Heap} {pend : PendX} : drawX (orc T) T [] e h clk older pend = some ⟨e, h, clk⟩ := rfl
@[simp] theorem drawX_cons {o : DO} {r : List DO} {e : Env} {h : Heap} {clk : Nat} {older : List Heap} {pend : PendX} : drawX (orc T) T (o :: r) e h clk older pend = dX T o.ao.op.writes o r e h clk older pend := by
 unfold dX
 rw [drawX]
 cases o.ao.op.writes <;> rfl
@[simp] theorem dX_true {o : DO} {r : List DO} {e : Env} {h : Heap} {clk : Nat} {older : List Heap} {pend : PendX} : dX T true o r e h clk older pend = if o.ao.guard.isNone then bWr (stepW o.ao.op o.ao.dst e.get h clk) fun q => iP (pendOk pend q.2.1) (drawX (orc T) T r (putE e o.ao.dst q.1) q.2.1 q.2.2 (h :: older) (pend.map fun p => (p.1 - 1, p.2))) else none := rfl
@[simp] theorem dX_false {o : DO} {r : List DO} {e : Env} {h : Heap} {clk : Nat} {older : List Heap} {pend : PendX} : dX T false o r e h clk older pend = bD (qX (orc T) T o.ao e h (older.take (older.length - o.lo))) fun x => drawX (orc T) T r (putE e o.ao.dst x.1) h clk older (pendAdd o older.length e x pend) := rfl
def dV (o : Option AV) : Option (AV × Bool) := o.map fun x => (x, true)
@[simp] theorem dV_some {x : AV} : dV (some x) = some (x, true) := rfl
@[simp] theorem dV_none : dV none = none := rfl
@[simp] theorem qX_none {op : AOp} {e : Env} {h : Heap} {older : List Heap} : qX (orc T) T ⟨d, none, op⟩ e h older = dV (opD (orc T) T op e h older) := rfl
noncomputable def gD (T : Tbl) (x : AV) (want : Bool) (op : AOp) (e : Env) (h : Heap) (older : List Heap) : Option (AV × Bool) :=
 match x with
 | .b v => if v = want then dV (opD (orc T) T op e h older) else some (.tup [], false)
 | .tup [] => some (.tup [], false)
 | _ => none
@[congr] theorem gD_congr {x x' : AV} {want : Bool} {op : AOp} {e : Env} {h : Heap} {older : List Heap} (h1 : x = x') : gD T x want op e h older = gD T x' want op e h older := by rw [h1]
@[simp] theorem qX_some {t : Nat} {want : Bool} {op : AOp} {e : Env} {h : Heap} {older : List Heap} : qX (orc T) T ⟨d, some (t, want), op⟩ e h older = gD T (e.get t) want op e h older := rfl
@[simp] theorem gD_b {v want : Bool} {op : AOp} {e : Env} {h : Heap} {older : List Heap} : gD T (.b v) want op e h older = if v = want then dV (opD (orc T) T op e h older) else some (.tup [], false) := rfl
@[simp] theorem gD_tup {want : Bool} {op : AOp} {e : Env} {h : Heap} {older : List Heap} : gD T (.tup []) want op e h older = some (.tup [], false) := rfl
noncomputable def dC (o : Option AV) (op : AOp) (older : List Heap) (e : Env) : Option AV := o.bind fun x => if keepD op e older x then some x else none
@[simp] theorem dC_nil {x : AV} {op : AOp} {e : Env} : dC (some x) op [] e = some x := by
 unfold dC
 rw [Option.bind_some, keepD_nil]
 rfl
theorem free_eq {op : AOp} {h : Heap} {older : List Heap} {e : Env} (hf : op.free = true) : ((stepQ op e.get h).bind fun x => if keepD op e older x then some x else none) = stepQ op e.get h := by
 cases stepQ op e.get h with
 | none => rfl
 | some x => rw [Option.bind_some, keepD_free hf]; rfl
@[simp] theorem D_mov {x} {e : Env} {h : Heap} {older : List Heap} : opD (orc T) T (.mov x) e h older = some (ev e.get x) := free_eq (op := .mov x) (h := h) (older := older) (e := e) rfl
@[simp] theorem D_pick {c a b} {e : Env} {h : Heap} {older : List Heap} : opD (orc T) T (.pick c a b) e h older = pickAV (ev e.get c) (ev e.get a) (ev e.get b) := free_eq (op := .pick c a b) (h := h) (older := older) (e := e) rfl
@[simp] theorem D_build {zs ps} {e : Env} {h : Heap} {older : List Heap} : opD (orc T) T (.build zs ps) e h older = (fillL zs (ps.map fun p => (p.1, p.2.1, ev e.get p.2.2))).map .agg := free_eq (op := .build zs ps) (h := h) (older := older) (e := e) rfl
@[simp] theorem D_bin {o x y} {e : Env} {h : Heap} {older : List Heap} : opD (orc T) T (.bin o x y) e h older = binV o (ev e.get x) (ev e.get y) := free_eq (op := .bin o x y) (h := h) (older := older) (e := e) rfl
@[simp] theorem D_eqs {g ls x y} {e : Env} {h : Heap} {older : List Heap} : opD (orc T) T (.eqs g ls x y) e h older = eqsAV g ls (ev e.get x) (ev e.get y) := free_eq (op := .eqs g ls x y) (h := h) (older := older) (e := e) rfl
@[simp] theorem D_eqnil {g x} {e : Env} {h : Heap} {older : List Heap} : opD (orc T) T (.eqnil g x) e h older = eqnilAV g (ev e.get x) := free_eq (op := .eqnil g x) (h := h) (older := older) (e := e) rfl
@[simp] theorem D_eqb {g x y} {e : Env} {h : Heap} {older : List Heap} : opD (orc T) T (.eqb g x y) e h older = eqbAV g (ev e.get x) (ev e.get y) := free_eq (op := .eqb g x y) (h := h) (older := older) (e := e) rfl
@[simp] theorem D_un {o x} {e : Env} {h : Heap} {older : List Heap} : opD (orc T) T (.un o x) e h older = unAV o (ev e.get x) := free_eq (op := .un o x) (h := h) (older := older) (e := e) rfl
@[simp] theorem D_conv {k x} {e : Env} {h : Heap} {older : List Heap} : opD (orc T) T (.conv k x) e h older = convAV k (ev e.get x) := free_eq (op := .conv k x) (h := h) (older := older) (e := e) rfl
@[simp] theorem D_slstr {x lo hi} {e : Env} {h : Heap} {older : List Heap} : opD (orc T) T (.slstr x lo hi) e h older = slstrAV (ev e.get x) (evO e.get lo) (evO e.get hi) := free_eq (op := .slstr x lo hi) (h := h) (older := older) (e := e) rfl
@[simp] theorem D_fld {o n x} {e : Env} {h : Heap} {older : List Heap} : opD (orc T) T (.fld o n x) e h older = fldAV o n (ev e.get x) := free_eq (op := .fld o n x) (h := h) (older := older) (e := e) rfl
@[simp] theorem D_ixs {x i} {e : Env} {h : Heap} {older : List Heap} : opD (orc T) T (.ixs x i) e h older = ixsAV (ev e.get x) (ev e.get i) := free_eq (op := .ixs x i) (h := h) (older := older) (e := e) rfl
@[simp] theorem D_ixa {z l n x i} {e : Env} {h : Heap} {older : List Heap} : opD (orc T) T (.ixa z l n x i) e h older = ixaAV z l n (ev e.get x) (ev e.get i) := free_eq (op := .ixa z l n x i) (h := h) (older := older) (e := e) rfl
@[simp] theorem D_lens {x} {e : Env} {h : Heap} {older : List Heap} : opD (orc T) T (.lens x) e h older = lensAV (ev e.get x) := free_eq (op := .lens x) (h := h) (older := older) (e := e) rfl
@[simp] theorem D_lenc {n} {e : Env} {h : Heap} {older : List Heap} : opD (orc T) T (.lenc n) e h older = some (.i .i64 n) := free_eq (op := .lenc n) (h := h) (older := older) (e := e) rfl
@[simp] theorem D_mm {m xs} {e : Env} {h : Heap} {older : List Heap} : opD (orc T) T (.mm m xs) e h older = mmAV m (xs.map (ev e.get)) := free_eq (op := .mm m xs) (h := h) (older := older) (e := e) rfl
@[simp] theorem D_ext {x n} {e : Env} {h : Heap} {older : List Heap} : opD (orc T) T (.ext x n) e h older = extAV n (ev e.get x) := free_eq (op := .ext x n) (h := h) (older := older) (e := e) rfl
@[simp] theorem D_load {n x} {e : Env} {h : Heap} {older : List Heap} : opD (orc T) T (.load n x) e h older = dC (loadAV n h (ev e.get x)) (.load n x) older e := rfl
@[simp] theorem D_slc {z x lo hi mx} {e : Env} {h : Heap} {older : List Heap} : opD (orc T) T (.slc z x lo hi mx) e h older = dC (slcAV z h (ev e.get x) (evO e.get lo) (evO e.get hi) (evO e.get mx)) (.slc z x lo hi mx) older e := rfl
@[simp] theorem D_fad {o x} {e : Env} {h : Heap} {older : List Heap} : opD (orc T) T (.fad o x) e h older = dC (fadAV o h (ev e.get x)) (.fad o x) older e := rfl
@[simp] theorem D_iad {z x i} {e : Env} {h : Heap} {older : List Heap} : opD (orc T) T (.iad z x i) e h older = dC (iadAV z h (ev e.get x) (ev e.get i)) (.iad z x i) older e := rfl
@[simp] theorem D_iaa {z n x i} {e : Env} {h : Heap} {older : List Heap} : opD (orc T) T (.iaa z n x i) e h older = dC (iaaAV z n h (ev e.get x) (ev e.get i)) (.iaa z n x i) older e := rfl
@[simp] theorem D_len {x} {e : Env} {h : Heap} {older : List Heap} : opD (orc T) T (.len x) e h older = dC (lenAV h (ev e.get x)) (.len x) older e := rfl
@[simp] theorem D_nilc {x} {e : Env} {h : Heap} {older : List Heap} : opD (orc T) T (.nilc x) e h older = dC (nilcAV h (ev e.get x)) (.nilc x) older e := rfl
def dR (r : Option AV) (xs : List AV) : Option AV := if xs.all noRef then r else none
@[congr] theorem dR_congr {r r' : Option AV} {xs : List AV} (h1 : r = r') : dR r xs = dR r' xs := by rw [h1]
@[simp] theorem dR_some {r : AV} {xs : List AV} : dR (some r) xs = if xs.all noRef then some r else none := rfl
theorem opD_call {u : Nat} {args : List Opd} {np nt : Nat} {res : List RV} {b : AX} {ex : Bool} {e : Env} {h : Heap} {older : List Heap} (hT : T u = some ⟨np, nt, res, b, none, ex⟩) :
  opD (orc T) T (.call u args) e h older = dR (callF T u ((args.map (ev e.get)).map (wkIf ex))) (args.map (ev e.get)) := by
 unfold dR callF
 simp only [opD, hT, Option.isNone_none, Bool.true_and]
@[simp] theorem D_bsl {z zs n ps} {e : Env} {h : Heap} {older : List Heap} : opD (orc T) T (.bsl z zs n ps) e h older = if (ps.map fun p => (p.1, ev e.get p.2)).all (fun p => noRef p.2) then (bslAV z zs n [] (ps.map fun p => (p.1, ev e.get p.2))).map (·.1) else none := rfl
@[congr] theorem headX_congr {tl l : List AO} {e e' : Env} {h h' : Heap} {clk clk' : Nat} (h1 : e = e') (h2 : h = h') (h3 : clk = clk') : headX (orc T) T tl l e h clk = headX (orc T) T tl l e' h' clk' := by rw [h1, h2, h3]
@[simp] theorem headX_nil {tl : List AO} {e : Env} {h : Heap} {clk : Nat} : headX (orc T) T tl [] e h clk = runX (orc T) T tl ⟨e, h, clk⟩ := rfl
@[simp] theorem headX_cons {tl r : List AO} {o : AO} {e : Env} {h : Heap} {clk : Nat} : headX (orc T) T tl (o :: r) e h clk = bD (qX (orc T) T o e h []) fun x => headX (orc T) T tl r (putE e o.dst x.1) h clk := rfl
@[simp] theorem X_drawT {hd tl : List AO} : evX (orc T) T k (.drawT hd tl) st = stX (headX (orc T) T tl hd st.env st.heap st.clk) := rfl
attribute [simp] pendAdd stepXV boxXV cpyXV bstrXV arslXV appsXV ghS normS reach bors pickH sigG genIx kids rlBox
attribute [simp] AOp.writes AOp.free slcAV bndO liveP storeAV allocAV mksAV
end
end Go.Ab
end

section
namespace Go.Ab
open Go.RowKit
def sub32 (a b : Nat) : Nat := (((a : Int) - b) % 4294967296).toNat
def sub64 (a b : Nat) : Nat := (((a : Int) - b) % 18446744073709551616).toNat
def sub8 (a b : Nat) : Nat := (((a : Int) - b) % 256).toNat
theorem wrap_u32' (n : Int) : IntKind.wrap .u32 n = (((n % 4294967296).toNat : Nat) : Int) := by
 simp [IntKind.wrap, IntKind.signed, IntKind.bits]; omega
theorem wrap_u64' (n : Int) : IntKind.wrap .u64 n = (((n % 18446744073709551616).toNat : Nat) : Int) := by
 simp [IntKind.wrap, IntKind.signed, IntKind.bits]; omega
theorem wrap_u8' (n : Int) : IntKind.wrap .u8 n = (((n % 256).toNat : Nat) : Int) := by
 simp [IntKind.wrap, IntKind.signed, IntKind.bits]; omega
@[simp] theorem wrap_i64s (n : Int) (h1 : -9223372036854775808 ≤ n) (h2 : n < 9223372036854775808) : IntKind.wrap .i64 n = n := wrap_i64 n ⟨h1, h2⟩
@[simp] theorem toNat_add2 (a b : Nat) : ((a : Int) + (b : Int)).toNat = a + b := by omega
@[simp] theorem toNat_add1 (a : Nat) : ((a : Int) + 1).toNat = a + 1 := by omega
@[simp] theorem nonneg_add2 (a b : Nat) : (0 : Int) ≤ (a : Int) + (b : Int) := by omega
@[simp] theorem nonneg_add1 (a : Nat) : (0 : Int) ≤ (a : Int) + 1 := by omega
@[simp] theorem toNat_add3 (a b c : Nat) : ((a : Int) + (b : Int) + (c : Int)).toNat = a + b + c := by omega
@[simp] theorem nonneg_add3 (a b c : Nat) : (0 : Int) ≤ (a : Int) + (b : Int) + (c : Int) := by omega
@[simp] theorem toNat_add21 (a b : Nat) : ((a : Int) + (b : Int) + 1).toNat = a + b + 1 := by omega
@[simp] theorem nonneg_add21 (a b : Nat) : (0 : Int) ≤ (a : Int) + (b : Int) + 1 := by omega
section
variable (a b : Nat) (k : IntKind) (n : Int)
@[simp] theorem add32 : binV .add (u32 a) (u32 b) = some (u32 ((a + b) % 4294967296)) := by
 simp only [u32, binV_add, ← Int.natCast_add, wrap_u32]
@[simp] theorem add64 : binV .add (u64 a) (u64 b) = some (u64 ((a + b) % 18446744073709551616)) := by
 simp only [u64, binV_add, ← Int.natCast_add, wrap_u64]
@[simp] theorem add8 : binV .add (u8 a) (u8 b) = some (u8 ((a + b) % 256)) := by
 simp only [u8, binV_add, ← Int.natCast_add, wrap_u8]
@[simp] theorem mul32 : binV .mul (u32 a) (u32 b) = some (u32 ((a * b) % 4294967296)) := by
 simp only [u32, binV_mul, ← Int.natCast_mul, wrap_u32]
@[simp] theorem mul64 : binV .mul (u64 a) (u64 b) = some (u64 ((a * b) % 18446744073709551616)) := by
 simp only [u64, binV_mul, ← Int.natCast_mul, wrap_u64]
@[simp] theorem subw32 : binV .sub (u32 a) (u32 b) = some (u32 (sub32 a b)) := by
 simp only [u32, binV_sub, wrap_u32', sub32]
@[simp] theorem subw64 : binV .sub (u64 a) (u64 b) = some (u64 (sub64 a b)) := by
 simp only [u64, binV_sub, wrap_u64', sub64]
@[simp] theorem subw8 : binV .sub (u8 a) (u8 b) = some (u8 (sub8 a b)) := by
 simp only [u8, binV_sub, wrap_u8', sub8]
theorem tdiv_nat : ((a : Int).tdiv (b : Int)) = ((a / b : Nat) : Int) := by rw [Int.ofNat_tdiv]
theorem tmod_nat : ((a : Int).tmod (b : Int)) = ((a % b : Nat) : Int) := by rw [Int.ofNat_tmod]
@[simp] theorem quo32 : binV .quo (u32 a) (u32 b) = if b = 0 then none else some (u32 (a / b % 4294967296)) := by
 simp only [u32, binV_quo, tdiv_nat, wrap_u32, Int.natCast_eq_zero]
@[simp] theorem quo64 : binV .quo (u64 a) (u64 b) = if b = 0 then none else some (u64 (a / b % 18446744073709551616)) := by
 simp only [u64, binV_quo, tdiv_nat, wrap_u64, Int.natCast_eq_zero]
@[simp] theorem rem32 : binV .rem (u32 a) (u32 b) = if b = 0 then none else some (u32 (a % b)) := by
 simp only [u32, binV_rem, tmod_nat, Int.natCast_eq_zero]
@[simp] theorem rem64 : binV .rem (u64 a) (u64 b) = if b = 0 then none else some (u64 (a % b)) := by
 simp only [u64, binV_rem, tmod_nat, Int.natCast_eq_zero]
theorem bvn (w : Nat) : (BitVec.ofInt w (a : Int)).toNat = a % 2 ^ w := by simp
@[simp] theorem and32 : binV .and (u32 a) (u32 b) = some (u32 ((a &&& b) % 4294967296)) := by
 have h := Nat.and_mod_two_pow (a := a) (b := b) (n := 32)
 have e : ((BitVec.ofInt 32 (a : Int) &&& BitVec.ofInt 32 (b : Int)).toNat) = (a &&& b) % 2 ^ 32 := by rw [BitVec.toNat_and, bvn, bvn, ← h]
 show some (AV.i .u32 (IntKind.wrap .u32 (((BitVec.ofInt 32 (a : Int) &&& BitVec.ofInt 32 (b : Int)).toNat : Nat) : Int))) = _
 rw [e, wrap_u32]
 simp [u32]
@[simp] theorem and64 : binV .and (u64 a) (u64 b) = some (u64 ((a &&& b) % 18446744073709551616)) := by
 have h := Nat.and_mod_two_pow (a := a) (b := b) (n := 64)
 have e : ((BitVec.ofInt 64 (a : Int) &&& BitVec.ofInt 64 (b : Int)).toNat) = (a &&& b) % 2 ^ 64 := by rw [BitVec.toNat_and, bvn, bvn, ← h]
 show some (AV.i .u64 (IntKind.wrap .u64 (((BitVec.ofInt 64 (a : Int) &&& BitVec.ofInt 64 (b : Int)).toNat : Nat) : Int))) = _
 rw [e, wrap_u64]
 simp [u64]
@[simp] theorem or32 : binV .or (u32 a) (u32 b) = some (u32 ((a ||| b) % 4294967296)) := by
 have h := Nat.or_mod_two_pow (a := a) (b := b) (n := 32)
 have e : ((BitVec.ofInt 32 (a : Int) ||| BitVec.ofInt 32 (b : Int)).toNat) = (a ||| b) % 2 ^ 32 := by rw [BitVec.toNat_or, bvn, bvn, ← h]
 show some (AV.i .u32 (IntKind.wrap .u32 (((BitVec.ofInt 32 (a : Int) ||| BitVec.ofInt 32 (b : Int)).toNat : Nat) : Int))) = _
 rw [e, wrap_u32]
 simp [u32]
@[simp] theorem or64 : binV .or (u64 a) (u64 b) = some (u64 ((a ||| b) % 18446744073709551616)) := by
 have h := Nat.or_mod_two_pow (a := a) (b := b) (n := 64)
 have e : ((BitVec.ofInt 64 (a : Int) ||| BitVec.ofInt 64 (b : Int)).toNat) = (a ||| b) % 2 ^ 64 := by rw [BitVec.toNat_or, bvn, bvn, ← h]
 show some (AV.i .u64 (IntKind.wrap .u64 (((BitVec.ofInt 64 (a : Int) ||| BitVec.ofInt 64 (b : Int)).toNat : Nat) : Int))) = _
 rw [e, wrap_u64]
 simp [u64]
theorem natMulPow (m : Nat) : ((a : Int) * 2 ^ m) = ((a * 2 ^ m : Nat) : Int) := by simp
theorem natFdivPow (m : Nat) : ((a : Int).fdiv (2 ^ m)) = ((a / 2 ^ m : Nat) : Int) := by
 rw [Int.fdiv_eq_ediv_of_nonneg _ (Int.pow_nonneg (by decide))]; simp
@[simp] theorem shl32 : binV .shl (u32 a) (.i k n) = if n < 0 then none else some (u32 (a * 2 ^ (min n.toNat 32) % 4294967296)) := by
 simp only [u32, binV, IntKind.bits, natMulPow, wrap_u32]
@[simp] theorem shl64 : binV .shl (u64 a) (.i k n) = if n < 0 then none else some (u64 (a * 2 ^ (min n.toNat 64) % 18446744073709551616)) := by
 simp only [u64, binV, IntKind.bits, natMulPow, wrap_u64]
@[simp] theorem shr32 : binV .shr (u32 a) (.i k n) = if n < 0 then none else some (u32 (a / 2 ^ (min n.toNat 32))) := by
 simp only [u32, binV, IntKind.bits, natFdivPow]
@[simp] theorem shr64 : binV .shr (u64 a) (.i k n) = if n < 0 then none else some (u64 (a / 2 ^ (min n.toNat 64))) := by
 simp only [u64, binV, IntKind.bits, natFdivPow]
@[simp] theorem notneg : ¬ ((b : Int) < 0) := by omega
@[simp] theorem shl32b : binV .shl (u32 a) (u64 b) = some (u32 (a * 2 ^ (min b 32) % 4294967296)) := by
 rw [u64, shl32, if_neg (notneg b), Int.toNat_natCast]
@[simp] theorem shl64b : binV .shl (u64 a) (u64 b) = some (u64 (a * 2 ^ (min b 64) % 18446744073709551616)) := by
 rw [show u64 b = .i .u64 (b : Int) from rfl, shl64, if_neg (notneg b), Int.toNat_natCast]
@[simp] theorem shr32b : binV .shr (u32 a) (u64 b) = some (u32 (a / 2 ^ (min b 32))) := by
 rw [u64, shr32, if_neg (notneg b), Int.toNat_natCast]
@[simp] theorem shr64b : binV .shr (u64 a) (u64 b) = some (u64 (a / 2 ^ (min b 64))) := by
 rw [show u64 b = .i .u64 (b : Int) from rfl, shr64, if_neg (notneg b), Int.toNat_natCast]
@[simp] theorem eql32 : binV .eql (u32 a) (u32 b) = some (.b (decide (a = b))) := by
 simp only [u32, binV_eql, Option.some.injEq, AV.b.injEq]; rw [Bool.eq_iff_iff]; simp [Int.natCast_inj]
@[simp] theorem neq32 : binV .neq (u32 a) (u32 b) = some (.b (!decide (a = b))) := by
 simp only [u32, binV_neq, Option.some.injEq, AV.b.injEq]; rw [Bool.eq_iff_iff]; simp [Int.natCast_inj]
@[simp] theorem lss32 : binV .lss (u32 a) (u32 b) = some (.b (decide (a < b))) := by simp [u32, binV_lss]
@[simp] theorem leq32 : binV .leq (u32 a) (u32 b) = some (.b (decide (a ≤ b))) := by simp [u32, binV_leq]
@[simp] theorem gtr32 : binV .gtr (u32 a) (u32 b) = some (.b (decide (b < a))) := by simp [u32, binV_gtr]
@[simp] theorem geq32 : binV .geq (u32 a) (u32 b) = some (.b (decide (b ≤ a))) := by simp [u32, binV_geq]
@[simp] theorem eql64 : binV .eql (u64 a) (u64 b) = some (.b (decide (a = b))) := by
 simp only [u64, binV_eql, Option.some.injEq, AV.b.injEq]; rw [Bool.eq_iff_iff]; simp [Int.natCast_inj]
@[simp] theorem neq64 : binV .neq (u64 a) (u64 b) = some (.b (!decide (a = b))) := by
 simp only [u64, binV_neq, Option.some.injEq, AV.b.injEq]; rw [Bool.eq_iff_iff]; simp [Int.natCast_inj]
@[simp] theorem lss64 : binV .lss (u64 a) (u64 b) = some (.b (decide (a < b))) := by simp [u64, binV_lss]
@[simp] theorem leq64 : binV .leq (u64 a) (u64 b) = some (.b (decide (a ≤ b))) := by simp [u64, binV_leq]
@[simp] theorem gtr64 : binV .gtr (u64 a) (u64 b) = some (.b (decide (b < a))) := by simp [u64, binV_gtr]
@[simp] theorem geq64 : binV .geq (u64 a) (u64 b) = some (.b (decide (b ≤ a))) := by simp [u64, binV_geq]
@[simp] theorem eql8 : binV .eql (u8 a) (u8 b) = some (.b (decide (a = b))) := by
 simp only [u8, binV_eql, Option.some.injEq, AV.b.injEq]; rw [Bool.eq_iff_iff]; simp [Int.natCast_inj]
@[simp] theorem neq8 : binV .neq (u8 a) (u8 b) = some (.b (!decide (a = b))) := by
 simp only [u8, binV_neq, Option.some.injEq, AV.b.injEq]; rw [Bool.eq_iff_iff]; simp [Int.natCast_inj]
@[simp] theorem lss8 : binV .lss (u8 a) (u8 b) = some (.b (decide (a < b))) := by simp [u8, binV_lss]
@[simp] theorem leq8 : binV .leq (u8 a) (u8 b) = some (.b (decide (a ≤ b))) := by simp [u8, binV_leq]
@[simp] theorem gtr8 : binV .gtr (u8 a) (u8 b) = some (.b (decide (b < a))) := by simp [u8, binV_gtr]
@[simp] theorem geq8 : binV .geq (u8 a) (u8 b) = some (.b (decide (b ≤ a))) := by simp [u8, binV_geq]
@[simp] theorem conv_32_64 : convAV .u64 (u32 a) = some (u64 (a % 18446744073709551616)) := by simp only [u32, u64, convAV, wrap_u64]
@[simp] theorem conv_64_32 : convAV .u32 (u64 a) = some (u32 (a % 4294967296)) := by simp only [u32, u64, convAV, wrap_u32]
@[simp] theorem conv_8_32 : convAV .u32 (u8 a) = some (u32 (a % 4294967296)) := by simp only [u32, u8, convAV, wrap_u32]
@[simp] theorem conv_32_8 : convAV .u8 (u32 a) = some (u8 (a % 256)) := by simp only [u32, u8, convAV, wrap_u8]
@[simp] theorem conv_64_64 : convAV .u64 (u64 a) = some (u64 (a % 18446744073709551616)) := by simp only [u64, convAV, wrap_u64]
@[simp] theorem conv_32_32 : convAV .u32 (u32 a) = some (u32 (a % 4294967296)) := by simp only [u32, convAV, wrap_u32]
@[simp] theorem conv_8_8 : convAV .u8 (u8 a) = some (u8 (a % 256)) := by simp only [u8, convAV, wrap_u8]
@[simp] theorem conv_i_32 : convAV .u32 (.i .i64 n) = some (u32 (n % 4294967296).toNat) := by simp only [u32, convAV, wrap_u32']
@[simp] theorem conv_i_64 : convAV .u64 (.i .i64 n) = some (u64 (n % 18446744073709551616).toNat) := by simp only [u64, convAV, wrap_u64']
@[simp] theorem conv_i_8 : convAV .u8 (.i .i64 n) = some (u8 (n % 256).toNat) := by simp only [u8, convAV, wrap_u8']
@[simp] theorem conv_i32_8 : convAV .u8 (.i .i32 n) = some (u8 (n % 256).toNat) := by simp only [u8, convAV, wrap_u8']
@[simp] theorem conv_32_i : convAV .i64 (u32 a) = some (.i .i64 (IntKind.wrap .i64 a)) := rfl
@[simp] theorem conv_64_i : convAV .i64 (u64 a) = some (.i .i64 (IntKind.wrap .i64 a)) := rfl
@[simp] theorem conv_8_i : convAV .i64 (u8 a) = some (.i .i64 (IntKind.wrap .i64 a)) := rfl
@[simp] theorem conv_i_i : convAV .i64 (.i .i64 n) = some (.i .i64 (IntKind.wrap .i64 n)) := rfl
@[simp] theorem neg64 : unAV .neg (u64 a) = some (u64 (sub64 0 a)) := by simp [u64, unAV, wrap_u64', sub64]
@[simp] theorem neg_i : unAV .neg (.i .i64 n) = some (.i .i64 (IntKind.wrap .i64 (0 - n))) := rfl
@[simp] theorem not_b (t : Bool) : unAV .not (.b t) = some (.b (!t)) := rfl
@[simp] theorem bnd_u8 (m : Nat) (y : Int) : bnd (u8 m) y = if 0 ≤ (m : Int) ∧ (m : Int) ≤ y then some m else none := rfl
@[simp] theorem bnd_u32 (m : Nat) (y : Int) : bnd (u32 m) y = if 0 ≤ (m : Int) ∧ (m : Int) ≤ y then some m else none := rfl
@[simp] theorem bnd_u64 (m : Nat) (y : Int) : bnd (u64 m) y = if 0 ≤ (m : Int) ∧ (m : Int) ≤ y then some m else none := rfl
attribute [simp] slstrAV iaaAV ixaAV
@[simp] theorem ixs_u8 (l : List UInt8) : ixsAV (.s l) (.i k n) = if 0 ≤ n ∧ n < l.length then (l[n.toNat]?).map fun b => u8 b.toNat else none := rfl
@[simp] theorem leafEq_i (k' : IntKind) (x y : Int) : leafEq .int (.i k x) (.i k' y) = if k = k' then some (x == y) else none := rfl
@[simp] theorem leafEq_32 : leafEq .int (u32 a) (u32 b) = some (decide (a = b)) := by
 simp only [u32, leafEq, if_true, Option.some.injEq]; rw [Bool.eq_iff_iff]; simp [Int.natCast_inj]
end
@[simp] theorem u8_inj (a b : Nat) : u8 a = u8 b ↔ a = b := by simp [u8, Int.natCast_inj]
@[simp] theorem u32_inj (a b : Nat) : u32 a = u32 b ↔ a = b := by simp [u32, Int.natCast_inj]
@[simp] theorem u64_inj (a b : Nat) : u64 a = u64 b ↔ a = b := by simp [u64, Int.natCast_inj]
theorem u32_lt (x : UInt32) : x.toNat < 4294967296 := x.toNat_lt
@[simp] theorem u32_lts (x : UInt32) : x.toNat < 4294967296 := x.toNat_lt
theorem u8_lt (x : UInt8) : x.toNat < 256 := x.toNat_lt
theorem u64_lt (x : UInt64) : x.toNat < 18446744073709551616 := x.toNat_lt
@[simp] theorem u32_mod64 (x : UInt32) : x.toNat % 18446744073709551616 = x.toNat := Nat.mod_eq_of_lt (by have := u32_lt x; omega)
@[simp] theorem u32_mod32 (x : UInt32) : x.toNat % 4294967296 = x.toNat := Nat.mod_eq_of_lt (u32_lt x)
@[simp] theorem u8_mod32 (x : UInt8) : x.toNat % 4294967296 = x.toNat := Nat.mod_eq_of_lt (by have := u8_lt x; omega)
@[simp] theorem u8_mod8 (x : UInt8) : x.toNat % 256 = x.toNat := Nat.mod_eq_of_lt (u8_lt x)
@[simp] theorem u64_mod64 (x : UInt64) : x.toNat % 18446744073709551616 = x.toNat := Nat.mod_eq_of_lt (u64_lt x)
def w32 (n : Nat) : UInt32 := UInt32.ofNat n
theorem w32_toNat (n : Nat) : (w32 n).toNat = n % 4294967296 := UInt32.toNat_ofNat' ..
theorem w32_of_lt {n : Nat} (h : n < 4294967296) : (w32 n).toNat = n := by rw [w32_toNat, Nat.mod_eq_of_lt h]
@[simp] theorem w32_toNat' (x : UInt32) : w32 x.toNat = x := UInt32.ofNat_toNat
def u32s (l : List UInt32) : List (List AV) := l.map fun x => [u32 x.toNat]
def ints (l : List Int) : List (List AV) := l.map fun x => [.i .i64 x]
def u8s (l : List UInt8) : List (List AV) := l.map fun x => [u8 x.toNat]
section
variable (l m : List UInt32) (x : UInt32)
@[simp] theorem u32s_nil : u32s [] = [] := rfl
@[simp] theorem u32s_length : (u32s l).length = l.length := by simp [u32s]
@[simp] theorem u32s_wk : wkL (u32s l) = u32s l := by
 rw [wkL_map]; simp [u32s, wkR]
@[simp] theorem u32s_take (n : Nat) : (u32s l).take n = u32s (l.take n) := by simp [u32s]
@[simp] theorem u32s_drop (n : Nat) : (u32s l).drop n = u32s (l.drop n) := by simp [u32s]
@[simp] theorem u32s_append : u32s l ++ u32s m = u32s (l ++ m) := by simp [u32s]
@[simp] theorem u32s_snoc (n : Nat) (h : n < 4294967296) : u32s l ++ [[u32 n]] = u32s (l ++ [w32 n]) := by simp [u32s, w32_of_lt h]
@[simp] theorem u32s_getElem? (i : Nat) : (u32s l)[i]? = (l[i]?).map fun x => [u32 x.toNat] := by simp [u32s]
@[simp] theorem u32s_getElem (i : Nat) (h : i < (u32s l).length) : (u32s l)[i] = [u32 (l[i]'(by simpa using h)).toNat] := by simp [u32s]
@[simp] theorem u32s_set' (i : Nat) : (u32s l).set i [u32 x.toNat] = u32s (l.set i x) := by simp [u32s, List.map_set]
@[simp] theorem u32s_setm (i n : Nat) : (u32s l).set i [u32 (n % 4294967296)] = u32s (l.set i (w32 n)) := by simp [u32s, List.map_set, w32_toNat]
@[simp] theorem u32s_rep (n : Nat) : List.replicate n [u32 0] = u32s (List.replicate n 0) := by simp [u32s]
@[simp] theorem u32s_head (z : Nat) : ((u32s l).head?.all fun r => decide (r.length = z)) = (l.isEmpty || decide (z = 1)) := by
 cases l <;> simp [u32s, eq_comm]
@[simp] theorem u32s_rowZ (z : Nat) : rowZ z (u32s l) = (l.isEmpty || decide (z = 1)) := by
 cases l <;> simp [u32s, rowZ, eq_comm]
@[simp] theorem u32s_isEmpty : (u32s l).isEmpty = l.isEmpty := by cases l <;> simp [u32s]
end
end Go.Ab
end

section
namespace Go.Ab
open Go.RowKit
abbrev mv (d s : Nat) : AO := ⟨some d, none, .mov (.t s)⟩
abbrev rg (d : Nat) (op : AOp) : AO := ⟨some d, none, op⟩
abbrev gd (d t : Nat) (b : Bool) (op : AOp) : AO := ⟨some d, some (t, b), op⟩
abbrev so (op : AOp) : AO := ⟨none, none, op⟩
section
variable (T : Tbl) (u : Nat) (ex : Bool) (ms : List Bool) (xs : List AV) (d : Option Nat) (st : St) (ps : List Opd) (e : Env)
@[simp] noncomputable def cP : Option St := bL (frzL st.heap xs) fun ys => cR (callF T u (ys.map (wkIf ex))) xs d st
@[simp] noncomputable def cL : Option St := bL (frzM st.heap ms xs) fun ys => lentX ys (shareIds (refsM ms xs) st.heap) (reach (shareIds (refsM ms xs) st.heap) 40 (rootsM ms xs) []) T u ex d st
@[simp] noncomputable def dP : Option AV := dR (callF T u ((ps.map (ev e.get)).map (wkIf ex))) (ps.map (ev e.get))
end
end Go.Ab
end

section
namespace Go.Ab
def val : List UInt32 → Nat
 | [] => 0
 | x :: l => x.toNat + 4294967296 * val l
def ofN (n : Nat) : List UInt32 := if n = 0 then [] else w32 n :: ofN (n / 4294967296)
termination_by n
decreasing_by omega
def Right (l : List UInt32) : Prop := ∀ x, l.getLast? = some x → x.toNat ≠ 0
@[simp] theorem val_nil : val [] = 0 := rfl
@[simp] theorem val_cons (x : UInt32) (l : List UInt32) : val (x :: l) = x.toNat + 4294967296 * val l := rfl
@[simp] theorem ofN_zero : ofN 0 = [] := by rw [ofN]; rfl
theorem ofN_pos {n : Nat} (h : n ≠ 0) : ofN n = w32 n :: ofN (n / 4294967296) := by rw [ofN, if_neg h]
theorem w32_mod (n : Nat) : (w32 n).toNat = n % 4294967296 := w32_toNat n
theorem val_ofN (n : Nat) : val (ofN n) = n := by
 induction n using Nat.strongRecOn with
 | _ n ih =>
  by_cases h : n = 0
  ·subst h; simp
  ·rw [ofN_pos h, val_cons, ih (n / 4294967296) (by omega), w32_mod]
   omega
def cmpN (x y : Nat) : Int := if x < y then -1 else if y < x then 1 else 0
def lls (l : List (List UInt32)) : List (List AV) := l.map fun a => [.sl (u32s a) .an]
@[simp] theorem lls_length (l : List (List UInt32)) : (lls l).length = l.length := by simp [lls]
@[simp] theorem lls_wk (l : List (List UInt32)) : wkL (lls l) = lls l := by rw [wkL_map]; simp [lls, wkR]
@[simp] theorem lls_getElem? (l : List (List UInt32)) (i : Nat) : (lls l)[i]? = (l[i]?).map fun a => [.sl (u32s a) .an] := by simp [lls]
@[simp] theorem lls_getElem (l : List (List UInt32)) (i : Nat) (h : i < (lls l).length) : (lls l)[i] = [.sl (u32s (l[i]'(by simpa using h))) .an] := by simp [lls]
end Go.Ab
end

section
namespace Go.Ab
end Go.Ab
end

section
namespace Go.Ab
end Go.Ab
end

section
namespace Go.Ab
def digs (n : Nat) : List UInt8 := if h : n < 10 then [UInt8.ofNat (48 + n)] else UInt8.ofNat (48 + n % 10) :: digs (n / 10)
termination_by n
decreasing_by omega
def textN (n : Nat) : List UInt8 := (digs n).reverse
def wordOf : List AV → Option UInt32
 | [.i .u32 n] => if 0 ≤ n ∧ n < 4294967296 then some (w32 n.toNat) else none
 | _ => none
def prim68 : List AV → Option AV
 | [.sl els .an] => if els.length ≤ 1000 then (els.mapM wordOf).map fun l => .s (textN (val l)) else none
 | _ => none
def wrAt : Nat → List UInt8 → Int
 | _, [] => -1
 | k, c :: r => if c.toNat < 48 ∨ 57 < c.toNat ∨ k = 60 then k else wrAt (k + 1) r
def wrongI (l : List UInt8) : Int := if l = [] then 0 else wrAt 0 l
def rd (l : List UInt8) : Nat := l.foldl (fun n c => n * 10 + (c.toNat - 48)) 0
def txN (n : Nat) (s : List UInt8) : List UInt8 := if n = 0 ∧ s ≠ [] then s else textN n ++ s
def digK : Nat → Nat → List UInt8
 | 0, _ => []
 | k + 1, x => digK k (x / 10) ++ [UInt8.ofNat (48 + x % 10)]
def u8c (l : List UInt8) : List AV := l.map fun b => u8 b.toNat
@[simp] theorem u8c_length (l : List UInt8) : (u8c l).length = l.length := by simp [u8c]
@[simp] theorem u8c_rf (l : List UInt8) : (u8c l).flatMap rfC = [] := by induction l with | nil => rfl | cons x l ih => simp [u8c]
@[simp] theorem u8c_rl {σn : BId → BId} {σg : Nat → Nat} (l : List UInt8) : (u8c l).map (rlC σn σg) = u8c l := by induction l with | nil => rfl | cons x l ih => simp [u8c]
@[simp] theorem u8c_rl' {σn : BId → BId} {σg : Nat → Nat} (l : List UInt8) : (u8c l).map (fun c => rlC σn σg c) = u8c l := u8c_rl l
@[simp] theorem u8c_rlw {σn : BId → BId} {σg : Nat → Nat} (l : List UInt8) : (u8c l).map (fun c => rlC σn σg (wkA c)) = u8c l := by induction l with | nil => rfl | cons x l ih => simp [u8c]
@[simp] theorem u8c_pure (l : List UInt8) : (u8c l).all pureC = true := by induction l with | nil => rfl | cons x l ih => simp [u8c]
@[simp] theorem u8c_get (l : List UInt8) (i : Nat) : (u8c l)[i]? = (l[i]?).map fun b => u8 b.toNat := by simp [u8c]
@[simp] theorem u8c_pure' (l : List UInt8) : (∀ x, x ∈ u8c l → pureC x = true) = True := by
 have := u8c_pure l
 rw [List.all_eq_true] at this
 simpa using this
end Go.Ab
end

section
namespace Go.Ab
def isD (c : UInt8) : Bool := decide (48 ≤ c.toNat) && decide (c.toNat ≤ 57)
def isL (c : UInt8) : Bool := decide (97 ≤ c.toNat) && decide (c.toNat ≤ 122) || decide (65 ≤ c.toNat) && decide (c.toNat ≤ 90) || decide (c.toNat = 95)
def signB : List UInt8 := [43, 45, 42, 47, 94, 40, 41, 91, 93, 44, 59, 61]
def isS (c : UInt8) : Bool := signB.contains c
def kindN (c : UInt8) : Nat := if isD c then 1 else if isL c then 2 else if isS c then 3 else 0
def moreN (k : Nat) (c : UInt8) : Bool := decide (k = 1) && isD c || decide (k = 2) && (isL c || isD c)
def mostN (k : Nat) : Nat := if k = 1 then 60 else if k = 2 then 12 else 1
theorem mostN_pos (k : Nat) : 1 ≤ mostN k := by
 unfold mostN
 split
 ·omega
 ·split <;> omega
def isB (c : UInt8) : Bool := decide (c = 32) || decide (c = 9) || decide (c = 10) || decide (c = 13)
abbrev Wd := Nat × List UInt8 × Nat
def skipC : Bool → List UInt8 → Nat
 | _, [] => 0
 | note, c :: r =>
  let note' := if c = 35 then true else if c = 10 then false else note
  if (note' || isB c) = true then 1 + skipC note' r else 0
theorem skipC_le : ∀ (note : Bool) (l : List UInt8), skipC note l ≤ l.length
 | _, [] => Nat.le_refl _
 | note, c :: r => by
  by_cases h : ((if c = 35 then true else if c = 10 then false else note) || isB c) = true
  ·have := skipC_le (if c = 35 then true else if c = 10 then false else note) r
   simp only [skipC, h, if_true, List.length_cons]
   omega
  ·simp only [skipC, h, if_false, Bool.false_eq_true, Nat.zero_le]
def firstN (k : Nat) (r : List UInt8) : Nat := 1 + (r.takeWhile (moreN k)).length
def scanL (l : List UInt8) (i : Nat) (acc : List Wd) : Except Nat (List Wd) :=
 match l with
 | [] => .ok acc
 | c :: r =>
  if kindN c = 0 then .error i
  else if mostN (kindN c) < firstN (kindN c) r then .error (i + mostN (kindN c))
  else scanL ((r.drop (firstN (kindN c) r - 1)).drop (skipC false (r.drop (firstN (kindN c) r - 1)))) (i + firstN (kindN c) r + skipC false (r.drop (firstN (kindN c) r - 1)))
   (acc ++ [(kindN c, (c :: r).take (firstN (kindN c) r), i)])
termination_by l.length
decreasing_by simp; omega
theorem scanL_cons (c : UInt8) (r : List UInt8) (i : Nat) (acc : List Wd) : scanL (c :: r) i acc =
  if kindN c = 0 then .error i
  else if mostN (kindN c) < firstN (kindN c) r then .error (i + mostN (kindN c))
  else scanL ((r.drop (firstN (kindN c) r - 1)).drop (skipC false (r.drop (firstN (kindN c) r - 1)))) (i + firstN (kindN c) r + skipC false (r.drop (firstN (kindN c) r - 1)))
   (acc ++ [(kindN c, (c :: r).take (firstN (kindN c) r), i)]) := by rw [scanL]
theorem scanL_nil (i : Nat) (acc : List Wd) : scanL [] i acc = .ok acc := by rw [scanL]
def stepWd (c : UInt8) (i : Nat) (acc : List Wd) : List Wd :=
 match acc.getLast? with
 | some (k, t, a) => if a + t.length = i ∧ moreN k c = true then acc.dropLast ++ [(k, t ++ [c], a)] else acc ++ [(kindN c, [c], i)]
 | none => acc ++ [(kindN c, [c], i)]
def badWd (acc : List Wd) : Bool :=
 match acc.getLast? with
 | some (k, t, _) => decide (k = 0) || decide (mostN k < t.length)
 | none => false
def refL : List UInt8 → Nat → Bool → List Wd → Except Nat (List Wd)
 | [], _, _, acc => .ok acc
 | c :: r, i, note, acc =>
  let note' := if c = 35 then true else if c = 10 then false else note
  if (note' || isB c) = true then refL r (i + 1) note' acc
  else if badWd (stepWd c i acc) = true then .error i
  else refL r (i + 1) note' (stepWd c i acc)
theorem refL_skip : ∀ (l : List UInt8) (i : Nat) (note : Bool) (acc : List Wd), refL l i note acc = refL (l.drop (skipC note l)) (i + skipC note l) false acc
 | [], _, _, _ => rfl
 | c :: r, i, note, acc => by
  by_cases h : ((if c = 35 then true else if c = 10 then false else note) || isB c) = true
  ·have ih := refL_skip r (i + 1) (if c = 35 then true else if c = 10 then false else note) acc
   simp only [refL, skipC, h, if_true]
   rw [ih, Nat.add_comm 1, List.drop_succ_cons, Nat.add_assoc i 1, Nat.add_comm 1]
  ·have h' := h
   simp only [Bool.or_eq_true, not_or, Bool.not_eq_true] at h'
   obtain ⟨h1, h2⟩ := h'
   have h3 : note = false := by
    by_cases h35 : c = 35
    ·simp [h35] at h1
    ·by_cases h10 : c = 10
     ·subst h10; simp [isB] at h2
     ·simpa [h35, h10] using h1
   subst h3
   simp only [skipC, h, if_false, List.drop_zero, Nat.add_zero, Bool.false_eq_true]
theorem isD_more {k : Nat} {c : UInt8} (h : moreN k c = true) : (isL c = true ∨ isD c = true) := by
 simp only [moreN, Bool.or_eq_true, Bool.and_eq_true] at h
 rcases h with ⟨_, h⟩ | ⟨_, h | h⟩
 ·exact .inr h
 ·exact .inl h
 ·exact .inr h
theorem u8_lit {c : UInt8} {n : Nat} (h : c.toNat ≠ n) (hn : n < 256) : c ≠ UInt8.ofNat n := fun e => h (by rw [e]; simp; omega)
theorem more_plain {c : UInt8} (h : isL c = true ∨ isD c = true) : c ≠ 35 ∧ c ≠ 10 ∧ isB c = false := by
 have h1 : 48 ≤ c.toNat := by
  simp only [isL, isD, Bool.or_eq_true, Bool.and_eq_true, decide_eq_true_eq] at h
  omega
 have e (n : Nat) (hn : n < 48) : c ≠ UInt8.ofNat n := u8_lit (by omega) (by omega)
 refine ⟨e 35 (by decide), e 10 (by decide), ?_⟩
 simp only [isB, Bool.or_eq_false_iff, decide_eq_false_iff_not]
 exact ⟨⟨⟨e 32 (by decide), e 9 (by decide)⟩, e 10 (by decide)⟩, e 13 (by decide)⟩
theorem refL_run (k a : Nat) (acc : List Wd) (hk : k ≠ 0) : ∀ (r t : List UInt8), t.length ≤ mostN k →
  refL r (a + t.length) false (acc ++ [(k, t, a)]) =
   if mostN k < t.length + (r.takeWhile (moreN k)).length then .error (a + mostN k)
   else refL (r.drop (r.takeWhile (moreN k)).length) (a + t.length + (r.takeWhile (moreN k)).length) false (acc ++ [(k, t ++ r.takeWhile (moreN k), a)])
 | [], t, ht => by
  rw [if_neg (by simp; omega)]
  simp
 | c :: r, t, ht => by
  by_cases hc : moreN k c = true
  ·obtain ⟨h1, h2, h3⟩ := more_plain (isD_more hc)
   rw [List.takeWhile_cons_of_pos hc]
   have hs : stepWd c (a + t.length) (acc ++ [(k, t, a)]) = acc ++ [(k, t ++ [c], a)] := by
    simp [stepWd, hc]
   have hb : badWd (acc ++ [(k, t ++ [c], a)]) = decide (mostN k < t.length + 1) := by
    simp [badWd, hk]
   conv => lhs; unfold refL
   simp only [h1, h2, h3, if_false, Bool.or_self, Bool.false_eq_true, hs, hb, decide_eq_true_eq]
   by_cases hm : mostN k < t.length + 1
   ·have e : mostN k = t.length := by omega
    rw [if_pos hm, if_pos (by simp; omega), e]
   ·rw [if_neg hm]
    have ih := refL_run k a acc hk r (t ++ [c]) (by simp; omega)
    simp only [List.length_append, List.length_singleton, List.length_cons, List.length_nil, Nat.zero_add] at ih
    rw [Nat.add_assoc a, ih]
    simp only [List.length_cons, List.drop_succ_cons, List.append_assoc, List.singleton_append]
    have e1 : t.length + 1 + (List.takeWhile (moreN k) r).length = t.length + ((List.takeWhile (moreN k) r).length + 1) := by omega
    have e2 : a + (t.length + 1) + (List.takeWhile (moreN k) r).length = a + t.length + ((List.takeWhile (moreN k) r).length + 1) := by omega
    rw [e1, e2]
  ·rw [List.takeWhile_cons_of_neg hc, if_neg (by simp; omega)]
   simp
theorem skip_stop (l : List UInt8) : ∀ c r, l.drop (skipC false l) = c :: r → c ≠ 35 ∧ isB c = false := by
 have key : ∀ (l : List UInt8) (note : Bool) c r, l.drop (skipC note l) = c :: r → c ≠ 35 ∧ isB c = false := by
  intro l
  induction l with
  | nil => intro note c r h; simp at h
  | cons x l ih =>
   intro note c r h
   by_cases hx : ((if x = 35 then true else if x = 10 then false else note) || isB x) = true
   ·simp only [skipC, hx, if_true] at h
    rw [Nat.add_comm 1, List.drop_succ_cons] at h
    exact ih _ c r h
   ·simp only [skipC, hx, if_false, Bool.false_eq_true] at h
    simp only [List.drop_zero, List.cons.injEq] at h
    obtain ⟨rfl, rfl⟩ := h
    simp only [Bool.or_eq_true, not_or, Bool.not_eq_true] at hx
    refine ⟨fun e => ?_, hx.2⟩
    rw [if_pos e] at hx
    cases hx.1
 exact key l false
theorem take_tw (p : UInt8 → Bool) : ∀ r : List UInt8, r.take (r.takeWhile p).length = r.takeWhile p
 | [] => rfl
 | c :: r => by
  by_cases h : p c = true
  ·rw [List.takeWhile_cons_of_pos h, List.length_cons, List.take_succ_cons, take_tw p r]
  ·rw [List.takeWhile_cons_of_neg h]; rfl
theorem drop_tw (p : UInt8 → Bool) : ∀ r : List UInt8, r.drop (r.takeWhile p).length = r.dropWhile p
 | [] => rfl
 | c :: r => by
  by_cases h : p c = true
  ·rw [List.takeWhile_cons_of_pos h, List.length_cons, List.drop_succ_cons, drop_tw p r, List.dropWhile_cons_of_pos h]
  ·rw [List.takeWhile_cons_of_neg h, List.dropWhile_cons_of_neg h]; rfl
def Fresh (acc : List Wd) (i : Nat) (l : List UInt8) : Prop := ∀ k t a, acc.getLast? = some (k, t, a) → a + t.length = i → ∀ c r, l = c :: r → moreN k c = false
theorem refL_scan : ∀ (n : Nat) (l : List UInt8) (i : Nat) (acc : List Wd), l.length = n → Fresh acc i l → (∀ c r, l = c :: r → c ≠ 35 ∧ isB c = false) →
  refL l i false acc = scanL l i acc := by
 intro n
 induction n using Nat.strongRecOn with
 | _ n ih =>
  intro l i acc hl hf hp
  cases l with
  | nil => unfold scanL; rfl
  | cons c r =>
   obtain ⟨h1, h2⟩ := hp c r rfl
   have h3 : c ≠ 10 := by intro h; subst h; simp [isB] at h2
   have hs : stepWd c i acc = acc ++ [(kindN c, [c], i)] := by
    unfold stepWd
    split
    ·rename_i k t a hlast
     rw [if_neg]
     rintro ⟨h4, h5⟩
     rw [hf k t a hlast h4 c r rfl] at h5
     cases h5
    ·rfl
   have hb : badWd (acc ++ [(kindN c, [c], i)]) = decide (kindN c = 0) := by
    have := mostN_pos (kindN c)
    simp [badWd]
    omega
   conv => lhs; unfold refL
   conv => rhs; unfold scanL
   simp only [h1, h2, h3, if_false, Bool.or_self, Bool.false_eq_true, hs, hb, decide_eq_true_eq]
   by_cases hk : kindN c = 0
   ·simp only [hk, if_true]
   ·simp only [hk, if_false]
    have hmost := mostN_pos (kindN c)
    have hrun := refL_run (kindN c) i acc hk r [c] (by simpa using hmost)
    simp only [List.length_singleton, List.length_cons, List.length_nil, Nat.zero_add, List.singleton_append] at hrun
    rw [hrun]
    unfold firstN
    by_cases hm : mostN (kindN c) < 1 + (List.takeWhile (moreN (kindN c)) r).length
    ·rw [if_pos hm, if_pos hm]
    ·rw [if_neg hm, if_neg hm]
     simp only [Nat.add_sub_cancel_left]
     obtain ⟨x, hx⟩ : ∃ x, x = (List.takeWhile (moreN (kindN c)) r).length := ⟨_, rfl⟩
     have htk : r.take x = List.takeWhile (moreN (kindN c)) r := by rw [hx, take_tw]
     rw [← hx, refL_skip, Nat.add_comm 1 x, List.take_succ_cons, htk, Nat.add_assoc i 1 x, Nat.add_comm 1 x]
     refine ih _ ?_ _ _ _ rfl ?_ ?_
     ·simp only [List.length_drop, List.length_cons] at hl ⊢
      omega
     ·intro k t a hlast hat c' r' hl'
      simp only [List.getLast?_append, List.getLast?_singleton, Option.some_or, Option.some.injEq, Prod.mk.injEq] at hlast
      obtain ⟨rfl, rfl, rfl⟩ := hlast
      simp only [List.length_cons, ← hx] at hat
      have h0 : skipC false (r.drop x) = 0 := by omega
      rw [h0, List.drop_zero] at hl'
      have : r.drop x = List.dropWhile (moreN (kindN c)) r := by rw [hx, drop_tw]
      rw [this] at hl'
      have := List.head?_dropWhile_not (moreN (kindN c)) r
      rw [hl'] at this
      simpa using this
     ·exact skip_stop _
theorem scan_same (l : List UInt8) : refL l 0 false [] = scanL (l.drop (skipC false l)) (skipC false l) [] := by
 rw [refL_skip, Nat.zero_add]
 exact refL_scan _ _ _ _ rfl (fun _ _ _ h => by cases h) (skip_stop l)
def prim187 : List AV → Option AV
 | [.i .u8 n] => if 0 ≤ n ∧ n < 256 then some (.b (isS (UInt8.ofNat n.toNat))) else none
 | _ => none
theorem prim187_eq (c : UInt8) : prim187 [u8 c.toNat] = some (.b (isS c)) := by
 have := c.toNat_lt
 simp only [prim187, u8]
 rw [if_pos ⟨by omega, by omega⟩]
 simp
def prim184 : List AV → Option AV
 | [.s l, .s [10]] => if l.length ≤ 1000000 then some (.tup [.s (l.takeWhile (· != 10)), .s ((l.dropWhile (· != 10)).drop 1), .b (l.contains 10)]) else none
 | _ => none
theorem prim184_eq (l : List UInt8) (h : l.length ≤ 1000000) : prim184 [.s l, .s [10]] = some (.tup [.s (l.takeWhile (· != 10)), .s ((l.dropWhile (· != 10)).drop 1), .b (l.contains 10)]) := by
 simp only [prim184, h, if_true]
def textOf : List AV → Option (List UInt8)
 | [.s l] => if l.length ≤ 10000 then some l else none
 | _ => none
def prim183 : List AV → Option AV
 | [.sl els .an, .s sep] => if els.length ≤ 1000 ∧ sep.length ≤ 100 then (els.mapM textOf).map fun ts => .s (List.intercalate sep ts) else none
 | _ => none
def rowsT (l : List (List UInt8)) : List (List AV) := l.map fun s => [.s s]
@[simp] theorem rowsT_length (l : List (List UInt8)) : (rowsT l).length = l.length := by simp [rowsT]
@[simp] theorem rowsT_wk (l : List (List UInt8)) : wkL (rowsT l) = rowsT l := by
 induction l with
 | nil => rfl
 | cons x l ih => simpa [rowsT, wkL, wkR] using ih
theorem rowsT_take (l : List (List UInt8)) (s : List UInt8) : wkL (List.take l.length (rowsT l) ++ [[AV.s s]]) = rowsT (l ++ [s]) := by
 rw [List.take_of_length_le (by simp), show rowsT l ++ [[AV.s s]] = rowsT (l ++ [s]) by simp [rowsT], rowsT_wk]
theorem rowsT_texts (l : List (List UInt8)) (h : ∀ s ∈ l, s.length ≤ 10000) : (rowsT l).mapM textOf = some l := by
 induction l with
 | nil => rfl
 | cons x l ih =>
  have e : textOf [.s x] = some x := by simp [textOf, h x List.mem_cons_self]
  rw [show rowsT (x :: l) = [.s x] :: rowsT l from rfl, List.mapM_cons, e, ih fun s hs => h s (List.mem_cons_of_mem _ hs)]
  rfl
theorem texts_rows : ∀ {els : List (List AV)} {ts : List (List UInt8)}, els.mapM textOf = some ts → els = rowsT ts ∧ ∀ t ∈ ts, t.length ≤ 10000
 | [], ts, h => by cases h; exact ⟨rfl, by simp⟩
 | r :: els, ts, h => by
  rw [List.mapM_cons] at h
  obtain ⟨x, hx, h1⟩ := bind_some h
  obtain ⟨y, hy, h2⟩ := bind_some h1
  cases h2
  obtain ⟨e1, e2⟩ := texts_rows hy
  unfold textOf at hx
  split at hx
  ·split at hx
   ·cases hx
    rename_i hl
    subst e1
    exact ⟨rfl, fun t ht => (List.mem_cons.1 ht).elim (fun h => h ▸ hl) (e2 t)⟩
   ·cases hx
  ·cases hx
theorem prim183_eq (l : List (List UInt8)) (sep : List UInt8) (h : ∀ s ∈ l, s.length ≤ 10000) (hl : l.length ≤ 1000) (hs : sep.length ≤ 100) : prim183 [.sl (rowsT l) .an, .s sep] = some (.s (List.intercalate sep l)) := by
 simp only [prim183, rowsT_length, hl, hs, and_self, if_true, rowsT_texts l h, Option.map_some]
end Go.Ab
end

section
namespace Go.Ab
class CJoin (T : Tbl) : Prop where
 h183 : T 183 = some ⟨0, 0, [], .prim prim183, none, false⟩
section
variable {T : Tbl} [CJoin T] {d : Option Nat} {st : St} {xs : List AV} {ps : List Opd} {e : Env} {h : Heap} {ol : List Heap}
@[simp] theorem x183 : callX (orc T) T 183 xs d st = cP T 183 false xs d st := callX_pure CJoin.h183
theorem p183 (xs : List AV) : callF T 183 xs = prim183 xs := callF_prim CJoin.h183
end
end Go.Ab
end

section
namespace Go.Ab
def b185 : AX :=
 (.seq
 (.reg [rg 2 (.mov (.c (.b false)))])
 (.seq
 (.reg [mv 3 0, rg 4 (.bin .geq (.t 3) (.c (u8 48))), mv 5 4, gd 6 5 true (.mov (.t 0)), gd 7 5 true (.bin .leq (.t 6) (.c (u8 57))),
 rg 8 (.pick (.t 5) (.t 7) (.c (.b false))), mv 2 8])
 (.pre (.norm false [2]) .ret)))
def b186 : AX :=
 (.seq
 (.reg [rg 2 (.mov (.c (.b false)))])
 (.seq
 (.reg [mv 3 0, rg 4 (.bin .geq (.t 3) (.c (u8 97))), mv 5 4, gd 6 5 true (.mov (.t 0)), gd 7 5 true (.bin .leq (.t 6) (.c (u8 122))),
 rg 8 (.pick (.t 5) (.t 7) (.c (.b false))), mv 9 8, gd 10 9 false (.mov (.t 0)), gd 11 9 false (.bin .geq (.t 10) (.c (u8 65))),
 gd 12 9 false (.mov (.t 11)), gd 13 12 true (.mov (.t 0)), gd 14 12 true (.bin .leq (.t 13) (.c (u8 90))),
 gd 15 9 false (.pick (.t 12) (.t 14) (.c (.b false))), rg 16 (.pick (.t 9) (.c (.b true)) (.t 15)), mv 17 16, gd 18 17 false (.mov (.t 0)),
 gd 19 17 false (.bin .eql (.t 18) (.c (u8 95))), rg 20 (.pick (.t 17) (.c (.b true)) (.t 19)), mv 2 20])
 (.pre (.norm false [2]) .ret)))
def b177 : AX :=
 (.seq
 (.reg [rg 2 (.mov (.c (.i .i64 0)))])
 (.seq
 (.block 0
 (.seq
 (.reg [mv 4 0, rg 5 (.call 185 [(.t 4)]), mv 3 5])
 (.cond (.t 3)
 (.seq
 (.reg [rg 2 (.mov (.c (.i .i64 1)))])
 (.pre (.norm false [2]) .ret))
 (.seq
 (.reg [mv 7 0, rg 8 (.call 186 [(.t 7)]), mv 6 8])
 (.cond (.t 6)
 (.seq
 (.reg [rg 2 (.mov (.c (.i .i64 2)))])
 (.pre (.norm false [2]) .ret))
 (.seq
 (.reg [mv 10 0, rg 11 (.call 187 [(.t 10)]), mv 9 11])
 (.cond (.t 9)
 (.seq
 (.reg [rg 2 (.mov (.c (.i .i64 3)))])
 (.pre (.norm false [2]) .ret))
 .skip)))))))
 (.seq
 (.reg [rg 2 (.mov (.c (.i .i64 0)))])
 (.pre (.norm false [2]) .ret))))
def b188 : AX :=
 (.seq
 (.reg [rg 4 (.mov (.c (.b false)))])
 (.seq
 (.reg [mv 5 0, rg 6 (.bin .eql (.t 5) (.c (.i .i64 1))), mv 7 6, gd 8 7 true (.mov (.t 1)), gd 9 7 true (.call 185 [(.t 8)]),
 rg 10 (.pick (.t 7) (.t 9) (.c (.b false))), mv 11 10, gd 12 11 false (.mov (.t 0)), gd 13 11 false (.bin .eql (.t 12) (.c (.i .i64 2))),
 gd 14 11 false (.mov (.t 13)), gd 15 14 true (.mov (.t 1)), gd 16 14 true (.call 186 [(.t 15)]), gd 17 14 true (.mov (.t 16)),
 gd 18 17 false (.mov (.t 1)), gd 19 17 false (.call 185 [(.t 18)]), gd 20 14 true (.pick (.t 17) (.c (.b true)) (.t 19)),
 gd 21 11 false (.pick (.t 14) (.t 20) (.c (.b false))), rg 22 (.pick (.t 11) (.c (.b true)) (.t 21)), mv 4 22])
 (.pre (.norm false [4]) .ret)))
def b179 : AX :=
 (.seq
 (.reg [rg 2 (.mov (.c (.i .i64 0)))])
 (.seq
 (.seq
 (.reg [mv 3 0])
 (.block 0
 (.seq
 (.reg [rg 5 (.bin .eql (.t 3) (.c (.i .i64 1))), mv 4 5])
 (.cond (.t 4)
 (.seq
 (.reg [rg 2 (.mov (.c (.i .i64 60)))])
 (.pre (.norm false [2]) .ret))
 (.seq
 (.reg [rg 7 (.bin .eql (.t 3) (.c (.i .i64 2))), mv 6 7])
 (.cond (.t 6)
 (.seq
 (.reg [rg 2 (.mov (.c (.i .i64 12)))])
 (.pre (.norm false [2]) .ret))
 .skip))))))
 (.seq
 (.reg [rg 2 (.mov (.c (.i .i64 1)))])
 (.pre (.norm false [2]) .ret))))
def l178_0 : AX :=
 (.note
 (.seq
 (.seq
 (.reg [mv 6 5, mv 7 0, rg 8 (.lens (.t 7)), rg 9 (.bin .lss (.t 6) (.t 8)), mv 10 9, gd 11 10 true (.mov (.t 1)), gd 12 10 true (.mov (.t 0)),
 gd 13 10 true (.mov (.t 5)), gd 14 10 true (.ixs (.t 12) (.t 13)), gd 15 10 true (.call 188 [(.t 11), (.t 14)]),
 rg 16 (.pick (.t 10) (.t 15) (.c (.b false)))])
 (.cond (.t 16)
 .skip
 (.exit 0)))
 (.block 1
 (.reg [mv 17 5, rg 18 (.bin .add (.t 17) (.c (.i .i64 1))), mv 5 18])))
 (.norm false [0, 1, 5]))
def b178 : AX :=
 (.seq
 (.reg [rg 4 (.mov (.c (.i .i64 0)))])
 (.seq
 (.reg [rg 5 (.mov (.c (.i .i64 1)))])
 (.seq
 (.lp 0 (.norm false [0, 1, 5]) l178_0 (.norm false [5]))
 (.seq
 (.reg [mv 19 5, mv 4 19])
 (.pre (.norm false [4]) .ret)))))
def l176_0 : AX :=
 (.note
 (.seq
 (.seq
 (.reg [mv 8 1, mv 9 0, rg 10 (.lens (.t 9)), rg 11 (.bin .lss (.t 8) (.t 10))])
 (.cond (.t 11)
 .skip
 (.exit 0)))
 (.block 1
 (.seq
 (.reg [mv 12 0, mv 13 1, rg 14 (.ixs (.t 12) (.t 13))])
 (.block 2
 (.seq
 (.seq
 (.reg [rg 17 (.bin .eql (.t 14) (.c (u8 32))), mv 16 17])
 (.cond (.t 16)
 .skip
 (.seq
 (.reg [rg 18 (.bin .eql (.t 14) (.c (u8 9))), mv 16 18])
 (.cond (.t 16)
 .skip
 (.seq
 (.reg [rg 19 (.bin .eql (.t 14) (.c (u8 10))), mv 16 19])
 (.cond (.t 16)
 .skip
 (.reg [rg 20 (.bin .eql (.t 14) (.c (u8 13))), mv 16 20])))))))
 (.cond (.t 16)
 (.reg [mv 21 1, rg 22 (.bin .add (.t 21) (.c (.i .i64 1))), mv 1 22])
 (.seq
 (.reg [rg 24 (.bin .eql (.t 14) (.c (u8 35))), mv 23 24])
 (.cond (.t 23)
 (.seq
 (.reg [mv 26 0, mv 27 1, rg 28 (.slstr (.t 26) (some (.t 27)) none), rg 29 (.call 184 [(.t 28), (.c (.s [10]))]), mv 25 29, rg 30 (.ext (.t 25) 0),
 rg 31 (.ext (.t 25) 1), rg 32 (.ext (.t 25) 2), mv 5 30, mv 6 31, mv 7 32])
 (.reg [mv 33 1, mv 34 5, rg 35 (.lens (.t 34)), rg 36 (.bin .add (.t 33) (.t 35)), mv 1 36]))
 (.seq
 (.reg [mv 15 1, mv 4 15])
 (.pre (.norm false [4]) .ret))))))))))
 (.norm false [0, 1]))
def b176 : AX :=
 (.seq
 (.reg [rg 4 (.mov (.c (.i .i64 0)))])
 (.seq
 (.lp 0 (.norm false [0, 1]) l176_0 (.norm false [1]))
 (.seq
 (.reg [mv 37 1, mv 4 37])
 (.pre (.norm false [4]) .ret))))
def l167_0 : AX :=
 (.note
 (.seq
 (.seq
 (.reg [mv 14 5, mv 15 0, rg 16 (.lens (.t 15)), rg 17 (.bin .lss (.t 14) (.t 16))])
 (.cond (.t 17)
 .skip
 (.exit 0)))
 (.seq
 (.block 1
 (.seq
 (.reg [mv 21 0, mv 22 5, rg 23 (.ixs (.t 21) (.t 22)), rg 24 (.call 177 [(.t 23)]), mv 6 24])
 (.seq
 (.seq
 (.reg [mv 25 6, rg 26 (.bin .eql (.t 25) (.c (.i .i64 0)))])
 (.cond (.t 26)
 (.seq
 (.reg [mv 27 5, rg 28 (.build [(.i .i64 0), (.i .i64 0), (.i .i64 0), (.i .i64 0)] [(0, 1, (.c (.i .i64 1))), (3, 1, (.t 27))]), rg 2 (.mov (.c (.sl [] .nl))),
 so (.store 4 (.t 3) (.t 28))])
 (.pre (.norm false [2, 3]) .ret))
 .skip))
 (.seq
 (.reg [mv 29 0, mv 30 5, rg 31 (.slstr (.t 29) (some (.t 30)) none), mv 32 6, rg 33 (.call 178 [(.t 31), (.t 32)]), mv 7 33])
 (.seq
 (.seq
 (.reg [mv 34 7, mv 35 6, rg 36 (.call 179 [(.t 35)]), rg 37 (.bin .gtr (.t 34) (.t 36))])
 (.cond (.t 37)
 (.seq
 (.reg [mv 38 5, mv 39 6, rg 40 (.call 179 [(.t 39)]), rg 41 (.bin .add (.t 38) (.t 40)),
 rg 42 (.build [(.i .i64 0), (.i .i64 0), (.i .i64 0), (.i .i64 0)] [(0, 1, (.c (.i .i64 1))), (3, 1, (.t 41))]), rg 2 (.mov (.c (.sl [] .nl))),
 so (.store 4 (.t 3) (.t 42))])
 (.pre (.norm false [2, 3]) .ret))
 .skip))
 (.seq
 (.reg [mv 43 4, mv 44 6, mv 45 0, mv 46 5, mv 47 5, mv 48 7, rg 49 (.bin .add (.t 47) (.t 48)), rg 50 (.slstr (.t 45) (some (.t 46)) (some (.t 49))), mv 51 5,
 rg 52 (.build [(.i .i64 0), (.s []), (.i .i64 0)] [(0, 1, (.t 44)), (1, 1, (.t 50)), (2, 1, (.t 51))]),
 rg 53 (.bsl 3 [(.i .i64 0), (.s []), (.i .i64 0)] 1 [(0, (.t 52))]), rg 54 (.app 3 (.t 43) (.t 53)), mv 4 54])
 (.reg [mv 55 5, mv 56 7, rg 57 (.bin .add (.t 55) (.t 56)), mv 5 57])))))))
 (.reg [mv 18 0, mv 19 5, rg 20 (.call 176 [(.t 18), (.t 19)]), mv 5 20])))
 (.norm false [0, 3, 4, 5]))
def b167 : AX :=
 (.seq
 (.reg [rg 2 (.mov (.c (.sl [] .nl))), rg 3 (.alloc [(.i .i64 0), (.i .i64 0), (.i .i64 0), (.i .i64 0)])])
 (.seq
 (.seq
 (.reg [mv 8 0, rg 9 (.lens (.t 8)), rg 10 (.bin .gtr (.t 9) (.c (.i .i64 4000)))])
 (.cond (.t 10)
 (.seq
 (.reg [rg 11 (.build [(.i .i64 0), (.i .i64 0), (.i .i64 0), (.i .i64 0)] [(0, 1, (.c (.i .i64 1))), (3, 1, (.c (.i .i64 4000)))]),
 rg 2 (.mov (.c (.sl [] .nl))), so (.store 4 (.t 3) (.t 11))])
 (.pre (.norm false [2, 3]) .ret))
 .skip))
 (.seq
 (.note (.reg [rg 4 (.mov (.c (.sl [] .nl)))]) (.nil 4 3))
 (.seq
 (.seq
 (.reg [mv 12 0, rg 13 (.call 176 [(.t 12), (.c (.i .i64 0))]), mv 5 13])
 (.lp 0 (.norm false [0, 3, 4, 5]) l167_0 (.norm false [3, 4])))
 (.seq
 (.reg [mv 58 4, rg 59 (.build [(.i .i64 0), (.i .i64 0), (.i .i64 0), (.i .i64 0)] []), mv 2 58, so (.store 4 (.t 3) (.t 59))])
 (.pre (.norm false [2, 3]) .ret))))))
def b172 : AX :=
 (.seq
 (.reg [rg 1 (.xop (.box 3) [(.t 0)]), rg 2 (.mov (.c (.b false)))])
 (.seq
 (.seq
 (.drawT [rg 3 (.fad 1 (.t 1)), rg 4 (.load none (.t 3)), rg 5 (.bin .eql (.t 4) (.c (.s []))), mv 6 5, gd 7 6 false (.fad 0 (.t 1)),
 gd 8 6 false (.load none (.t 7)), gd 9 6 false (.bin .eql (.t 8) (.c (.i .i64 0))), rg 10 (.pick (.t 6) (.c (.b true)) (.t 9)), mv 11 10,
 gd 12 11 false (.fad 1 (.t 1)), gd 13 11 false (.load none (.t 12)), gd 14 11 false (.ixs (.t 13) (.c (.i .i64 0))),
 gd 15 11 false (.call 177 [(.t 14)]), gd 16 11 false (.fad 0 (.t 1)), gd 17 11 false (.load none (.t 16))]
 [gd 18 11 false (.bin .neq (.t 15) (.t 17)), rg 19 (.pick (.t 11) (.c (.b true)) (.t 18))])
 (.cond (.t 19)
 (.seq
 (.reg [rg 2 (.mov (.c (.b false)))])
 (.pre (.norm false [2]) .ret))
 .skip))
 (.seq
 (.drawT [rg 20 (.fad 1 (.t 1)), rg 21 (.load none (.t 20)), rg 22 (.fad 0 (.t 1)), rg 23 (.load none (.t 22)), rg 24 (.call 178 [(.t 21), (.t 23)]),
 rg 25 (.fad 1 (.t 1)), rg 26 (.load none (.t 25)), rg 27 (.lens (.t 26)), rg 28 (.bin .eql (.t 24) (.t 27)), mv 29 28, gd 30 29 true (.fad 1 (.t 1)),
 gd 31 29 true (.load none (.t 30)), gd 32 29 true (.lens (.t 31)), gd 33 29 true (.fad 0 (.t 1)), gd 34 29 true (.load none (.t 33)),
 gd 35 29 true (.call 179 [(.t 34)])]
 [gd 36 29 true (.bin .leq (.t 32) (.t 35)), rg 37 (.pick (.t 29) (.t 36) (.c (.b false))), mv 2 37])
 (.pre (.norm false [2]) .ret))))
def l174_0 : AX :=
 (.note
 (.seq
 (.reg [rg 9 (.bin .lss (.t 8) (.t 7))])
 (.seq
 (.cond (.t 9)
 .skip
 (.exit 0))
 (.seq
 (.block 1
 (.seq
 (.reg [rg 10 (.iad 3 (.t 6) (.t 8)), rg 11 (.load (some 3) (.t 10)), rg 5 (.alloc [(.i .i64 0), (.s []), (.i .i64 0)]), so (.store 3 (.t 5) (.t 11))])
 (.reg [mv 12 3, rg 13 (.fad 1 (.t 5)), rg 14 (.load none (.t 13)), rg 15 (.bsl 1 [(.s [])] 1 [(0, (.t 14))]), rg 16 (.app 1 (.t 12) (.t 15)), mv 3 16])))
 (.reg [rg 17 (.bin .add (.t 8) (.c (.i .i64 1))), mv 8 17]))))
 (.norm false [3, 6, 7, 8]))
def b174 : AX :=
 (.seq
 (.reg [rg 2 (.mov (.c (.s [])))])
 (.seq
 (.note (.reg [rg 3 (.mov (.c (.sl [] .nl)))]) (.nil 3 1))
 (.seq
 (.seq
 (.reg [mv 6 0, rg 7 (.len (.t 6)), rg 8 (.mov (.c (.i .i64 0)))])
 (.lp 0 (.norm false [3, 6, 7, 8]) l174_0 (.norm false [3])))
 (.seq
 (.reg [mv 18 3, rg 19 (.call 183 [(.t 18), (.c (.s [32]))]), mv 2 19])
 (.pre (.norm false [2]) .ret)))))
class CLex (T : Tbl) : Prop where
 h185 : T 185 = some ⟨1, 9, [.t 2], b185, none, false⟩
 h186 : T 186 = some ⟨1, 21, [.t 2], b186, none, false⟩
 h187 : T 187 = some ⟨0, 0, [], .prim prim187, none, false⟩
 h177 : T 177 = some ⟨1, 12, [.t 2], b177, none, false⟩
 h188 : T 188 = some ⟨2, 23, [.t 4], b188, none, false⟩
 h179 : T 179 = some ⟨1, 8, [.t 2], b179, none, false⟩
 h178 : T 178 = some ⟨2, 20, [.t 4], b178, none, false⟩
 h176 : T 176 = some ⟨2, 38, [.t 4], b176, none, false⟩
 h167 : T 167 = some ⟨1, 60, [.t 2, .cell 3 (some 4)], b167, none, false⟩
 h172 : T 172 = some ⟨1, 38, [.t 2], b172, none, false⟩
 h174 : T 174 = some ⟨1, 20, [.t 2], b174, none, false⟩
 h184 : T 184 = some ⟨0, 0, [], .prim prim184, none, false⟩
section
variable {T : Tbl} [CLex T] {d : Option Nat} {st : St} {xs : List AV} {ps : List Opd} {e : Env} {h : Heap} {ol : List Heap}
@[simp] theorem x185 : callX (orc T) T 185 xs d st = cP T 185 false xs d st := callX_pure CLex.h185
theorem f185 (xs : List AV) (hn : xs.length = 1) : callF T 185 xs = retF [.t 2] false (evX (orc T) T 0 b185 ⟨argEnv xs, [], 1⟩) := callF_eq CLex.h185 hn
@[simp] theorem x186 : callX (orc T) T 186 xs d st = cP T 186 false xs d st := callX_pure CLex.h186
theorem f186 (xs : List AV) (hn : xs.length = 1) : callF T 186 xs = retF [.t 2] false (evX (orc T) T 0 b186 ⟨argEnv xs, [], 1⟩) := callF_eq CLex.h186 hn
@[simp] theorem x187 : callX (orc T) T 187 xs d st = cP T 187 false xs d st := callX_pure CLex.h187
theorem p187 (xs : List AV) : callF T 187 xs = prim187 xs := callF_prim CLex.h187
@[simp] theorem x177 : callX (orc T) T 177 xs d st = cP T 177 false xs d st := callX_pure CLex.h177
@[simp] theorem y177 : opD (orc T) T (.call 177 ps) e h ol = dP T 177 false ps e := opD_call CLex.h177
theorem f177 (xs : List AV) (hn : xs.length = 1) : callF T 177 xs = retF [.t 2] false (evX (orc T) T 0 b177 ⟨argEnv xs, [], 1⟩) := callF_eq CLex.h177 hn
@[simp] theorem x188 : callX (orc T) T 188 xs d st = cP T 188 false xs d st := callX_pure CLex.h188
theorem f188 (xs : List AV) (hn : xs.length = 2) : callF T 188 xs = retF [.t 4] false (evX (orc T) T 0 b188 ⟨argEnv xs, [], 1⟩) := callF_eq CLex.h188 hn
@[simp] theorem x179 : callX (orc T) T 179 xs d st = cP T 179 false xs d st := callX_pure CLex.h179
@[simp] theorem y179 : opD (orc T) T (.call 179 ps) e h ol = dP T 179 false ps e := opD_call CLex.h179
theorem f179 (xs : List AV) (hn : xs.length = 1) : callF T 179 xs = retF [.t 2] false (evX (orc T) T 0 b179 ⟨argEnv xs, [], 1⟩) := callF_eq CLex.h179 hn
@[simp] theorem x178 : callX (orc T) T 178 xs d st = cP T 178 false xs d st := callX_pure CLex.h178
@[simp] theorem y178 : opD (orc T) T (.call 178 ps) e h ol = dP T 178 false ps e := opD_call CLex.h178
theorem f178 (xs : List AV) (hn : xs.length = 2) : callF T 178 xs = retF [.t 4] false (evX (orc T) T 0 b178 ⟨argEnv xs, [], 1⟩) := callF_eq CLex.h178 hn
@[simp] theorem x176 : callX (orc T) T 176 xs d st = cP T 176 false xs d st := callX_pure CLex.h176
theorem f176 (xs : List AV) (hn : xs.length = 2) : callF T 176 xs = retF [.t 4] false (evX (orc T) T 0 b176 ⟨argEnv xs, [], 1⟩) := callF_eq CLex.h176 hn
@[simp] theorem x167 : callX (orc T) T 167 xs d st = cP T 167 false xs d st := callX_pure CLex.h167
theorem f167 (xs : List AV) (hn : xs.length = 1) : callF T 167 xs = retF [.t 2, .cell 3 (some 4)] false (evX (orc T) T 0 b167 ⟨argEnv xs, [], 1⟩) := callF_eq CLex.h167 hn
@[simp] theorem y172 : opD (orc T) T (.call 172 ps) e h ol = dP T 172 false ps e := opD_call CLex.h172
theorem f172 (xs : List AV) (hn : xs.length = 1) : callF T 172 xs = retF [.t 2] false (evX (orc T) T 0 b172 ⟨argEnv xs, [], 1⟩) := callF_eq CLex.h172 hn
@[simp] theorem x174 : callX (orc T) T 174 xs d st = cP T 174 false xs d st := callX_pure CLex.h174
theorem f174 (xs : List AV) (hn : xs.length = 1) : callF T 174 xs = retF [.t 2] false (evX (orc T) T 0 b174 ⟨argEnv xs, [], 1⟩) := callF_eq CLex.h174 hn
@[simp] theorem x184 : callX (orc T) T 184 xs d st = cP T 184 false xs d st := callX_pure CLex.h184
theorem p184 (xs : List AV) : callF T 184 xs = prim184 xs := callF_prim CLex.h184
end
end Go.Ab
end

section
namespace Go.Ab
def b189 : AX :=
 (.seq
 (.reg [⟨(some 2), none, .mov (.c (.b false))⟩])
 (.seq
 (.reg [⟨(some 3), none, .mov (.t 0)⟩,
 ⟨(some 4), none, .bin .geq (.t 3) (.c (u8 48))⟩,
 ⟨(some 5), none, .mov (.t 4)⟩,
 ⟨(some 6), (some (5, true)), .mov (.t 0)⟩,
 ⟨(some 7), (some (5, true)), .bin .leq (.t 6) (.c (u8 57))⟩,
 ⟨(some 8), none, .pick (.t 5) (.t 7) (.c (.b false))⟩,
 ⟨(some 2), none, .mov (.t 8)⟩])
 (.pre (.norm false [2]) .ret)))
def b190 : AX :=
 (.seq
 (.reg [⟨(some 2), none, .mov (.c (.b false))⟩])
 (.seq
 (.reg [⟨(some 3), none, .mov (.t 0)⟩,
 ⟨(some 4), none, .bin .geq (.t 3) (.c (u8 97))⟩,
 ⟨(some 5), none, .mov (.t 4)⟩,
 ⟨(some 6), (some (5, true)), .mov (.t 0)⟩,
 ⟨(some 7), (some (5, true)), .bin .leq (.t 6) (.c (u8 122))⟩,
 ⟨(some 8), none, .pick (.t 5) (.t 7) (.c (.b false))⟩,
 ⟨(some 9), none, .mov (.t 8)⟩,
 ⟨(some 10), (some (9, false)), .mov (.t 0)⟩,
 ⟨(some 11), (some (9, false)), .bin .geq (.t 10) (.c (u8 65))⟩,
 ⟨(some 12), (some (9, false)), .mov (.t 11)⟩,
 ⟨(some 13), (some (12, true)), .mov (.t 0)⟩,
 ⟨(some 14), (some (12, true)), .bin .leq (.t 13) (.c (u8 90))⟩,
 ⟨(some 15), (some (9, false)), .pick (.t 12) (.t 14) (.c (.b false))⟩,
 ⟨(some 16), none, .pick (.t 9) (.c (.b true)) (.t 15)⟩,
 ⟨(some 17), none, .mov (.t 16)⟩,
 ⟨(some 18), (some (17, false)), .mov (.t 0)⟩,
 ⟨(some 19), (some (17, false)), .bin .eql (.t 18) (.c (u8 95))⟩,
 ⟨(some 20), none, .pick (.t 17) (.c (.b true)) (.t 19)⟩,
 ⟨(some 2), none, .mov (.t 20)⟩])
 (.pre (.norm false [2]) .ret)))
def l181_0 : AX :=
 (.note
 (.seq
 (.seq
 (.reg [⟨(some 9), none, .mov (.t 4)⟩,
 ⟨(some 10), none, .mov (.t 3)⟩,
 ⟨(some 11), none, .lens (.t 10)⟩,
 ⟨(some 12), none, .bin .lss (.t 9) (.t 11)⟩])
 (.cond (.t 12)
 .skip
 (.exit 0)))
 (.seq
 (.block 1
 (.seq
 (.reg [⟨(some 15), none, .mov (.t 3)⟩,
 ⟨(some 16), none, .mov (.t 4)⟩,
 ⟨(some 17), none, .ixs (.t 15) (.t 16)⟩,
 ⟨(some 18), none, .mov (.t 0)⟩,
 ⟨(some 19), none, .bin .eql (.t 17) (.t 18)⟩])
 (.cond (.t 19)
 (.seq
 (.reg [⟨(some 2), none, .mov (.c (.i .i64 3))⟩])
 (.pre (.norm false [2]) .ret))
 .skip)))
 (.reg [⟨(some 13), none, .mov (.t 4)⟩,
 ⟨(some 14), none, .bin .add (.t 13) (.c (.i .i64 1))⟩,
 ⟨(some 4), none, .mov (.t 14)⟩])))
 (.norm false [0, 3, 4]))
def b181 : AX :=
 (.seq
 (.reg [⟨(some 2), none, .mov (.c (.i .i64 0))⟩])
 (.seq
 (.seq
 (.reg [⟨(some 5), none, .mov (.t 0)⟩,
 ⟨(some 6), none, .call 189 [(.t 5)]⟩])
 (.cond (.t 6)
 (.seq
 (.reg [⟨(some 2), none, .mov (.c (.i .i64 1))⟩])
 (.pre (.norm false [2]) .ret))
 .skip))
 (.seq
 (.seq
 (.reg [⟨(some 7), none, .mov (.t 0)⟩,
 ⟨(some 8), none, .call 190 [(.t 7)]⟩])
 (.cond (.t 8)
 (.seq
 (.reg [⟨(some 2), none, .mov (.c (.i .i64 2))⟩])
 (.pre (.norm false [2]) .ret))
 .skip))
 (.seq
 (.reg [⟨(some 3), none, .mov (.c (.s [43, 45, 42, 47, 94, 40, 41, 91, 93, 44, 59, 61]))⟩])
 (.seq
 (.seq
 (.reg [⟨(some 4), none, .mov (.c (.i .i64 0))⟩])
 (.lp 0 (.norm false [0, 3, 4]) l181_0 (.norm false [])))
 (.seq
 (.reg [⟨(some 2), none, .mov (.c (.i .i64 0))⟩])
 (.pre (.norm false [2]) .ret)))))))
def b180 : AX :=
 (.seq
 (.reg [⟨(some 4), none, .mov (.c (.b false))⟩])
 (.seq
 (.reg [⟨(some 5), none, .mov (.t 0)⟩,
 ⟨(some 6), none, .bin .eql (.t 5) (.c (.i .i64 1))⟩,
 ⟨(some 7), none, .mov (.t 6)⟩,
 ⟨(some 8), (some (7, true)), .mov (.t 1)⟩,
 ⟨(some 9), (some (7, true)), .call 189 [(.t 8)]⟩,
 ⟨(some 10), none, .pick (.t 7) (.t 9) (.c (.b false))⟩,
 ⟨(some 11), none, .mov (.t 10)⟩,
 ⟨(some 12), (some (11, false)), .mov (.t 0)⟩,
 ⟨(some 13), (some (11, false)), .bin .eql (.t 12) (.c (.i .i64 2))⟩,
 ⟨(some 14), (some (11, false)), .mov (.t 13)⟩,
 ⟨(some 15), (some (14, true)), .mov (.t 1)⟩,
 ⟨(some 16), (some (14, true)), .call 189 [(.t 15)]⟩,
 ⟨(some 17), (some (14, true)), .mov (.t 16)⟩,
 ⟨(some 18), (some (17, false)), .mov (.t 1)⟩,
 ⟨(some 19), (some (17, false)), .call 190 [(.t 18)]⟩,
 ⟨(some 20), (some (14, true)), .pick (.t 17) (.c (.b true)) (.t 19)⟩,
 ⟨(some 21), (some (11, false)), .pick (.t 14) (.t 20) (.c (.b false))⟩,
 ⟨(some 22), none, .pick (.t 11) (.c (.b true)) (.t 21)⟩,
 ⟨(some 4), none, .mov (.t 22)⟩])
 (.pre (.norm false [4]) .ret)))
def b182 : AX :=
 (.seq
 (.reg [⟨(some 2), none, .mov (.c (.i .i64 0))⟩])
 (.seq
 (.seq
 (.reg [⟨(some 3), none, .mov (.t 0)⟩,
 ⟨(some 4), none, .bin .eql (.t 3) (.c (.i .i64 1))⟩])
 (.cond (.t 4)
 (.seq
 (.reg [⟨(some 2), none, .mov (.c (.i .i64 60))⟩])
 (.pre (.norm false [2]) .ret))
 .skip))
 (.seq
 (.seq
 (.reg [⟨(some 5), none, .mov (.t 0)⟩,
 ⟨(some 6), none, .bin .eql (.t 5) (.c (.i .i64 2))⟩])
 (.cond (.t 6)
 (.seq
 (.reg [⟨(some 2), none, .mov (.c (.i .i64 12))⟩])
 (.pre (.norm false [2]) .ret))
 .skip))
 (.seq
 (.reg [⟨(some 2), none, .mov (.c (.i .i64 1))⟩])
 (.pre (.norm false [2]) .ret)))))
def l168_0 : AX :=
 (.note
 (.seq
 (.seq
 (.reg [⟨(some 14), none, .mov (.t 6)⟩,
 ⟨(some 15), none, .mov (.t 0)⟩,
 ⟨(some 16), none, .lens (.t 15)⟩,
 ⟨(some 17), none, .bin .lss (.t 14) (.t 16)⟩])
 (.cond (.t 17)
 .skip
 (.exit 0)))
 (.seq
 (.block 1
 (.seq
 (.reg [⟨(some 20), none, .mov (.t 0)⟩,
 ⟨(some 21), none, .mov (.t 6)⟩,
 ⟨(some 22), none, .ixs (.t 20) (.t 21)⟩,
 ⟨(some 7), none, .mov (.t 22)⟩])
 (.seq
 (.seq
 (.reg [⟨(some 23), none, .mov (.t 7)⟩,
 ⟨(some 24), none, .bin .eql (.t 23) (.c (u8 10))⟩])
 (.cond (.t 24)
 (.reg [⟨(some 5), none, .mov (.c (.b false))⟩])
 .skip))
 (.seq
 (.seq
 (.reg [⟨(some 25), none, .mov (.t 7)⟩,
 ⟨(some 26), none, .bin .eql (.t 25) (.c (u8 35))⟩])
 (.cond (.t 26)
 (.reg [⟨(some 5), none, .mov (.c (.b true))⟩])
 .skip))
 (.seq
 (.seq
 (.reg [⟨(some 27), none, .mov (.t 5)⟩,
 ⟨(some 28), none, .mov (.t 27)⟩,
 ⟨(some 29), (some (28, false)), .mov (.t 7)⟩,
 ⟨(some 30), (some (28, false)), .bin .eql (.t 29) (.c (u8 32))⟩,
 ⟨(some 31), none, .pick (.t 28) (.c (.b true)) (.t 30)⟩,
 ⟨(some 32), none, .mov (.t 31)⟩,
 ⟨(some 33), (some (32, false)), .mov (.t 7)⟩,
 ⟨(some 34), (some (32, false)), .bin .eql (.t 33) (.c (u8 9))⟩,
 ⟨(some 35), none, .pick (.t 32) (.c (.b true)) (.t 34)⟩,
 ⟨(some 36), none, .mov (.t 35)⟩,
 ⟨(some 37), (some (36, false)), .mov (.t 7)⟩,
 ⟨(some 38), (some (36, false)), .bin .eql (.t 37) (.c (u8 10))⟩,
 ⟨(some 39), none, .pick (.t 36) (.c (.b true)) (.t 38)⟩,
 ⟨(some 40), none, .mov (.t 39)⟩,
 ⟨(some 41), (some (40, false)), .mov (.t 7)⟩,
 ⟨(some 42), (some (40, false)), .bin .eql (.t 41) (.c (u8 13))⟩,
 ⟨(some 43), none, .pick (.t 40) (.c (.b true)) (.t 42)⟩])
 (.cond (.t 43)
 (.exit 1)
 .skip))
 (.seq
 (.reg [⟨(some 44), none, .mov (.t 4)⟩,
 ⟨(some 45), none, .len (.t 44)⟩,
 ⟨(some 8), none, .mov (.t 45)⟩])
 (.seq
 (.seq
 (.drawT [⟨(some 46), none, .mov (.t 8)⟩,
 ⟨(some 47), none, .bin .gtr (.t 46) (.c (.i .i64 0))⟩,
 ⟨(some 48), none, .mov (.t 47)⟩,
 ⟨(some 49), (some (48, true)), .mov (.t 4)⟩,
 ⟨(some 50), (some (48, true)), .mov (.t 8)⟩,
 ⟨(some 51), (some (48, true)), .bin .sub (.t 50) (.c (.i .i64 1))⟩,
 ⟨(some 52), (some (48, true)), .iad 3 (.t 49) (.t 51)⟩,
 ⟨(some 53), (some (48, true)), .fad 2 (.t 52)⟩,
 ⟨(some 54), (some (48, true)), .load none (.t 53)⟩,
 ⟨(some 55), (some (48, true)), .mov (.t 4)⟩,
 ⟨(some 56), (some (48, true)), .mov (.t 8)⟩,
 ⟨(some 57), (some (48, true)), .bin .sub (.t 56) (.c (.i .i64 1))⟩,
 ⟨(some 58), (some (48, true)), .iad 3 (.t 55) (.t 57)⟩,
 ⟨(some 59), (some (48, true)), .fad 1 (.t 58)⟩,
 ⟨(some 60), (some (48, true)), .load none (.t 59)⟩,
 ⟨(some 61), (some (48, true)), .lens (.t 60)⟩,
 ⟨(some 62), (some (48, true)), .bin .add (.t 54) (.t 61)⟩,
 ⟨(some 63), (some (48, true)), .mov (.t 6)⟩,
 ⟨(some 64), (some (48, true)), .bin .eql (.t 62) (.t 63)⟩,
 ⟨(some 65), none, .pick (.t 48) (.t 64) (.c (.b false))⟩,
 ⟨(some 66), none, .mov (.t 65)⟩,
 ⟨(some 67), (some (66, true)), .mov (.t 4)⟩,
 ⟨(some 68), (some (66, true)), .mov (.t 8)⟩,
 ⟨(some 69), (some (66, true)), .bin .sub (.t 68) (.c (.i .i64 1))⟩,
 ⟨(some 70), (some (66, true)), .iad 3 (.t 67) (.t 69)⟩,
 ⟨(some 71), (some (66, true)), .fad 0 (.t 70)⟩,
 ⟨(some 72), (some (66, true)), .load none (.t 71)⟩,
 ⟨(some 73), (some (66, true)), .mov (.t 7)⟩]
 [⟨(some 74), (some (66, true)), .call 180 [(.t 72), (.t 73)]⟩,
 ⟨(some 75), none, .pick (.t 66) (.t 74) (.c (.b false))⟩])
 (.cond (.t 75)
 (.drawT [⟨(some 76), none, .mov (.t 4)⟩,
 ⟨(some 77), none, .mov (.t 8)⟩,
 ⟨(some 78), none, .bin .sub (.t 77) (.c (.i .i64 1))⟩,
 ⟨(some 79), none, .iad 3 (.t 76) (.t 78)⟩,
 ⟨(some 80), none, .fad 1 (.t 79)⟩,
 ⟨(some 81), none, .load none (.t 80)⟩,
 ⟨(some 82), none, .mov (.t 0)⟩,
 ⟨(some 83), none, .mov (.t 6)⟩,
 ⟨(some 84), none, .mov (.t 6)⟩,
 ⟨(some 85), none, .bin .add (.t 84) (.c (.i .i64 1))⟩,
 ⟨(some 86), none, .slstr (.t 82) (some (.t 83)) (some (.t 85))⟩]
 [⟨(some 87), none, .bin .add (.t 81) (.t 86)⟩,
 ⟨(some 88), none, .iad 3 (.t 76) (.t 78)⟩,
 ⟨(some 89), none, .fad 1 (.t 88)⟩,
 ⟨none, none, .store 1 (.t 89) (.t 87)⟩])
 (.drawT [⟨(some 90), none, .mov (.t 4)⟩,
 ⟨(some 91), none, .mov (.t 7)⟩,
 ⟨(some 92), none, .call 181 [(.t 91)]⟩,
 ⟨(some 93), none, .mov (.t 0)⟩,
 ⟨(some 94), none, .mov (.t 6)⟩,
 ⟨(some 95), none, .mov (.t 6)⟩,
 ⟨(some 96), none, .bin .add (.t 95) (.c (.i .i64 1))⟩,
 ⟨(some 97), none, .slstr (.t 93) (some (.t 94)) (some (.t 96))⟩,
 ⟨(some 98), none, .mov (.t 6)⟩,
 ⟨(some 99), none, .build [(.i .i64 0), (.s []), (.i .i64 0)] [(0, 1, (.t 92)), (1, 1, (.t 97)), (2, 1, (.t 98))]⟩,
 ⟨(some 100), none, .bsl 3 [(.i .i64 0), (.s []), (.i .i64 0)] 1 [(0, (.t 99))]⟩]
 [⟨(some 101), none, .app 3 (.t 90) (.t 100)⟩,
 ⟨(some 4), none, .mov (.t 101)⟩])))
 (.seq
 (.reg [⟨(some 102), none, .mov (.t 4)⟩,
 ⟨(some 103), none, .mov (.t 4)⟩,
 ⟨(some 104), none, .len (.t 103)⟩,
 ⟨(some 105), none, .bin .sub (.t 104) (.c (.i .i64 1))⟩,
 ⟨(some 106), none, .iad 3 (.t 102) (.t 105)⟩,
 ⟨(some 107), none, .load (some 3) (.t 106)⟩,
 ⟨(some 9), none, .alloc [(.i .i64 0), (.s []), (.i .i64 0)]⟩,
 ⟨none, none, .store 3 (.t 9) (.t 107)⟩])
 (.seq
 (.drawT [⟨(some 108), none, .fad 0 (.t 9)⟩,
 ⟨(some 109), none, .load none (.t 108)⟩,
 ⟨(some 110), none, .bin .eql (.t 109) (.c (.i .i64 0))⟩,
 ⟨(some 111), none, .mov (.t 110)⟩,
 ⟨(some 112), (some (111, false)), .fad 1 (.t 9)⟩,
 ⟨(some 113), (some (111, false)), .load none (.t 112)⟩,
 ⟨(some 114), (some (111, false)), .lens (.t 113)⟩,
 ⟨(some 115), (some (111, false)), .fad 0 (.t 9)⟩,
 ⟨(some 116), (some (111, false)), .load none (.t 115)⟩,
 ⟨(some 117), (some (111, false)), .call 182 [(.t 116)]⟩]
 [⟨(some 118), (some (111, false)), .bin .gtr (.t 114) (.t 117)⟩,
 ⟨(some 119), none, .pick (.t 111) (.c (.b true)) (.t 118)⟩])
 (.cond (.t 119)
 (.seq
 (.reg [⟨(some 120), none, .bsl 3 [(.i .i64 0), (.s []), (.i .i64 0)] 0 []⟩,
 ⟨(some 121), none, .mov (.t 6)⟩,
 ⟨(some 2), none, .mov (.t 120)⟩,
 ⟨(some 3), none, .mov (.t 121)⟩])
 (.pre (.norm false [2, 3]) .ret))
 .skip))))))))))
 (.reg [⟨(some 18), none, .mov (.t 6)⟩,
 ⟨(some 19), none, .bin .add (.t 18) (.c (.i .i64 1))⟩,
 ⟨(some 6), none, .mov (.t 19)⟩])))
 (.norm false [0, 4, 5, 6]))
def b168 : AX :=
 (.seq
 (.reg [⟨(some 2), none, .mov (.c (.sl [] .nl))⟩,
 ⟨(some 3), none, .mov (.c (.i .i64 0))⟩])
 (.seq
 (.seq
 (.reg [⟨(some 10), none, .mov (.t 0)⟩,
 ⟨(some 11), none, .lens (.t 10)⟩,
 ⟨(some 12), none, .bin .gtr (.t 11) (.c (.i .i64 4000))⟩])
 (.cond (.t 12)
 (.seq
 (.reg [⟨(some 13), none, .bsl 3 [(.i .i64 0), (.s []), (.i .i64 0)] 0 []⟩,
 ⟨(some 2), none, .mov (.t 13)⟩,
 ⟨(some 3), none, .mov (.c (.i .i64 4000))⟩])
 (.pre (.norm false [2, 3]) .ret))
 .skip))
 (.seq
 (.note (.reg [⟨(some 4), none, .mov (.c (.sl [] .nl))⟩]) (.nil 4 3))
 (.seq
 (.reg [⟨(some 5), none, .mov (.c (.b false))⟩])
 (.seq
 (.seq
 (.reg [⟨(some 6), none, .mov (.c (.i .i64 0))⟩])
 (.lp 0 (.norm false [0, 4, 5, 6]) l168_0 (.norm false [4])))
 (.seq
 (.reg [⟨(some 122), none, .mov (.t 4)⟩,
 ⟨(some 2), none, .mov (.t 122)⟩,
 ⟨(some 3), none, .mov (.c (.i .i64 (-1)))⟩])
 (.pre (.norm false [2, 3]) .ret)))))))
def b173 : AX :=
 (.seq
 (.reg [⟨(some 1), none, .xop (.box 3) [(.t 0)]⟩,
 ⟨(some 2), none, .mov (.c (.b false))⟩])
 (.seq
 (.reg [⟨(some 6), none, .fad 1 (.t 1)⟩,
 ⟨(some 7), none, .load none (.t 6)⟩,
 ⟨(some 8), none, .call 168 [(.t 7)]⟩,
 ⟨(some 5), none, .mov (.t 8)⟩,
 ⟨(some 9), none, .ext (.t 5) 0⟩,
 ⟨(some 10), none, .ext (.t 5) 1⟩,
 ⟨(some 3), none, .mov (.t 9)⟩,
 ⟨(some 4), none, .mov (.t 10)⟩])
 (.seq
 (.drawT [⟨(some 11), none, .mov (.t 4)⟩,
 ⟨(some 12), none, .bin .lss (.t 11) (.c (.i .i64 0))⟩,
 ⟨(some 13), none, .mov (.t 12)⟩,
 ⟨(some 14), (some (13, true)), .mov (.t 3)⟩,
 ⟨(some 15), (some (13, true)), .len (.t 14)⟩,
 ⟨(some 16), (some (13, true)), .bin .eql (.t 15) (.c (.i .i64 1))⟩,
 ⟨(some 17), none, .pick (.t 13) (.t 16) (.c (.b false))⟩,
 ⟨(some 18), none, .mov (.t 17)⟩,
 ⟨(some 19), (some (18, true)), .mov (.t 3)⟩,
 ⟨(some 20), (some (18, true)), .iad 3 (.t 19) (.c (.i .i64 0))⟩,
 ⟨(some 21), (some (18, true)), .fad 0 (.t 20)⟩,
 ⟨(some 22), (some (18, true)), .load none (.t 21)⟩,
 ⟨(some 23), (some (18, true)), .fad 0 (.t 1)⟩,
 ⟨(some 24), (some (18, true)), .load none (.t 23)⟩,
 ⟨(some 25), (some (18, true)), .bin .eql (.t 22) (.t 24)⟩,
 ⟨(some 26), none, .pick (.t 18) (.t 25) (.c (.b false))⟩,
 ⟨(some 27), none, .mov (.t 26)⟩,
 ⟨(some 28), (some (27, true)), .mov (.t 3)⟩,
 ⟨(some 29), (some (27, true)), .iad 3 (.t 28) (.c (.i .i64 0))⟩,
 ⟨(some 30), (some (27, true)), .fad 1 (.t 29)⟩,
 ⟨(some 31), (some (27, true)), .load none (.t 30)⟩,
 ⟨(some 32), (some (27, true)), .fad 1 (.t 1)⟩,
 ⟨(some 33), (some (27, true)), .load none (.t 32)⟩]
 [⟨(some 34), (some (27, true)), .bin .eql (.t 31) (.t 33)⟩,
 ⟨(some 35), none, .pick (.t 27) (.t 34) (.c (.b false))⟩,
 ⟨(some 2), none, .mov (.t 35)⟩])
 (.pre (.norm false [2]) .ret))))
def l175_0 : AX :=
 (.note
 (.seq
 (.seq
 (.reg [⟨(some 5), none, .mov (.t 4)⟩,
 ⟨(some 6), none, .mov (.t 0)⟩,
 ⟨(some 7), none, .len (.t 6)⟩,
 ⟨(some 8), none, .bin .lss (.t 5) (.t 7)⟩])
 (.cond (.t 8)
 .skip
 (.exit 0)))
 (.seq
 (.block 1
 (.seq
 (.seq
 (.reg [⟨(some 11), none, .mov (.t 4)⟩,
 ⟨(some 12), none, .bin .gtr (.t 11) (.c (.i .i64 0))⟩])
 (.cond (.t 12)
 (.reg [⟨(some 13), none, .mov (.t 3)⟩,
 ⟨(some 14), none, .bin .add (.t 13) (.c (.s [32]))⟩,
 ⟨(some 3), none, .mov (.t 14)⟩])
 .skip))
 (.reg [⟨(some 15), none, .mov (.t 3)⟩,
 ⟨(some 16), none, .mov (.t 0)⟩,
 ⟨(some 17), none, .mov (.t 4)⟩,
 ⟨(some 18), none, .iad 3 (.t 16) (.t 17)⟩,
 ⟨(some 19), none, .fad 1 (.t 18)⟩,
 ⟨(some 20), none, .load none (.t 19)⟩,
 ⟨(some 21), none, .bin .add (.t 15) (.t 20)⟩,
 ⟨(some 3), none, .mov (.t 21)⟩])))
 (.reg [⟨(some 9), none, .mov (.t 4)⟩,
 ⟨(some 10), none, .bin .add (.t 9) (.c (.i .i64 1))⟩,
 ⟨(some 4), none, .mov (.t 10)⟩])))
 (.norm false [0, 3, 4]))
def b175 : AX :=
 (.seq
 (.reg [⟨(some 2), none, .mov (.c (.s []))⟩])
 (.seq
 (.reg [⟨(some 3), none, .mov (.c (.s []))⟩])
 (.seq
 (.seq
 (.reg [⟨(some 4), none, .mov (.c (.i .i64 0))⟩])
 (.lp 0 (.norm false [0, 3, 4]) l175_0 (.norm false [3])))
 (.seq
 (.reg [⟨(some 22), none, .mov (.t 3)⟩,
 ⟨(some 2), none, .mov (.t 22)⟩])
 (.pre (.norm false [2]) .ret)))))
class CRef16 (T : Tbl) : Prop where
 h189 : T 189 = some ⟨1, 9, [.t 2], b189, none, false⟩
 h190 : T 190 = some ⟨1, 21, [.t 2], b190, none, false⟩
 h181 : T 181 = some ⟨1, 20, [.t 2], b181, none, false⟩
 h180 : T 180 = some ⟨2, 23, [.t 4], b180, none, false⟩
 h182 : T 182 = some ⟨1, 7, [.t 2], b182, none, false⟩
 h168 : T 168 = some ⟨1, 123, [.t 2, .t 3], b168, none, false⟩
 h173 : T 173 = some ⟨1, 36, [.t 2], b173, none, false⟩
 h175 : T 175 = some ⟨1, 23, [.t 2], b175, none, false⟩
section
variable {T : Tbl} [CRef16 T] {d : Option Nat} {st : St}
@[simp] theorem x189 (xs : List AV) : callX (orc T) T 189 xs d st = bL (frzL st.heap xs) fun ys => cR (callF T 189 (ys.map (wkIf false))) xs d st := callX_pure CRef16.h189
theorem f189 (xs : List AV) (hn : xs.length = 1) : callF T 189 xs = retF [.t 2] false (evX (orc T) T 0 b189 ⟨argEnv xs, [], 1⟩) := callF_eq CRef16.h189 hn
@[simp] theorem x190 (xs : List AV) : callX (orc T) T 190 xs d st = bL (frzL st.heap xs) fun ys => cR (callF T 190 (ys.map (wkIf false))) xs d st := callX_pure CRef16.h190
theorem f190 (xs : List AV) (hn : xs.length = 1) : callF T 190 xs = retF [.t 2] false (evX (orc T) T 0 b190 ⟨argEnv xs, [], 1⟩) := callF_eq CRef16.h190 hn
@[simp] theorem y181 {e : Env} {h : Heap} {older : List Heap} (args : List Opd) : opD (orc T) T (.call 181 args) e h older = dR (callF T 181 ((args.map (ev e.get)).map (wkIf false))) (args.map (ev e.get)) := opD_call CRef16.h181
theorem f181 (xs : List AV) (hn : xs.length = 1) : callF T 181 xs = retF [.t 2] false (evX (orc T) T 0 b181 ⟨argEnv xs, [], 1⟩) := callF_eq CRef16.h181 hn
@[simp] theorem x180 (xs : List AV) : callX (orc T) T 180 xs d st = bL (frzL st.heap xs) fun ys => cR (callF T 180 (ys.map (wkIf false))) xs d st := callX_pure CRef16.h180
theorem f180 (xs : List AV) (hn : xs.length = 2) : callF T 180 xs = retF [.t 4] false (evX (orc T) T 0 b180 ⟨argEnv xs, [], 1⟩) := callF_eq CRef16.h180 hn
@[simp] theorem y182 {e : Env} {h : Heap} {older : List Heap} (args : List Opd) : opD (orc T) T (.call 182 args) e h older = dR (callF T 182 ((args.map (ev e.get)).map (wkIf false))) (args.map (ev e.get)) := opD_call CRef16.h182
theorem f182 (xs : List AV) (hn : xs.length = 1) : callF T 182 xs = retF [.t 2] false (evX (orc T) T 0 b182 ⟨argEnv xs, [], 1⟩) := callF_eq CRef16.h182 hn
@[simp] theorem x168 (xs : List AV) : callX (orc T) T 168 xs d st = bL (frzL st.heap xs) fun ys => cR (callF T 168 (ys.map (wkIf false))) xs d st := callX_pure CRef16.h168
theorem f168 (xs : List AV) (hn : xs.length = 1) : callF T 168 xs = retF [.t 2, .t 3] false (evX (orc T) T 0 b168 ⟨argEnv xs, [], 1⟩) := callF_eq CRef16.h168 hn
@[simp] theorem x173 (xs : List AV) : callX (orc T) T 173 xs d st = bL (frzL st.heap xs) fun ys => cR (callF T 173 (ys.map (wkIf false))) xs d st := callX_pure CRef16.h173
theorem f173 (xs : List AV) (hn : xs.length = 1) : callF T 173 xs = retF [.t 2] false (evX (orc T) T 0 b173 ⟨argEnv xs, [], 1⟩) := callF_eq CRef16.h173 hn
@[simp] theorem x175 (xs : List AV) : callX (orc T) T 175 xs d st = bL (frzL st.heap xs) fun ys => cR (callF T 175 (ys.map (wkIf false))) xs d st := callX_pure CRef16.h175
theorem f175 (xs : List AV) (hn : xs.length = 1) : callF T 175 xs = retF [.t 2] false (evX (orc T) T 0 b175 ⟨argEnv xs, [], 1⟩) := callF_eq CRef16.h175 hn
end
end Go.Ab
end

section
namespace Go.Ab
section
variable {T : Tbl} [CJoin T] [CLex T]
theorem lex_digit (c : UInt8) : callF T 185 [u8 c.toNat] = some (.b (isD c)) := by
 rw [f185 _ rfl, b185]
 by_cases h1 : 48 ≤ c.toNat
 ·simp -implicitDefEqProofs [isD, h1]
 ·simp -implicitDefEqProofs [isD, h1]
theorem lex_letter (c : UInt8) : callF T 186 [u8 c.toNat] = some (.b (isL c)) := by
 rw [f186 _ rfl, b186]
 by_cases h1 : 97 ≤ c.toNat <;> by_cases h2 : c.toNat ≤ 122 <;> by_cases h3 : 65 ≤ c.toNat <;> by_cases h4 : c.toNat ≤ 90 <;> by_cases h5 : c.toNat = 95 <;>
  simp -implicitDefEqProofs [isL, h1, h2, h3, h4, h5]
theorem lex_sign (c : UInt8) : callF T 187 [u8 c.toNat] = some (.b (isS c)) := by rw [p187, prim187_eq]
theorem lex_kind (c : UInt8) : callF T 177 [u8 c.toNat] = some (.i .i64 (kindN c)) := by
 have h1 := lex_digit (T := T) c
 have h2 := lex_letter (T := T) c
 have h3 := lex_sign (T := T) c
 rw [f177 _ rfl, b177]
 cases e1 : isD c <;> cases e2 : isL c <;> cases e3 : isS c <;> simp -implicitDefEqProofs [kindN, h1, h2, h3, e1, e2, e3]
theorem lex_goes (k : Nat) (c : UInt8) : callF T 188 [.i .i64 k, u8 c.toNat] = some (.b (moreN k c)) := by
 have h1 := lex_digit (T := T) c
 have h2 := lex_letter (T := T) c
 rw [f188 _ rfl, b188]
 by_cases k1 : k = 1
 ·subst k1
  cases e1 : isD c <;> cases e2 : isL c <;> simp -implicitDefEqProofs [moreN, h1, h2, e1, e2]
 ·have k1' : ¬ (k : Int) = 1 := by omega
  by_cases k2 : k = 2
  ·subst k2
   cases e1 : isD c <;> cases e2 : isL c <;> simp -implicitDefEqProofs [moreN, h1, h2, e1, e2]
  ·have k2' : ¬ (k : Int) = 2 := by omega
   simp -implicitDefEqProofs [moreN, h1, h2, k1, k2, k1', k2']
theorem lex_most (k : Nat) : callF T 179 [.i .i64 k] = some (.i .i64 (mostN k)) := by
 rw [f179 _ rfl, b179]
 by_cases k1 : k = 1
 ·subst k1
  simp -implicitDefEqProofs [mostN]
 ·have k1' : ¬ (k : Int) = 1 := by omega
  by_cases k2 : k = 2
  ·subst k2
   simp -implicitDefEqProofs [mostN]
  ·have k2' : ¬ (k : Int) = 2 := by omega
   simp -implicitDefEqProofs [mostN, k1, k2, k1', k2']
theorem first_loop (s : List UInt8) (hs : s.length ≤ 1000000) (k F : Nat) : ∀ n : Nat, (n ≤ s.length ∧ n + ((s.drop n).takeWhile (moreN k)).length = F) →
  loopN T 0 0 (.norm false [5]) l178_0 ⟨[(0, .s s), (1, .i .i64 k), (5, .i .i64 n)], [], 2⟩ = some (.n, ⟨[(5, .i .i64 F)], [], 2⟩) := by
 refine loopN_eq (fun n : Nat => ⟨[(0, .s s), (1, .i .i64 k), (5, .i .i64 n)], [], 2⟩) _ (fun n => s.length - n) _ ?_
 rintro n ⟨hn, hF⟩
 by_cases h0 : n < s.length
 ·have hg : s[n]? = some (s[n]'h0) := List.getElem?_eq_getElem h0
  have hd := List.drop_eq_getElem_cons h0
  have hgo := lex_goes (T := T) k (s[n]'h0)
  have hw : IntKind.wrap .i64 ((n : Int) + 1) = ((n + 1 : Nat) : Int) := wrap_i64 _ (by omega)
  by_cases hc : moreN k (s[n]'h0) = true
  ·left
   rw [hd, List.takeWhile_cons_of_pos hc] at hF
   refine ⟨n + 1, ⟨h0, by simp only [List.length_cons] at hF; omega⟩, by show s.length - (n + 1) < s.length - n; omega, ?_, rfl⟩
   simp -implicitDefEqProofs [l178_0, h0, hg, hgo, hc, hw]
  ·right
   rw [hd, List.takeWhile_cons_of_neg hc] at hF
   simp only [List.length_nil, Nat.add_zero] at hF
   subst hF
   constructor <;> simp -implicitDefEqProofs [l178_0, h0, hg, hgo, hc]
 ·right
  have : n = s.length := by omega
  subst this
  rw [List.drop_length] at hF
  simp only [List.takeWhile_nil, List.length_nil, Nat.add_zero] at hF
  subst hF
  constructor <;> simp -implicitDefEqProofs [l178_0]
theorem lex_first (c : UInt8) (r : List UInt8) (hs : r.length ≤ 100000) (k : Nat) : callF T 178 [.s (c :: r), .i .i64 k] = some (.i .i64 (firstN k r)) := by
 have h := first_loop (T := T) (c :: r) (by simp; omega) k (firstN k r) 1 ⟨by simp, rfl⟩
 rw [f178 _ rfl, b178]
 simp at h
 simp -implicitDefEqProofs [h]
theorem skipC_note (r : List UInt8) : skipC true r = (r.takeWhile (· != 10)).length + skipC false (r.drop (r.takeWhile (· != 10)).length) := by
 induction r with
 | nil => rfl
 | cons c r ih =>
  by_cases h : c = 10
  ·subst h
   rw [List.takeWhile_cons_of_neg (by decide)]
   simp [skipC, isB]
  ·rw [List.takeWhile_cons_of_pos (by simpa using h), List.length_cons, List.drop_succ_cons]
   have e : (if c = 35 then true else if c = 10 then false else true) = true := by simp [h]
   simp only [skipC, e, Bool.true_or, if_true]
   rw [ih]
   omega
theorem skipC_hash (r : List UInt8) : skipC false (35 :: r) = (List.takeWhile (· != 10) (35 :: r)).length + skipC false ((35 :: r).drop (List.takeWhile (· != 10) (35 :: r)).length) := by
 rw [List.takeWhile_cons_of_pos (by decide), List.length_cons, List.drop_succ_cons]
 simp only [skipC, if_true, Bool.true_or]
 rw [skipC_note]
 omega
theorem u8_eq_iff (c : UInt8) (n : Nat) (hn : n < 256) : c = UInt8.ofNat n ↔ c.toNat = n := by
 constructor
 ·rintro rfl; simp; omega
 ·intro h; subst h; simp
theorem isB_nat (c : UInt8) : isB c = (decide (c.toNat = 32) || decide (c.toNat = 9) || decide (c.toNat = 10) || decide (c.toNat = 13)) := by
 have e (n : Nat) (hn : n < 256) : decide (c = UInt8.ofNat n) = decide (c.toNat = n) := decide_eq_decide.2 (u8_eq_iff c n hn)
 unfold isB
 rw [show (32 : UInt8) = UInt8.ofNat 32 from rfl, show (9 : UInt8) = UInt8.ofNat 9 from rfl, show (10 : UInt8) = UInt8.ofNat 10 from rfl, show (13 : UInt8) = UInt8.ofNat 13 from rfl, e 32 (by decide), e 9 (by decide), e 10 (by decide), e 13 (by decide)]
theorem lex_cut (l : List UInt8) (h : l.length ≤ 1000000) : callF T 184 [.s l, .s [10]] = some (.tup [.s (l.takeWhile (· != 10)), .s ((l.dropWhile (· != 10)).drop 1), .b (l.contains 10)]) := by rw [p184, prim184_eq l h]
theorem skip_loop (s : List UInt8) (hs : s.length ≤ 1000000) (E : Nat) : ∀ n : Nat, (n ≤ s.length ∧ n + skipC false (s.drop n) = E) →
  loopN T 0 0 (.norm false [1]) l176_0 ⟨[(0, .s s), (1, .i .i64 n)], [], 2⟩ = if E < s.length then some (.r, ⟨[(4, .i .i64 E)], [], 2⟩) else some (.n, ⟨[(1, .i .i64 E)], [], 2⟩) := by
 refine loopN_eq (fun n : Nat => ⟨[(0, .s s), (1, .i .i64 n)], [], 2⟩) _ (fun n => s.length - n) _ ?_
 rintro n ⟨hn, hE⟩
 by_cases h0 : n < s.length
 ·have hg : s[n]? = some (s[n]'h0) := List.getElem?_eq_getElem h0
  have hd := List.drop_eq_getElem_cons h0
  have hw : IntKind.wrap .i64 ((n : Int) + 1) = ((n + 1 : Nat) : Int) := wrap_i64 _ (by omega)
  rw [hd] at hE
  by_cases hB : isB (s[n]'h0) = true
  ·left
   have h35 : (s[n]'h0) ≠ 35 := by intro h; rw [h] at hB; simp [isB] at hB
   have e : skipC false ((s[n]'h0) :: s.drop (n + 1)) = 1 + skipC false (s.drop (n + 1)) := by
    have e1 : (if (s[n]'h0) = 35 then true else if (s[n]'h0) = 10 then false else false) = false := by simp [h35]
    simp only [skipC, e1, hB, Bool.false_or, if_true]
   refine ⟨n + 1, ⟨h0, by omega⟩, by show s.length - (n + 1) < s.length - n; omega, ?_, rfl⟩
   rw [isB_nat] at hB
   clear e hE hd h35
   by_cases c1 : (s[n]'h0).toNat = 32
   ·simp -implicitDefEqProofs [l176_0, h0, hg, c1, hw]
   ·by_cases c2 : (s[n]'h0).toNat = 9
    ·simp -implicitDefEqProofs [l176_0, h0, hg, c2, hw]
    ·by_cases c3 : (s[n]'h0).toNat = 10
     ·simp -implicitDefEqProofs [l176_0, h0, hg, c3, hw]
     ·have c4 : (s[n]'h0).toNat = 13 := by simpa [c1, c2, c3] using hB
      simp -implicitDefEqProofs [l176_0, h0, hg, c4, hw]
  ·have hB' := hB
   rw [isB_nat] at hB'
   simp only [Bool.or_eq_true, decide_eq_true_eq, not_or] at hB'
   obtain ⟨⟨⟨c1, c2⟩, c3⟩, c4⟩ := hB'
   by_cases h35 : (s[n]'h0) = 35
   ·left
    have c5 : (s[n]'h0).toNat = 35 := by rw [h35]; rfl
    rw [h35, skipC_hash, ← h35, ← hd] at hE
    have hcut := lex_cut (T := T) (s.drop n) (by simp; omega)
    have htw : 0 < (List.takeWhile (· != 10) (s.drop n)).length := by
     rw [hd, List.takeWhile_cons_of_pos (by rw [h35]; decide)]; simp
    have htl : (List.takeWhile (· != 10) (s.drop n)).length ≤ (s.drop n).length := (List.takeWhile_sublist _).length_le
    rw [List.length_drop] at htl
    rw [List.drop_drop] at hE
    obtain ⟨t, ht⟩ : ∃ t, t = List.takeWhile (· != 10) (s.drop n) := ⟨_, rfl⟩
    rw [← ht] at hE hcut htw htl
    have hw2 : IntKind.wrap .i64 ((n : Int) + t.length) = ((n + t.length : Nat) : Int) := wrap_i64 _ (by omega)
    refine ⟨n + t.length, ⟨by omega, by omega⟩, by show s.length - (n + t.length) < s.length - n; omega, ?_, rfl⟩
    clear hE hd ht h35 hB
    simp -implicitDefEqProofs [l176_0, h0, hg, c1, c2, c3, c4, c5, hn, hcut, hw2]
   ·right
    have c5 : ¬ (s[n]'h0).toNat = 35 := fun h => h35 ((u8_eq_iff _ 35 (by decide)).2 h)
    have e : skipC false ((s[n]'h0) :: s.drop (n + 1)) = 0 := by
     have e1 : (if (s[n]'h0) = 35 then true else if (s[n]'h0) = 10 then false else false) = false := by simp [h35]
     simp only [skipC, e1, Bool.false_or, if_neg hB]
    rw [e] at hE
    subst hE
    clear hd e
    rw [if_pos (by omega)]
    constructor <;> simp -implicitDefEqProofs [l176_0, h0, hg, c1, c2, c3, c4, c5]
 ·right
  have : n = s.length := by omega
  subst this
  rw [List.drop_length] at hE
  simp only [skipC, Nat.add_zero] at hE
  subst hE
  rw [if_neg (Nat.lt_irrefl _)]
  constructor <;> simp -implicitDefEqProofs [l176_0]
theorem lex_skip (s : List UInt8) (n : Nat) (hs : s.length ≤ 1000000) (hn : n ≤ s.length) : callF T 176 [.s s, .i .i64 n] = some (.i .i64 (n + skipC false (s.drop n) : Nat)) := by
 have h := skip_loop (T := T) s hs _ n ⟨hn, rfl⟩
 rw [f176 _ rfl, b176]
 obtain ⟨E, hE⟩ : ∃ E, E = n + skipC false (s.drop n) := ⟨_, rfl⟩
 rw [← hE] at h ⊢
 by_cases h0 : E < s.length
 ·rw [if_pos h0] at h
  simp -implicitDefEqProofs [h]
 ·rw [if_neg h0] at h
  simp -implicitDefEqProofs [h]
def wdR (w : Wd) : List AV := [.i .i64 w.1, .s w.2.1, .i .i64 w.2.2]
def rowsW (l : List Wd) : List (List AV) := l.map wdR
@[simp] theorem rowsW_length (l : List Wd) : (rowsW l).length = l.length := by simp [rowsW]
@[simp] theorem rowsW_wk (l : List Wd) : wkL (rowsW l) = rowsW l := by
 induction l with
 | nil => rfl
 | cons x l ih => simpa [rowsW, wdR, wkL, wkR] using ih
@[simp] theorem rowsW_rf (l : List Wd) : ((rowsW l).flatMap fun r => r.flatMap rfA) = [] := by
 induction l with
 | nil => rfl
 | cons x l ih =>
  have e : rowsW (x :: l) = wdR x :: rowsW l := rfl
  rw [e, List.flatMap_cons, ih]
  simp [wdR, rfA]
theorem rowsW_take (l : List Wd) (k a : Nat) (t : List UInt8) : wkL (List.take l.length (rowsW l) ++ [[AV.i .i64 k, .s t, .i .i64 a]]) = rowsW (l ++ [(k, t, a)]) := by
 rw [List.take_of_length_le (by simp), show rowsW l ++ [[AV.i .i64 k, .s t, .i .i64 a]] = rowsW (l ++ [(k, t, a)]) by simp [rowsW, wdR], rowsW_wk]
def stSc (s : List UInt8) (i : Nat) (acc : List Wd) : St :=
 ⟨[(0, .s s), (3, .ptr (.loc 3) 1 4 0 0), (4, .bs (.loc 4) 2 3 0 acc.length), (5, .i .i64 i)], [(.loc 3, ⟨1, .str, 4, [[.i .i64 0, .i .i64 0, .i .i64 0, .i .i64 0]]⟩), (.loc 4, ⟨2, .own, 3, rowsW acc⟩)], 4⟩
def resSc : Except Nat (List Wd) → Option (Ex × St)
 | .ok ws => some (.n, ⟨[(3, .ptr (.loc 3) 1 4 0 0), (4, .bs (.loc 4) 2 3 0 ws.length)], [(.loc 3, ⟨1, .str, 4, [[.i .i64 0, .i .i64 0, .i .i64 0, .i .i64 0]]⟩), (.loc 4, ⟨2, .own, 3, rowsW ws⟩)], 4⟩)
 | .error e => some (.r, ⟨[(2, .sl [] .an), (3, .ptr (.loc 3) 1 4 0 0)], [(.loc 3, ⟨1, .str, 4, [[.i .i64 1, .i .i64 0, .i .i64 0, .i .i64 e]]⟩)], 3⟩)
theorem scan_loop (s : List UInt8) (hs : s.length ≤ 4000) : ∀ y : Nat × List Wd, (y.1 ≤ s.length ∧ y.2.length ≤ y.1) →
  loopN T 0 0 (Gh.norm false [3, 4]) l167_0 (stSc s y.1 y.2) = resSc (scanL (s.drop y.1) y.1 y.2) := by
 refine loopN_eq (fun y : Nat × List Wd => stSc s y.1 y.2) _ (fun y => s.length - y.1) _ ?_
 rintro ⟨i, acc⟩ ⟨hi, ha⟩
 simp only at hi ha ⊢
 by_cases h0 : i < s.length
 ·have hg : s[i]? = some (s[i]'h0) := List.getElem?_eq_getElem h0
  have hd := List.drop_eq_getElem_cons h0
  have hk := lex_kind (T := T) (s[i]'h0)
  obtain ⟨r, hr⟩ : ∃ r, r = s.drop (i + 1) := ⟨_, rfl⟩
  have hrl : r.length = s.length - (i + 1) := by rw [hr]; simp
  rw [← hr] at hd
  have hf := lex_first (T := T) (s[i]'h0) r (by omega) (kindN (s[i]'h0))
  rw [← hd] at hf
  have hm := lex_most (T := T) (kindN (s[i]'h0))
  rw [hd, scanL_cons]
  obtain ⟨k, hk0⟩ : ∃ k, k = kindN (s[i]'h0) := ⟨_, rfl⟩
  rw [← hk0] at hk hf hm ⊢
  by_cases hz : k = 0
  ·right
   rw [if_pos hz]
   subst hz
   clear hd hr
   constructor <;> simp -implicitDefEqProofs [l167_0, stSc, resSc, h0, hg, hk]
  ·rw [if_neg hz]
   have hz' : ¬ (k : Int) = 0 := by omega
   obtain ⟨m, hm0⟩ : ∃ m, m = firstN k r := ⟨_, rfl⟩
   have hm1 : 1 ≤ m ∧ m ≤ r.length + 1 := by
    rw [hm0]; unfold firstN
    have := (List.takeWhile_sublist (moreN k) (l := r)).length_le
    omega
   rw [← hm0] at hf ⊢
   have hq := mostN_pos k
   obtain ⟨q, hq0⟩ : ∃ q, q = mostN k := ⟨_, rfl⟩
   have hq2 : q ≤ 60 := by rw [hq0]; unfold mostN; split <;> (try split) <;> omega
   rw [← hq0] at hm hq ⊢
   by_cases hmm : q < m
   ·right
    rw [if_pos hmm]
    have hw : IntKind.wrap .i64 ((i : Int) + q) = ((i + q : Nat) : Int) := wrap_i64 _ (by omega)
    clear hd hr hm0 hq0 hk0
    constructor <;> simp -implicitDefEqProofs [l167_0, stSc, resSc, h0, hg, hk, hz, hz', hf, hm, hmm, hi, hw]
   ·left
    rw [if_neg hmm]
    have hw : IntKind.wrap .i64 ((i : Int) + m) = ((i + m : Nat) : Int) := wrap_i64 _ (by omega)
    have hsk := lex_skip (T := T) s (i + m) (by omega) (by omega)
    have e1 : s.drop (i + m) = r.drop (m - 1) := by
     rw [hr, List.drop_drop, show i + 1 + (m - 1) = i + m by omega]
    have hsl := skipC_le false (r.drop (m - 1))
    rw [List.length_drop] at hsl
    rw [e1] at hsk
    obtain ⟨x, hx⟩ : ∃ x, x = skipC false (r.drop (m - 1)) := ⟨_, rfl⟩
    rw [← hx] at hsk hsl ⊢
    have e2 : (r.drop (m - 1)).drop x = s.drop (i + m + x) := by rw [← e1, List.drop_drop]
    have e3 : (s.take (i + m)).drop i = ((s[i]'h0) :: r).take m := by
     rw [← hd, List.drop_take, show i + m - i = m by omega]
    refine ⟨(i + m + x, acc ++ [(k, ((s[i]'h0) :: r).take m, i)]), ⟨by simp only; omega, by simp; omega⟩, by simp only; omega, ?_, by simp only [e2]⟩
    rw [← e3]
    have b1 : (i : Int) + m ≤ s.length := by omega
    have b2 : acc.length ≤ 4294967295 := by omega
    have b3 : i ≤ i + m := by omega
    have hrt := rowsW_take acc k i ((s.take (i + m)).drop i)
    clear hd hr hm0 hq0 hk0 e1 e2 e3 hx
    simp only [Int.natCast_add] at hsk
    simp -implicitDefEqProofs [l167_0, stSc, h0, hg, hk, hz, hz', hf, hm, hmm, hi, hw, hsk, b1, b2, b3, hrt]
 ·right
  have : i = s.length := by omega
  subst this
  rw [List.drop_length, scanL_nil]
  constructor <;> simp -implicitDefEqProofs [l167_0, stSc, resSc]
theorem scanL_places : ∀ (n : Nat) (l : List UInt8) (i : Nat) (acc ws : List Wd), l.length = n → scanL l i acc = .ok ws → acc.length ≤ i → ws.length ≤ i + l.length := by
 intro n
 induction n using Nat.strongRecOn with
 | _ n ih =>
  intro l i acc ws hl h ha
  cases l with
  | nil => rw [scanL_nil] at h; cases h; simpa using ha
  | cons c r =>
   rw [scanL_cons] at h
   split at h
   ·cases h
   ·split at h
    ·cases h
    ·have h1 : 1 ≤ firstN (kindN c) r := by unfold firstN; omega
     have := ih _ ?_ _ _ _ _ rfl h (by simp only [List.length_append, List.length_singleton]; omega)
     ·have hs := skipC_le false (r.drop (firstN (kindN c) r - 1))
      have hf : firstN (kindN c) r ≤ r.length + 1 := by
       unfold firstN
       have := (List.takeWhile_sublist (moreN (kindN c)) (l := r)).length_le
       omega
      simp only [List.length_drop, List.length_cons] at this hs ⊢
      omega
     ·simp only [List.length_drop, List.length_cons] at hl ⊢
      omega
def ansScan (r : Except Nat (List Wd)) : AV :=
 match r with
 | .ok ws => .tup [.sl (rowsW ws) .an, .agg [.i .i64 0, .i .i64 0, .i .i64 0, .i .i64 0]]
 | .error e => .tup [.sl [] .an, .agg [.i .i64 1, .i .i64 0, .i .i64 0, .i .i64 e]]
def scanT (s : List UInt8) : Except Nat (List Wd) := if 4000 < s.length then .error 4000 else scanL (s.drop (skipC false s)) (skipC false s) []
theorem lex_scan (s : List UInt8) (hs : s.length ≤ 1000000) : callF T 167 [.s s] = some (ansScan (scanT s)) := by
 have h := lex_skip (T := T) s 0 (by omega) (Nat.zero_le _)
 rw [f167 _ rfl, b167]
 unfold scanT
 by_cases h1 : 4000 < s.length
 ·have h1' : (4000 : Int) < s.length := by omega
  rw [if_pos h1]
  simp -implicitDefEqProofs [ansScan, h1, h1']
 ·have h1' : ¬ (4000 : Int) < s.length := by omega
  rw [if_neg h1]
  have hle := skipC_le false s
  have hl := scan_loop (T := T) s (by omega) (skipC false s, []) ⟨hle, Nat.zero_le _⟩
  unfold stSc at hl
  simp [rowsW] at hl
  simp at h
  cases hc : scanL (s.drop (skipC false s)) (skipC false s) [] with
  | ok ws =>
   have hb := scanL_places _ _ _ _ ws rfl hc (Nat.zero_le _)
   rw [List.length_drop] at hb
   rw [hc] at hl
   simp only [resSc] at hl
   have ht : wkL (List.take ws.length (rowsW ws)) = rowsW ws := by rw [List.take_of_length_le (by simp), rowsW_wk]
   simp -implicitDefEqProofs [h, h1', hl, ansScan, ht]
  | error e =>
   rw [hc] at hl
   simp only [resSc] at hl
   simp -implicitDefEqProofs [h, h1', hl, ansScan]
def rightB (k : Int) (t : List UInt8) : Bool :=
 match t with
 | [] => false
 | c :: r => decide (k ≠ 0) && decide ((kindN c : Int) = k) && decide (firstN (kindN c) r = r.length + 1) && decide (r.length + 1 ≤ mostN (kindN c))
theorem lex_right (k a : Int) (t : List UInt8) (ht : t.length ≤ 100000) : callF T 172 [.agg [.i .i64 k, .s t, .i .i64 a]] = some (.b (rightB k t)) := by
 rw [f172 _ rfl, b172]
 cases t with
 | nil => simp -implicitDefEqProofs [rightB]
 | cons c r =>
  simp only [List.length_cons] at ht
  have hk := lex_kind (T := T) c
  have hf := lex_first (T := T) c r (by omega) (kindN c)
  have hm := lex_most (T := T) (kindN c)
  by_cases h0 : k = 0
  ·simp -implicitDefEqProofs [rightB, h0]
  ·by_cases h1 : (kindN c : Int) = k
   ·subst h1
    have h0' : ¬ kindN c = 0 := by omega
    by_cases h2 : firstN (kindN c) r = r.length + 1
    ·have h2' : ((firstN (kindN c) r : Nat) : Int) = (r.length : Int) + 1 := by omega
     by_cases h3 : r.length + 1 ≤ mostN (kindN c)
     ·have h3' : (r.length : Int) + 1 ≤ (mostN (kindN c) : Nat) := by omega
      simp -implicitDefEqProofs [rightB, h0', hk, hf, hm, h2, h2', h3, h3']
     ·have h3' : ¬ (r.length : Int) + 1 ≤ (mostN (kindN c) : Nat) := by omega
      simp -implicitDefEqProofs [rightB, h0', hk, hf, hm, h2, h2', h3, h3']
    ·have h2' : ¬ ((firstN (kindN c) r : Nat) : Int) = (r.length : Int) + 1 := by omega
     simp -implicitDefEqProofs [rightB, h0', hk, hf, hm, h2, h2']
   ·simp -implicitDefEqProofs [rightB, h0, hk, h1]
abbrev Wz := Int × List UInt8 × Int
def wzR (w : Wz) : List AV := [.i .i64 w.1, .s w.2.1, .i .i64 w.2.2]
def rowsZ (l : List Wz) : List (List AV) := l.map wzR
@[simp] theorem rowsZ_length (l : List Wz) : (rowsZ l).length = l.length := by simp [rowsZ]
@[simp] theorem rowsZ_wk (l : List Wz) : wkL (rowsZ l) = rowsZ l := by
 induction l with
 | nil => rfl
 | cons x l ih => simpa [rowsZ, wzR, wkL, wkR] using ih
@[simp] theorem rowsZ_get (l : List Wz) (i : Nat) : (rowsZ l)[i]? = (l[i]?).map wzR := by simp [rowsZ]
@[simp] theorem rowsZ_get2 (l : List Wz) (i : Nat) (h : i < (rowsZ l).length) : (rowsZ l)[i]'h = wzR (l[i]'(by simpa using h)) := by simp [rowsZ]
theorem lex_join (l : List (List UInt8)) (h : ∀ s ∈ l, s.length ≤ 10000) (hl : l.length ≤ 1000) : callF T 183 [.sl (rowsT l) .an, .s [32]] = some (.s (List.intercalate [32] l)) := by
 rw [p183, prim183_eq l [32] h hl (by decide)]
def stTe (l : List Wz) (i : Nat) (b : BId) : St :=
 ⟨[(3, .bs (.loc 3) 1 1 0 i), (6, .sl (rowsZ l) .an), (7, .i .i64 l.length), (8, .i .i64 i)], [(.loc 3, ⟨1, .own, 1, rowsT ((l.take i).map (·.2.1))⟩)], 3⟩
theorem text_loop (l : List Wz) (hl : l.length ≤ 1000) : ∀ i : Nat, i ≤ l.length →
  loopN T 0 0 (Gh.norm false [3]) l174_0 (stTe l i (.loc 3)) = some (.n, ⟨[(3, .bs (.loc 3) 1 1 0 l.length)], [(.loc 3, ⟨1, .own, 1, rowsT (l.map (·.2.1))⟩)], 3⟩) := by
 refine loopN_eq (fun i : Nat => stTe l i (.loc 3)) _ (fun i => l.length - i) _ ?_
 intro i hi
 by_cases h0 : i < l.length
 ·left
  have hg : l[i]? = some (l[i]'h0) := List.getElem?_eq_getElem h0
  have hw : IntKind.wrap .i64 ((i : Int) + 1) = ((i + 1 : Nat) : Int) := wrap_i64 _ (by omega)
  have hb : i ≤ 4294967295 := by omega
  refine ⟨i + 1, h0, by show l.length - (i + 1) < l.length - i; omega, ?_, rfl⟩
  obtain ⟨w, hw0⟩ : ∃ w, w = l[i]'h0 := ⟨_, rfl⟩
  obtain ⟨m, hm⟩ : ∃ m, m = (l.take i).map (·.2.1) := ⟨_, rfl⟩
  have hml : m.length = i := by rw [hm]; simp; omega
  have e : (l.take (i + 1)).map (·.2.1) = m ++ [w.2.1] := by rw [hm, List.take_succ_eq_append_getElem h0, ← hw0, List.map_append]; rfl
  have ht := rowsT_take m w.2.1
  rw [hml] at ht
  unfold stTe
  rw [e, ← hm]
  clear e hm
  obtain ⟨k, t, a⟩ := w
  have hw1 := hw0.symm
  rw [← hw0] at hg
  clear hw0
  simp -implicitDefEqProofs [l174_0, h0, hg, hw, hb, wzR, ht, hml, hw1]
 ·right
  have : i = l.length := by omega
  subst this
  have e : l.take l.length = l := List.take_of_length_le (Nat.le_refl _)
  unfold stTe
  rw [e]
  constructor <;> simp -implicitDefEqProofs [l174_0]
theorem lex_text (l : List Wz) (hl : l.length ≤ 1000) (h : ∀ w ∈ l, w.2.1.length ≤ 10000) : callF T 174 [.sl (rowsZ l) .an] = some (.s (List.intercalate [32] (l.map (·.2.1)))) := by
 have h1 := text_loop (T := T) l hl 0 (Nat.zero_le _)
 have e0 : stTe l 0 (.loc 3) = ⟨[(3, .bs (.loc 3) 1 1 0 0), (6, .sl (rowsZ l) .an), (7, .i .i64 l.length), (8, .i .i64 0)], [(.loc 3, ⟨1, .own, 1, []⟩)], 3⟩ := by simp [stTe, rowsT]
 rw [e0] at h1
 have h2 := lex_join (T := T) (l.map (·.2.1)) (by intro s hs; obtain ⟨w, hw, rfl⟩ := List.mem_map.1 hs; exact h w hw) (by simpa using hl)
 obtain ⟨ts, hts⟩ : ∃ ts, ts = l.map (·.2.1) := ⟨_, rfl⟩
 have h4 : ts.length = l.length := by rw [hts]; simp
 rw [← hts] at h1 h2 ⊢
 have h3 : List.take l.length (rowsT ts) = rowsT ts := List.take_of_length_le (by simp [h4])
 rw [f174 _ rfl, b174]
 simp -implicitDefEqProofs [h1, h2, h3, h4]
end
end Go.Ab
end

section
namespace Go.Ab
theorem u8_ne {c : UInt8} {n : Nat} (hn : n < 256) (h : c ≠ UInt8.ofNat n) : ¬ c.toNat = n := fun e => h (by
 rw [← UInt8.toNat_inj, e]
 rw [UInt8.toNat_ofNat']
 omega)
section
variable {T : Tbl} [CRef16 T]
theorem ref16_digit (c : UInt8) : callF T 189 [u8 c.toNat] = some (.b (isD c)) := by
 rw [f189 _ rfl, b189]
 by_cases h1 : 48 ≤ c.toNat
 ·simp -implicitDefEqProofs [isD, h1]
 ·simp -implicitDefEqProofs [isD, h1]
theorem ref16_letter (c : UInt8) : callF T 190 [u8 c.toNat] = some (.b (isL c)) := by
 rw [f190 _ rfl, b190]
 by_cases h1 : 97 ≤ c.toNat <;> by_cases h2 : c.toNat ≤ 122 <;> by_cases h3 : 65 ≤ c.toNat <;> by_cases h4 : c.toNat ≤ 90 <;> by_cases h5 : c.toNat = 95 <;>
  simp -implicitDefEqProofs [isL, h1, h2, h3, h4, h5]
end
section
variable {T : Tbl}
theorem kind_loop (c : UInt8) (l : List UInt8) (hl : l.length ≤ 1000) (R : Bool) : ∀ i : Nat, (i ≤ l.length ∧ (l.drop i).contains c = R) →
  loopN T 0 0 (.norm false []) l181_0 ⟨[(0, u8 c.toNat), (3, .s l), (4, .i .i64 i)], [], 2⟩ = if R = true then some (.r, ⟨[(2, .i .i64 3)], [], 2⟩) else some (.n, ⟨[], [], 2⟩) := by
 refine loopN_eq (fun i : Nat => ⟨[(0, u8 c.toNat), (3, .s l), (4, .i .i64 i)], [], 2⟩) _ (fun i => l.length - i) _ ?_
 rintro i ⟨hi, hR⟩
 by_cases h0 : i < l.length
 ·have hg : l[i]? = some (l[i]'h0) := List.getElem?_eq_getElem h0
  have hd := List.drop_eq_getElem_cons h0
  have hw : IntKind.wrap .i64 ((i : Int) + 1) = ((i + 1 : Nat) : Int) := wrap_i64 _ (by omega)
  rw [hd, List.contains_cons] at hR
  by_cases hc : (l[i]'h0).toNat = c.toNat
  ·right
   have : c = l[i]'h0 := (UInt8.toNat_inj.1 hc).symm
   have hR' : R = true := by rw [← hR, this]; simp
   subst hR'
   clear hR hd
   constructor <;> simp -implicitDefEqProofs [l181_0, h0, hg, hc]
  ·left
   have hne : (c == l[i]'h0) = false := by
    rw [beq_eq_false_iff_ne]
    exact fun e => hc (by rw [e])
   rw [hne, Bool.false_or] at hR
   refine ⟨i + 1, ⟨h0, hR⟩, by show l.length - (i + 1) < l.length - i; omega, ?_, rfl⟩
   clear hd hne
   simp -implicitDefEqProofs [l181_0, h0, hg, hc, hw]
 ·right
  have : i = l.length := by omega
  subst this
  rw [List.drop_length] at hR
  subst hR
  constructor <;> simp -implicitDefEqProofs [l181_0]
end
section
variable {T : Tbl} [CRef16 T]
theorem ref16_kind (c : UInt8) : callF T 181 [u8 c.toNat] = some (.i .i64 (kindN c)) := by
 have h1 := ref16_digit (T := T) c
 have h2 := ref16_letter (T := T) c
 have h := kind_loop (T := T) c signB (by decide) _ 0 ⟨by decide, rfl⟩
 rw [List.drop_zero, show signB.contains c = isS c from rfl] at h
 simp only [signB] at h
 simp at h
 rw [f181 _ rfl, b181]
 cases e1 : isD c <;> cases e2 : isL c <;> cases e3 : isS c <;> simp only [e3] at h <;> simp at h <;> simp -implicitDefEqProofs [kindN, h1, h2, h, e1, e2, e3]
theorem ref16_more (k : Nat) (c : UInt8) : callF T 180 [.i .i64 k, u8 c.toNat] = some (.b (moreN k c)) := by
 have h1 := ref16_digit (T := T) c
 have h2 := ref16_letter (T := T) c
 rw [f180 _ rfl, b180]
 by_cases k1 : k = 1
 ·subst k1
  cases e1 : isD c <;> cases e2 : isL c <;> simp -implicitDefEqProofs [moreN, h1, h2, e1, e2]
 ·have k1' : ¬ (k : Int) = 1 := by omega
  by_cases k2 : k = 2
  ·subst k2
   cases e1 : isD c <;> cases e2 : isL c <;> simp -implicitDefEqProofs [moreN, h1, h2, e1, e2]
  ·have k2' : ¬ (k : Int) = 2 := by omega
   simp -implicitDefEqProofs [moreN, h1, h2, k1, k2, k1', k2']
theorem ref16_most (k : Nat) : callF T 182 [.i .i64 k] = some (.i .i64 (mostN k)) := by
 rw [f182 _ rfl, b182]
 by_cases k1 : k = 1
 ·subst k1
  simp -implicitDefEqProofs [mostN]
 ·have k1' : ¬ (k : Int) = 1 := by omega
  by_cases k2 : k = 2
  ·subst k2
   simp -implicitDefEqProofs [mostN]
  ·have k2' : ¬ (k : Int) = 2 := by omega
   simp -implicitDefEqProofs [mostN, k1, k2, k1', k2']
def stRf (s : List UInt8) (i : Nat) (note : Bool) (acc : List Wd) : St :=
 ⟨[(0, .s s), (4, .bs (.loc 4) 1 3 0 acc.length), (5, .b note), (6, .i .i64 i)], [(.loc 4, ⟨1, .own, 3, rowsW acc⟩)], 3⟩
def resRf : Except Nat (List Wd) → Option (Ex × St)
 | .ok ws => some (.n, ⟨[(4, .bs (.loc 4) 1 3 0 ws.length)], [(.loc 4, ⟨1, .own, 3, rowsW ws⟩)], 3⟩)
 | .error e => some (.r, ⟨[(2, .sl [] .an), (3, .i .i64 e)], [], 2⟩)
def EndsBy (acc : List Wd) (i : Nat) : Prop := ∀ k t a, acc.getLast? = some (k, t, a) → a + t.length ≤ i
theorem rf16_skip (s : List UInt8) (hs : s.length ≤ 4000) (i : Nat) (h0 : i < s.length) (note : Bool) (acc : List Wd) (ha : acc.length ≤ i) (c : UInt8) (hc : s[i]'h0 = c)
  (hsk : ((if c = 35 then true else if c = 10 then false else note) || isB c) = true) :
  evX (orc T) T 0 l168_0 (stRf s i note acc) = some (.n, stRf s (i + 1) (if c = 35 then true else if c = 10 then false else note) acc) := by
 have hg : s[i]? = some c := by rw [List.getElem?_eq_getElem h0, hc]
 have hw : IntKind.wrap .i64 ((i : Int) + 1) = ((i + 1 : Nat) : Int) := wrap_i64 _ (by omega)
 rw [isB_nat] at hsk
 have e35 := u8_eq_iff c 35 (by decide)
 have e10 := u8_eq_iff c 10 (by decide)
 rw [show UInt8.ofNat 35 = 35 from rfl] at e35
 rw [show UInt8.ofNat 10 = 10 from rfl] at e10
 simp only [e35, e10] at hsk ⊢
 obtain ⟨n, hn⟩ : ∃ n, n = c.toNat := ⟨_, rfl⟩
 rw [← hn] at hsk ⊢
 have hn' := hn.symm
 clear e35 e10 hn
 by_cases c35 : n = 35
 ·subst c35
  simp -implicitDefEqProofs [l168_0, stRf, h0, hg, hc, hn', hw]
 ·by_cases c10 : n = 10
  ·subst c10
   simp -implicitDefEqProofs [l168_0, stRf, h0, hg, hc, hn', hw]
  ·cases note with
   | true => simp -implicitDefEqProofs [l168_0, stRf, h0, hg, hc, hn', hw, c35, c10]
   | false =>
    by_cases c32 : n = 32
    ·subst c32
     simp -implicitDefEqProofs [l168_0, stRf, h0, hg, hc, hn', hw]
    ·by_cases c9 : n = 9
     ·subst c9
      simp -implicitDefEqProofs [l168_0, stRf, h0, hg, hc, hn', hw]
     ·have c13 : n = 13 := by simpa [c35, c10, c32, c9] using hsk
      subst c13
      simp -implicitDefEqProofs [l168_0, stRf, h0, hg, hc, hn', hw]
theorem rowsW_last (pre : List Wd) (k a : Nat) (t : List UInt8) : (rowsW (pre ++ [(k, t, a)]))[pre.length]? = some [.i .i64 k, .s t, .i .i64 a] := by
 simp [rowsW, wdR]
theorem rf16_new0 (s : List UInt8) (hs : s.length ≤ 4000) (i : Nat) (h0 : i < s.length) (c : UInt8) (hc : s[i]'h0 = c)
  (c35 : ¬ c.toNat = 35) (c10 : ¬ c.toNat = 10) (c32 : ¬ c.toNat = 32) (c9 : ¬ c.toNat = 9) (c13 : ¬ c.toNat = 13) (k : Nat) (hk0 : kindN c = k) (hz : ¬ k = 0) :
  evX (orc T) T 0 l168_0 (stRf s i false []) = some (.n, stRf s (i + 1) false [(k, [c], i)]) := by
 have hg : s[i]? = some c := by rw [List.getElem?_eq_getElem h0, hc]
 have hw : IntKind.wrap .i64 ((i : Int) + 1) = ((i + 1 : Nat) : Int) := wrap_i64 _ (by omega)
 have hk := ref16_kind (T := T) c
 rw [hk0] at hk
 have b1 : (i : Int) + 1 ≤ s.length := by omega
 have b2 : List.drop i (List.take (i + 1) s) = [c] := by
  rw [List.drop_take, Nat.add_sub_cancel_left, List.drop_eq_getElem_cons h0, hc]
  rfl
 have hm := ref16_most (T := T) k
 have hq := mostN_pos k
 have hq' : ¬ ((mostN k : Nat) : Int) < 1 := by omega
 have hz' : ¬ (k : Int) = 0 := by omega
 simp -implicitDefEqProofs [l168_0, stRf, rowsW, wdR, h0, hg, hc, hw, c35, c10, c32, c9, c13, hk, hm, b1, b2, hz, hz', hq, hq']
theorem rf16_new0_bad (s : List UInt8) (hs : s.length ≤ 4000) (i : Nat) (h0 : i < s.length) (c : UInt8) (hc : s[i]'h0 = c)
  (c35 : ¬ c.toNat = 35) (c10 : ¬ c.toNat = 10) (c32 : ¬ c.toNat = 32) (c9 : ¬ c.toNat = 9) (c13 : ¬ c.toNat = 13) (hk0 : kindN c = 0) :
  isEx (evX (orc T) T 0 l168_0 (stRf s i false [])) = true ∧ finX 0 0 (Gh.norm false [4]) (evX (orc T) T 0 l168_0 (stRf s i false [])) = resRf (.error i) := by
 have hg : s[i]? = some c := by rw [List.getElem?_eq_getElem h0, hc]
 have hw : IntKind.wrap .i64 ((i : Int) + 1) = ((i + 1 : Nat) : Int) := wrap_i64 _ (by omega)
 have hk := ref16_kind (T := T) c
 rw [hk0] at hk
 have b1 : (i : Int) + 1 ≤ s.length := by omega
 have b2 : List.drop i (List.take (i + 1) s) = [c] := by
  rw [List.drop_take, Nat.add_sub_cancel_left, List.drop_eq_getElem_cons h0, hc]
  rfl
 constructor <;> simp -implicitDefEqProofs [l168_0, stRf, resRf, rowsW, wdR, h0, hg, hc, hw, c35, c10, c32, c9, c13, hk, b1, b2]
theorem rf16_new1 (s : List UInt8) (hs : s.length ≤ 4000) (i : Nat) (h0 : i < s.length) (c : UInt8) (hc : s[i]'h0 = c)
  (c35 : ¬ c.toNat = 35) (c10 : ¬ c.toNat = 10) (c32 : ¬ c.toNat = 32) (c9 : ¬ c.toNat = 9) (c13 : ¬ c.toNat = 13) (pre : List Wd) (hp : pre.length < i) (k0 a0 : Nat) (t0 : List UInt8) (ht0 : a0 + t0.length ≤ i) (hadj : ¬ (a0 + t0.length = i ∧ moreN k0 c = true)) (k : Nat) (hk0 : kindN c = k) (hz : ¬ k = 0) :
  evX (orc T) T 0 l168_0 (stRf s i false (pre ++ [(k0, t0, a0)])) = some (.n, stRf s (i + 1) false (pre ++ [(k0, t0, a0)] ++ [(k, [c], i)])) := by
 have hg : s[i]? = some c := by rw [List.getElem?_eq_getElem h0, hc]
 have hw : IntKind.wrap .i64 ((i : Int) + 1) = ((i + 1 : Nat) : Int) := wrap_i64 _ (by omega)
 have hwi : IntKind.wrap .i64 (i : Int) = (i : Int) := wrap_i64 _ (by omega)
 have b1 : (i : Int) + 1 ≤ s.length := by omega
 have b2 : List.drop i (List.take (i + 1) s) = [c] := by
  rw [List.drop_take, Nat.add_sub_cancel_left, List.drop_eq_getElem_cons h0, hc]
  rfl
 have hmo := ref16_more (T := T) k0 c
 have hl := rowsW_last pre k0 a0 t0
 have hll : (rowsW (pre ++ [(k0, t0, a0)])).length = pre.length + 1 := by simp
 have hl2 := rowsW_last (pre ++ [(k0, t0, a0)]) k i [c]
 have hll2 : (rowsW (pre ++ [(k0, t0, a0)] ++ [(k, [c], i)])).length = pre.length + 2 := by simp
 have hpu : wkL (List.take (pre.length + 1) (rowsW (pre ++ [(k0, t0, a0)])) ++ [[AV.i .i64 k, .s [c], .i .i64 i]]) = rowsW (pre ++ [(k0, t0, a0)] ++ [(k, [c], i)]) := by
  have := rowsW_take (pre ++ [(k0, t0, a0)]) k i [c]
  rwa [List.length_append, List.length_singleton] at this
 have hwp : IntKind.wrap .i64 (pre.length : Int) = (pre.length : Int) := wrap_i64 _ (by omega)
 have hwp1 : IntKind.wrap .i64 ((pre.length : Int) + 1) = (pre.length : Int) + 1 := wrap_i64 _ (by omega)
 have hlt : (pre.length : Int) < (pre.length : Int) + 1 := by omega
 have hws : IntKind.wrap .i64 ((a0 : Int) + t0.length) = ((a0 : Int) + t0.length) := wrap_i64 _ (by omega)
 have hk := ref16_kind (T := T) c
 rw [hk0] at hk
 have hm := ref16_most (T := T) k
 have hq := mostN_pos k
 have hq' : ¬ ((mostN k : Nat) : Int) < 1 := by omega
 have hz' : ¬ (k : Int) = 0 := by omega
 have hal : (pre ++ [(k0, t0, a0)]).length = pre.length + 1 := by simp
 have hal2 : (pre ++ [(k0, t0, a0)] ++ [(k, [c], i)]).length = pre.length + 2 := by simp
 have hpl : pre.length ≤ 4294967294 := by omega
 unfold stRf
 rw [hal, hal2]
 rw [hal] at hl2
 have g1 := rowsW_wk (pre ++ [(k0, t0, a0)])
 have g2 := rowsW_rf (pre ++ [(k0, t0, a0)])
 have g3 := rowsW_wk (pre ++ [(k0, t0, a0)] ++ [(k, [c], i)])
 have g4 := rowsW_rf (pre ++ [(k0, t0, a0)] ++ [(k, [c], i)])
 generalize rowsW (pre ++ [(k0, t0, a0)] ++ [(k, [c], i)]) = RW2 at *
 generalize rowsW (pre ++ [(k0, t0, a0)]) = RW at *
 generalize pre.length = m at *
 obtain ⟨hx1, hgE⟩ := List.getElem?_eq_some_iff.1 hl
 have hT : List.take (m + 1) RW = RW := List.take_of_length_le (by omega)
 rw [hT] at hpu
 have hl3 : (RW ++ [[AV.i .i64 k, .s [c], .i .i64 i]])[m + 1]? = some [AV.i .i64 k, .s [c], .i .i64 i] := by
  rw [List.getElem?_append_right (by omega), hll, Nat.sub_self]
  rfl
 obtain ⟨hx3, hgE3⟩ := List.getElem?_eq_some_iff.1 hl3
 have hm1 : ((m : Int) + 1).toNat = m + 1 := by omega
 by_cases had : a0 + t0.length = i
 ·have had' : (a0 : Int) + t0.length = i := by omega
  have hmm : moreN k0 c = false := by simpa [had] using hadj
  simp -implicitDefEqProofs [l168_0, h0, hg, hc, hw, hwi, c35, c10, c32, c9, c13, hk, hm, b1, b2, hz, hz', hq, hq', hmo, hl, hll, hT, hl3, hll2, hpu, hm1, hwp, hwp1, hws, hlt, hgE, hgE3, had', hmm, hpl, g1, g2, g3, g4]
 ·have had' : ¬ (a0 : Int) + t0.length = i := by omega
  simp -implicitDefEqProofs [l168_0, h0, hg, hc, hw, hwi, c35, c10, c32, c9, c13, hk, hm, b1, b2, hz, hz', hq, hq', hmo, hl, hll, hT, hl3, hll2, hpu, hm1, hwp, hwp1, hws, hlt, hgE, hgE3, had', hpl, g1, g2, g3, g4]
theorem rf16_new1_bad (s : List UInt8) (hs : s.length ≤ 4000) (i : Nat) (h0 : i < s.length) (c : UInt8) (hc : s[i]'h0 = c)
  (c35 : ¬ c.toNat = 35) (c10 : ¬ c.toNat = 10) (c32 : ¬ c.toNat = 32) (c9 : ¬ c.toNat = 9) (c13 : ¬ c.toNat = 13) (pre : List Wd) (hp : pre.length < i) (k0 a0 : Nat) (t0 : List UInt8) (ht0 : a0 + t0.length ≤ i) (hadj : ¬ (a0 + t0.length = i ∧ moreN k0 c = true)) (hk0 : kindN c = 0) :
  isEx (evX (orc T) T 0 l168_0 (stRf s i false (pre ++ [(k0, t0, a0)]))) = true ∧ finX 0 0 (Gh.norm false [4]) (evX (orc T) T 0 l168_0 (stRf s i false (pre ++ [(k0, t0, a0)]))) = resRf (.error i) := by
 obtain ⟨k, hkk⟩ : ∃ k : Nat, k = 0 := ⟨_, rfl⟩
 rw [← hkk] at hk0
 have hg : s[i]? = some c := by rw [List.getElem?_eq_getElem h0, hc]
 have hw : IntKind.wrap .i64 ((i : Int) + 1) = ((i + 1 : Nat) : Int) := wrap_i64 _ (by omega)
 have hwi : IntKind.wrap .i64 (i : Int) = (i : Int) := wrap_i64 _ (by omega)
 have b1 : (i : Int) + 1 ≤ s.length := by omega
 have b2 : List.drop i (List.take (i + 1) s) = [c] := by
  rw [List.drop_take, Nat.add_sub_cancel_left, List.drop_eq_getElem_cons h0, hc]
  rfl
 have hmo := ref16_more (T := T) k0 c
 have hl := rowsW_last pre k0 a0 t0
 have hll : (rowsW (pre ++ [(k0, t0, a0)])).length = pre.length + 1 := by simp
 have hl2 := rowsW_last (pre ++ [(k0, t0, a0)]) k i [c]
 have hll2 : (rowsW (pre ++ [(k0, t0, a0)] ++ [(k, [c], i)])).length = pre.length + 2 := by simp
 have hpu : wkL (List.take (pre.length + 1) (rowsW (pre ++ [(k0, t0, a0)])) ++ [[AV.i .i64 k, .s [c], .i .i64 i]]) = rowsW (pre ++ [(k0, t0, a0)] ++ [(k, [c], i)]) := by
  have := rowsW_take (pre ++ [(k0, t0, a0)]) k i [c]
  rwa [List.length_append, List.length_singleton] at this
 have hwp : IntKind.wrap .i64 (pre.length : Int) = (pre.length : Int) := wrap_i64 _ (by omega)
 have hwp1 : IntKind.wrap .i64 ((pre.length : Int) + 1) = (pre.length : Int) + 1 := wrap_i64 _ (by omega)
 have hlt : (pre.length : Int) < (pre.length : Int) + 1 := by omega
 have hws : IntKind.wrap .i64 ((a0 : Int) + t0.length) = ((a0 : Int) + t0.length) := wrap_i64 _ (by omega)
 have hk := ref16_kind (T := T) c
 rw [hk0] at hk
 have hm := ref16_most (T := T) k
 have hq := mostN_pos k
 have hz' : (k : Int) = 0 := by omega
 have hal : (pre ++ [(k0, t0, a0)]).length = pre.length + 1 := by simp
 have hal2 : (pre ++ [(k0, t0, a0)] ++ [(k, [c], i)]).length = pre.length + 2 := by simp
 have hpl : pre.length ≤ 4294967294 := by omega
 unfold stRf resRf
 rw [hal]
 rw [hal] at hl2
 have g1 := rowsW_wk (pre ++ [(k0, t0, a0)])
 have g2 := rowsW_rf (pre ++ [(k0, t0, a0)])
 have g3 := rowsW_wk (pre ++ [(k0, t0, a0)] ++ [(k, [c], i)])
 have g4 := rowsW_rf (pre ++ [(k0, t0, a0)] ++ [(k, [c], i)])
 generalize rowsW (pre ++ [(k0, t0, a0)] ++ [(k, [c], i)]) = RW2 at *
 generalize rowsW (pre ++ [(k0, t0, a0)]) = RW at *
 generalize pre.length = m at *
 obtain ⟨hx1, hgE⟩ := List.getElem?_eq_some_iff.1 hl
 have hT : List.take (m + 1) RW = RW := List.take_of_length_le (by omega)
 rw [hT] at hpu
 have hl3 : (RW ++ [[AV.i .i64 k, .s [c], .i .i64 i]])[m + 1]? = some [AV.i .i64 k, .s [c], .i .i64 i] := by
  rw [List.getElem?_append_right (by omega), hll, Nat.sub_self]
  rfl
 obtain ⟨hx3, hgE3⟩ := List.getElem?_eq_some_iff.1 hl3
 have hm1 : ((m : Int) + 1).toNat = m + 1 := by omega
 by_cases had : a0 + t0.length = i
 ·have had' : (a0 : Int) + t0.length = i := by omega
  have hmm : moreN k0 c = false := by simpa [had] using hadj
  constructor <;> simp -implicitDefEqProofs [l168_0, h0, hg, hc, hw, hwi, c35, c10, c32, c9, c13, hk, hm, b1, b2, hz', hmo, hl, hll, hT, hl3, hll2, hpu, hm1, hwp, hwp1, hws, hlt, hgE, hgE3, had', hmm, hpl, g1, g2, g3, g4]
 ·have had' : ¬ (a0 : Int) + t0.length = i := by omega
  constructor <;> simp -implicitDefEqProofs [l168_0, h0, hg, hc, hw, hwi, c35, c10, c32, c9, c13, hk, hm, b1, b2, hz', hmo, hl, hll, hT, hl3, hll2, hpu, hm1, hwp, hwp1, hws, hlt, hgE, hgE3, had', hpl, g1, g2, g3, g4]
theorem rowsW_set (pre : List Wd) (k a : Nat) (t t' : List UInt8) : (rowsW (pre ++ [(k, t, a)])).set pre.length [.i .i64 k, .s t', .i .i64 a] = rowsW (pre ++ [(k, t', a)]) := by
 have e : rowsW (pre ++ [(k, t, a)]) = rowsW pre ++ [wdR (k, t, a)] := by simp [rowsW]
 have e' : rowsW (pre ++ [(k, t', a)]) = rowsW pre ++ [wdR (k, t', a)] := by simp [rowsW]
 rw [e, e', List.set_append_right _ _ (by simp), rowsW_length, Nat.sub_self]
 rfl
theorem rf16_ext (s : List UInt8) (hs : s.length ≤ 4000) (i : Nat) (h0 : i < s.length) (c : UInt8) (hc : s[i]'h0 = c)
  (c35 : ¬ c.toNat = 35) (c10 : ¬ c.toNat = 10) (c32 : ¬ c.toNat = 32) (c9 : ¬ c.toNat = 9) (c13 : ¬ c.toNat = 13) (pre : List Wd) (hp : pre.length < i) (k0 a0 : Nat) (t0 : List UInt8) (had : a0 + t0.length = i) (hmm : moreN k0 c = true) (hz : ¬ k0 = 0) :
  (t0.length + 1 ≤ mostN k0 → evX (orc T) T 0 l168_0 (stRf s i false (pre ++ [(k0, t0, a0)])) = some (.n, stRf s (i + 1) false (pre ++ [(k0, t0 ++ [c], a0)]))) ∧
  (mostN k0 < t0.length + 1 → isEx (evX (orc T) T 0 l168_0 (stRf s i false (pre ++ [(k0, t0, a0)]))) = true ∧ finX 0 0 (Gh.norm false [4]) (evX (orc T) T 0 l168_0 (stRf s i false (pre ++ [(k0, t0, a0)]))) = resRf (.error i)) := by
 have hg : s[i]? = some c := by rw [List.getElem?_eq_getElem h0, hc]
 have hw : IntKind.wrap .i64 ((i : Int) + 1) = ((i + 1 : Nat) : Int) := wrap_i64 _ (by omega)
 have hwi : IntKind.wrap .i64 (i : Int) = (i : Int) := wrap_i64 _ (by omega)
 have b1 : (i : Int) + 1 ≤ s.length := by omega
 have b2 : List.drop i (List.take (i + 1) s) = [c] := by
  rw [List.drop_take, Nat.add_sub_cancel_left, List.drop_eq_getElem_cons h0, hc]
  rfl
 have hmo := ref16_more (T := T) k0 c
 rw [hmm] at hmo
 have hl := rowsW_last pre k0 a0 t0
 have hll : (rowsW (pre ++ [(k0, t0, a0)])).length = pre.length + 1 := by simp
 have hl2 := rowsW_last pre k0 a0 (t0 ++ [c])
 have hll2 : (rowsW (pre ++ [(k0, t0 ++ [c], a0)])).length = pre.length + 1 := by simp
 have hset := rowsW_set pre k0 a0 t0 (t0 ++ [c])
 have hwp : IntKind.wrap .i64 (pre.length : Int) = (pre.length : Int) := wrap_i64 _ (by omega)
 have hlt : (pre.length : Int) < (pre.length : Int) + 1 := by omega
 have had' : (a0 : Int) + t0.length = i := by omega
 have hm := ref16_most (T := T) k0
 have hz' : ¬ (k0 : Int) = 0 := by omega
 have hal : (pre ++ [(k0, t0, a0)]).length = pre.length + 1 := by simp
 have hal2 : (pre ++ [(k0, t0 ++ [c], a0)]).length = pre.length + 1 := by simp
 have hcl : t0.length + 1 ≤ 9223372036854775807 := by omega
 unfold stRf resRf
 rw [hal, hal2]
 have g1 := rowsW_wk (pre ++ [(k0, t0, a0)])
 have g2 := rowsW_rf (pre ++ [(k0, t0, a0)])
 have g3 := rowsW_wk (pre ++ [(k0, t0 ++ [c], a0)])
 have g4 := rowsW_rf (pre ++ [(k0, t0 ++ [c], a0)])
 generalize rowsW (pre ++ [(k0, t0 ++ [c], a0)]) = RW2 at *
 generalize rowsW (pre ++ [(k0, t0, a0)]) = RW at *
 generalize pre.length = m at *
 obtain ⟨hx1, hgE⟩ := List.getElem?_eq_some_iff.1 hl
 obtain ⟨hx2, hgE2⟩ := List.getElem?_eq_some_iff.1 hl2
 refine ⟨fun hq => ?_, fun hq => ?_⟩
 ·have hq1 : ¬ mostN k0 < t0.length + 1 := by omega
  have hq2 : ¬ ((mostN k0 : Nat) : Int) < (t0.length : Int) + 1 := by omega
  simp -implicitDefEqProofs [l168_0, h0, hg, hc, hw, hwi, c35, c10, c32, c9, c13, hm, b1, b2, hz, hz', hmo, hl, hll, hl2, hll2, hset, hwp, hlt, hgE, hgE2, had', hcl, hq1, hq2, g1, g2, g3, g4]
 ·have hq2 : ((mostN k0 : Nat) : Int) < (t0.length : Int) + 1 := by omega
  constructor <;> simp -implicitDefEqProofs [l168_0, h0, hg, hc, hw, hwi, c35, c10, c32, c9, c13, hm, b1, b2, hz, hz', hmo, hl, hll, hl2, hll2, hset, hwp, hlt, hgE, hgE2, had', hcl, hq, hq2, g1, g2, g3, g4]
theorem rf16_loop (s : List UInt8) (hs : s.length ≤ 4000) : ∀ y : Nat × Bool × List Wd, (y.1 ≤ s.length ∧ y.2.2.length ≤ y.1 ∧ (∀ k t a, y.2.2.getLast? = some (k, t, a) → a + t.length ≤ y.1 ∧ ¬ k = 0)) →
  loopN T 0 0 (.norm false [4]) l168_0 (stRf s y.1 y.2.1 y.2.2) = resRf (refL (s.drop y.1) y.1 y.2.1 y.2.2) := by
 refine loopN_eq (fun y : Nat × Bool × List Wd => stRf s y.1 y.2.1 y.2.2) (fun y => y.1 ≤ s.length ∧ y.2.2.length ≤ y.1 ∧ (∀ k t a, y.2.2.getLast? = some (k, t, a) → a + t.length ≤ y.1 ∧ ¬ k = 0)) (fun y => s.length - y.1) (fun y => resRf (refL (s.drop y.1) y.1 y.2.1 y.2.2)) ?_
 rintro ⟨i, note, acc⟩ ⟨hi, ha, he⟩
 simp only at hi ha he ⊢
 by_cases h0 : i < s.length
 ·obtain ⟨c, hc⟩ : ∃ c, s[i]'h0 = c := ⟨_, rfl⟩
  have hd : s.drop i = c :: s.drop (i + 1) := by rw [List.drop_eq_getElem_cons h0, hc]
  by_cases hsk : ((if c = 35 then true else if c = 10 then false else note) || isB c) = true
  ·left
   refine ⟨(i + 1, (if c = 35 then true else if c = 10 then false else note), acc), ⟨h0, by simp only; omega, fun k t a h => by
    have := he k t a h
    simp only
    omega⟩, by simp only; omega, rf16_skip s hs i h0 note acc ha c hc hsk, ?_⟩
   simp only
   rw [hd]
   conv => rhs; unfold refL
   simp only [hsk, if_true]
  ·have hsk' := hsk
   simp only [Bool.or_eq_true, not_or, Bool.not_eq_true] at hsk'
   obtain ⟨h1, h2⟩ := hsk'
   have n35 : c ≠ 35 := fun e => by simp [e] at h1
   have n10 : c ≠ 10 := fun e => by subst e; simp [isB] at h2
   have hnote : note = false := by simpa [n35, n10] using h1
   subst hnote
   have hB : ¬ c = 32 ∧ ¬ c = 9 ∧ ¬ c = 13 := by
    simp only [isB, Bool.or_eq_false_iff, decide_eq_false_iff_not] at h2
    exact ⟨h2.1.1.1, h2.1.1.2, h2.2⟩
   have c35 : ¬ c.toNat = 35 := u8_ne (n := 35) (by decide) n35
   have c10 : ¬ c.toNat = 10 := u8_ne (n := 10) (by decide) n10
   have c32 : ¬ c.toNat = 32 := u8_ne (n := 32) (by decide) hB.1
   have c9 : ¬ c.toNat = 9 := u8_ne (n := 9) (by decide) hB.2.1
   have c13 : ¬ c.toNat = 13 := u8_ne (n := 13) (by decide) hB.2.2
   have hn' : (if c = 35 then true else if c = 10 then false else false) = false := by simp [n35, n10]
   have hR : refL (s.drop i) i false acc = if badWd (stepWd c i acc) = true then .error i else refL (s.drop (i + 1)) (i + 1) false (stepWd c i acc) := by
    rw [hd]
    conv => lhs; unfold refL
    simp only [hn', h2, Bool.or_self, if_false, Bool.false_eq_true]
   rw [hR]
   have hmp := mostN_pos (kindN c)
   rcases List.eq_nil_or_concat acc with rfl | ⟨pre, ⟨k0, t0, a0⟩, rfl⟩
   ·have hs1 : stepWd c i [] = [(kindN c, [c], i)] := rfl
    have hb1 : badWd [(kindN c, [c], i)] = decide (kindN c = 0) := by
     simp [badWd]
     omega
    rw [hs1, hb1]
    by_cases hk : kindN c = 0
    ·right
     rw [decide_eq_true hk, if_pos rfl]
     exact rf16_new0_bad (T := T) s hs i h0 c hc c35 c10 c32 c9 c13 hk
    ·left
     rw [decide_eq_false hk, if_neg (by decide)]
     refine ⟨(i + 1, false, [(kindN c, [c], i)]), ⟨h0, by simp, fun k t a h => by
      simp at h
      obtain ⟨rfl, rfl, rfl⟩ := h
      exact ⟨by simp, hk⟩⟩, by simp only; omega, rf16_new0 (T := T) s hs i h0 c hc c35 c10 c32 c9 c13 (kindN c) rfl hk, rfl⟩
   ·rw [List.concat_eq_append] at he ha ⊢
    obtain ⟨e1, e2⟩ := he k0 t0 a0 (by simp)
    have hp : pre.length < i := by
     simp at ha
     omega
    by_cases hadj : a0 + t0.length = i ∧ moreN k0 c = true
    ·have hs1 : stepWd c i (pre ++ [(k0, t0, a0)]) = pre ++ [(k0, t0 ++ [c], a0)] := by simp [stepWd, hadj.1, hadj.2]
     have hb1 : badWd (pre ++ [(k0, t0 ++ [c], a0)]) = decide (mostN k0 < t0.length + 1) := by simp [badWd, e2]
     rw [hs1, hb1]
     obtain ⟨x1, x2⟩ := rf16_ext (T := T) s hs i h0 c hc c35 c10 c32 c9 c13 pre hp k0 a0 t0 hadj.1 hadj.2 e2
     by_cases hq : mostN k0 < t0.length + 1
     ·right
      rw [decide_eq_true hq, if_pos rfl]
      exact x2 hq
     ·left
      rw [decide_eq_false hq, if_neg (by decide)]
      refine ⟨(i + 1, false, pre ++ [(k0, t0 ++ [c], a0)]), ⟨h0, by simp; omega, fun k t a h => by
       simp at h
       obtain ⟨rfl, rfl, rfl⟩ := h
       refine ⟨?_, e2⟩
       simp
       omega⟩, by simp only; omega, x1 (by omega), rfl⟩
    ·have hs1 : stepWd c i (pre ++ [(k0, t0, a0)]) = pre ++ [(k0, t0, a0)] ++ [(kindN c, [c], i)] := by
      unfold stepWd
      simp only [List.getLast?_append, List.getLast?_singleton, Option.some_or]
      rw [if_neg hadj]
     have hb1 : badWd (pre ++ [(k0, t0, a0)] ++ [(kindN c, [c], i)]) = decide (kindN c = 0) := by
      simp [badWd]
      omega
     rw [hs1, hb1]
     by_cases hk : kindN c = 0
     ·right
      rw [decide_eq_true hk, if_pos rfl]
      exact rf16_new1_bad (T := T) s hs i h0 c hc c35 c10 c32 c9 c13 pre hp k0 a0 t0 e1 hadj hk
     ·left
      rw [decide_eq_false hk, if_neg (by decide)]
      refine ⟨(i + 1, false, pre ++ [(k0, t0, a0)] ++ [(kindN c, [c], i)]), ⟨h0, by simp; omega, fun k t a h => by
       simp only [List.getLast?_append, List.getLast?_singleton, Option.some_or, Option.some.injEq, Prod.mk.injEq] at h
       obtain ⟨rfl, rfl, rfl⟩ := h
       exact ⟨by simp, hk⟩⟩, by simp only; omega, rf16_new1 (T := T) s hs i h0 c hc c35 c10 c32 c9 c13 pre hp k0 a0 t0 e1 hadj (kindN c) rfl hk, rfl⟩
 ·right
  have hi2 : i = s.length := by omega
  subst hi2
  rw [List.drop_length]
  have er : refL [] s.length note acc = .ok acc := rfl
  rw [er]
  simp only [resRf, stRf]
  have g1 := rowsW_wk acc
  have g2 := rowsW_rf acc
  have g3 := rowsW_length acc
  generalize rowsW acc = RW at *
  generalize acc.length = m at *
  constructor <;> simp -implicitDefEqProofs [l168_0, g1, g2]
def ansRef (r : Except Nat (List Wd)) : AV :=
 match r with
 | .ok ws => .tup [.sl (rowsW ws) .an, .i .i64 (-1)]
 | .error e => .tup [.sl [] .an, .i .i64 e]
theorem ref16_scan (s : List UInt8) (hs : s.length ≤ 1000000) : callF T 168 [.s s] = some (ansRef (scanT s)) := by
 rw [f168 _ rfl, b168]
 unfold scanT
 by_cases h1 : 4000 < s.length
 ·have h1' : (4000 : Int) < s.length := by omega
  rw [if_pos h1]
  simp -implicitDefEqProofs [ansRef, h1, h1']
 ·have h1' : ¬ (4000 : Int) < s.length := by omega
  rw [if_neg h1]
  have h := rf16_loop (T := T) s (by omega) (0, false, []) ⟨Nat.zero_le _, Nat.le_refl _, fun k t a h => by simp at h⟩
  simp only [List.drop_zero] at h
  rw [scan_same] at h
  have e0 : rowsW [] = [] := rfl
  simp only [stRf, e0, List.length_nil, Int.natCast_zero] at h
  cases hr : scanL (s.drop (skipC false s)) (skipC false s) [] with
  | ok ws =>
   rw [hr] at h
   simp only [resRf] at h
   have g1 := rowsW_wk ws
   have g2 := rowsW_rf ws
   have g3 := rowsW_length ws
   simp only [ansRef]
   generalize rowsW ws = RW at *
   generalize ws.length = m at *
   have ht : List.take m RW = RW := List.take_of_length_le (by omega)
   simp -implicitDefEqProofs [h1, h1', h, g1, g2, ht, g3]
  | error e =>
   rw [hr] at h
   simp only [resRf] at h
   simp -implicitDefEqProofs [ansRef, h1, h1', h]
end
end Go.Ab
end

section
namespace Go.Ab
def l171_0 : AX :=
 (.note
 (.seq
 (.seq
 (.reg [mv 5 4, mv 6 0, rg 7 (.len (.t 6)), rg 8 (.bin .lss (.t 5) (.t 7))])
 (.cond (.t 8)
 .skip
 (.exit 0)))
 (.seq
 (.block 1
 (.drawT [mv 11 3, mv 12 0, mv 13 4, rg 14 (.iad 3 (.t 12) (.t 13)), rg 15 (.fad 0 (.t 14)), rg 16 (.load none (.t 15)), mv 17 0, mv 18 4,
 rg 19 (.iad 3 (.t 17) (.t 18)), rg 20 (.fad 1 (.t 19)), rg 21 (.load none (.t 20)), mv 22 0, mv 23 4, rg 24 (.iad 3 (.t 22) (.t 23)),
 rg 25 (.fad 2 (.t 24)), rg 26 (.load none (.t 25)),
 rg 27 (.build [(.i .i64 0), (.s []), (.i .i64 0)] [(0, 1, (.t 16)), (1, 1, (.t 21)), (2, 1, (.t 26))]),
 rg 28 (.bsl 3 [(.i .i64 0), (.s []), (.i .i64 0)] 1 [(0, (.t 27))])]
 [rg 29 (.app 3 (.t 11) (.t 28)), mv 3 29]))
 (.reg [mv 9 4, rg 10 (.bin .add (.t 9) (.c (.i .i64 1))), mv 4 10])))
 (.norm false [0, 3, 4]))
def b171 : AX :=
 (.seq
 (.reg [rg 2 (.mov (.c (.sl [] .nl)))])
 (.seq
 (.note (.reg [rg 3 (.mov (.c (.sl [] .nl)))]) (.nil 3 3))
 (.seq
 (.seq
 (.reg [rg 4 (.mov (.c (.i .i64 0)))])
 (.lp 0 (.norm false [0, 3, 4]) l171_0 (.norm false [3])))
 (.seq
 (.reg [mv 30 3, mv 2 30])
 (.pre (.norm false [2]) .ret)))))
def l170_0 : AX :=
 (.note
 (.seq
 (.seq
 (.reg [mv 5 4, mv 6 0, rg 7 (.len (.t 6)), rg 8 (.bin .lss (.t 5) (.t 7))])
 (.cond (.t 8)
 .skip
 (.exit 0)))
 (.seq
 (.block 1
 (.drawT [mv 11 3, mv 12 0, mv 13 4, rg 14 (.iad 3 (.t 12) (.t 13)), rg 15 (.fad 0 (.t 14)), rg 16 (.load none (.t 15)), mv 17 0, mv 18 4,
 rg 19 (.iad 3 (.t 17) (.t 18)), rg 20 (.fad 1 (.t 19)), rg 21 (.load none (.t 20)), mv 22 0, mv 23 4, rg 24 (.iad 3 (.t 22) (.t 23)),
 rg 25 (.fad 2 (.t 24)), rg 26 (.load none (.t 25)),
 rg 27 (.build [(.i .i64 0), (.s []), (.i .i64 0)] [(0, 1, (.t 16)), (1, 1, (.t 21)), (2, 1, (.t 26))]),
 rg 28 (.bsl 3 [(.i .i64 0), (.s []), (.i .i64 0)] 1 [(0, (.t 27))])]
 [rg 29 (.app 3 (.t 11) (.t 28)), mv 3 29]))
 (.reg [mv 9 4, rg 10 (.bin .add (.t 9) (.c (.i .i64 1))), mv 4 10])))
 (.norm false [0, 3, 4]))
def b170 : AX :=
 (.seq
 (.reg [rg 2 (.mov (.c (.sl [] .nl)))])
 (.seq
 (.note (.reg [rg 3 (.mov (.c (.sl [] .nl)))]) (.nil 3 3))
 (.seq
 (.seq
 (.reg [rg 4 (.mov (.c (.i .i64 0)))])
 (.lp 0 (.norm false [0, 3, 4]) l170_0 (.norm false [3])))
 (.seq
 (.reg [mv 30 3, mv 2 30])
 (.pre (.norm false [2]) .ret)))))
def l169_0 : AX :=
 (.note
 (.seq
 (.seq
 (.reg [mv 11 5, mv 12 0, rg 13 (.len (.t 12)), rg 14 (.bin .lss (.t 11) (.t 13))])
 (.cond (.t 14)
 .skip
 (.exit 0)))
 (.seq
 (.block 1
 (.seq
 (.drawT [mv 17 0, mv 18 5, rg 19 (.iad 3 (.t 17) (.t 18)), rg 20 (.load (some 3) (.t 19)), mv 21 1, mv 22 5, rg 23 (.iad 3 (.t 21) (.t 22)),
 rg 24 (.load (some 3) (.t 23))]
 [rg 25 (.eqs true [(0, .int), (1, .str), (2, .int)] (.t 20) (.t 24))])
 (.cond (.t 25)
 (.seq
 (.reg [rg 4 (.mov (.c (.b false)))])
 (.pre (.norm false [4]) .ret))
 .skip)))
 (.reg [mv 15 5, rg 16 (.bin .add (.t 15) (.c (.i .i64 1))), mv 5 16])))
 (.norm false [0, 1, 5]))
def b169 : AX :=
 (.seq
 (.reg [rg 4 (.mov (.c (.b false)))])
 (.seq
 (.seq
 (.reg [mv 6 0, rg 7 (.len (.t 6)), mv 8 1, rg 9 (.len (.t 8)), rg 10 (.bin .neq (.t 7) (.t 9))])
 (.cond (.t 10)
 (.seq
 (.reg [rg 4 (.mov (.c (.b false)))])
 (.pre (.norm false [4]) .ret))
 .skip))
 (.seq
 (.seq
 (.reg [rg 5 (.mov (.c (.i .i64 0)))])
 (.lp 0 (.norm false [0, 1, 5]) l169_0 (.norm false [])))
 (.seq
 (.reg [rg 4 (.mov (.c (.b true)))])
 (.pre (.norm false [4]) .ret)))))
def b166 : AX :=
 (.seq
 (.reg [rg 0 (.mov (.c (.b false)))])
 (.seq
 (.reg [rg 6 (.call 167 [(.c (.s [50, 42, 121, 91, 48, 93, 32, 35, 32, 120]))]), mv 5 6, rg 7 (.ext (.t 5) 0), rg 8 (.ext (.t 5) 1),
 rg 2 (.alloc [(.i .i64 0), (.i .i64 0), (.i .i64 0), (.i .i64 0)]), mv 1 7, so (.store 4 (.t 2) (.t 8))])
 (.seq
 (.reg [rg 10 (.call 167 [(.c (.s [97, 36, 98]))]), mv 9 10, rg 11 (.ext (.t 9) 0), rg 12 (.ext (.t 9) 1),
 rg 4 (.alloc [(.i .i64 0), (.i .i64 0), (.i .i64 0), (.i .i64 0)]), mv 3 11, so (.store 4 (.t 4) (.t 12))])
 (.seq
 (.reg [mv 13 1, rg 14 (.len (.t 13)), rg 15 (.bin .eql (.t 14) (.c (.i .i64 6))), mv 16 15, gd 17 16 true (.mov (.t 1)),
 gd 18 16 true (.iad 3 (.t 17) (.c (.i .i64 2))), gd 19 16 true (.load (some 3) (.t 18)),
 gd 20 16 true (.build [(.i .i64 0), (.s []), (.i .i64 0)] [(0, 1, (.c (.i .i64 2))), (1, 1, (.c (.s [121]))), (2, 1, (.c (.i .i64 2)))]),
 gd 21 16 true (.eqs false [(0, .int), (1, .str), (2, .int)] (.t 19) (.t 20)), rg 22 (.pick (.t 16) (.t 21) (.c (.b false))), mv 23 22,
 gd 24 23 true (.load (some 4) (.t 2)), gd 25 23 true (.build [(.i .i64 0), (.i .i64 0), (.i .i64 0), (.i .i64 0)] []),
 gd 26 23 true (.eqs false [(0, .int), (1, .int), (2, .int), (3, .int)] (.t 24) (.t 25)), rg 27 (.pick (.t 23) (.t 26) (.c (.b false))), mv 28 27,
 gd 29 28 true (.load (some 4) (.t 4)),
 gd 30 28 true (.build [(.i .i64 0), (.i .i64 0), (.i .i64 0), (.i .i64 0)] [(0, 1, (.c (.i .i64 1))), (3, 1, (.c (.i .i64 1)))]),
 gd 31 28 true (.eqs false [(0, .int), (1, .int), (2, .int), (3, .int)] (.t 29) (.t 30)), rg 32 (.pick (.t 28) (.t 31) (.c (.b false))), mv 0 32])
 (.pre (.norm false [0]) .ret)))))
def b164 : AX :=
 (.seq
 (.reg [rg 2 (.mov (.c (.b false)))])
 (.seq
 (.seq
 (.reg [mv 8 0, rg 9 (.lens (.t 8)), rg 10 (.bin .gtr (.t 9) (.c (.i .i64 5000)))])
 (.cond (.t 10)
 (.seq
 (.reg [rg 11 (.call 166 []), mv 2 11])
 (.pre (.norm false [2]) .ret))
 .skip))
 (.seq
 (.reg [mv 13 0, rg 14 (.call 167 [(.t 13)]), mv 12 14, rg 15 (.ext (.t 12) 0), rg 16 (.ext (.t 12) 1),
 rg 4 (.alloc [(.i .i64 0), (.i .i64 0), (.i .i64 0), (.i .i64 0)]), mv 3 15, so (.store 4 (.t 4) (.t 16))])
 (.seq
 (.reg [mv 18 0, rg 19 (.call 168 [(.t 18)]), mv 17 19, rg 20 (.ext (.t 17) 0), rg 21 (.ext (.t 17) 1), mv 5 20, mv 6 21])
 (.seq
 (.reg [rg 22 (.build [(.i .i64 0), (.i .i64 0), (.i .i64 0), (.i .i64 0)] []), rg 7 (.alloc [(.i .i64 0), (.i .i64 0), (.i .i64 0), (.i .i64 0)]),
 so (.store 4 (.t 7) (.t 22))])
 (.seq
 (.seq
 (.reg [mv 23 6, rg 24 (.bin .geq (.t 23) (.c (.i .i64 0)))])
 (.cond (.t 24)
 (.reg [mv 25 6, rg 26 (.build [(.i .i64 0), (.i .i64 0), (.i .i64 0), (.i .i64 0)] [(0, 1, (.c (.i .i64 1))), (3, 1, (.t 25))]), so (.store 4 (.t 7) (.t 26))])
 .skip))
 (.seq
 (.reg [mv 27 3, rg 28 (.call 170 [(.t 27)]), mv 29 5, rg 30 (.call 169 [(.t 28), (.t 29)]), mv 31 30, gd 32 31 true (.load (some 4) (.t 4)),
 gd 33 31 true (.load (some 4) (.t 7)), gd 34 31 true (.eqs false [(0, .int), (1, .int), (2, .int), (3, .int)] (.t 32) (.t 33)),
 rg 35 (.pick (.t 31) (.t 34) (.c (.b false))), mv 36 35, gd 37 36 true (.call 166 []), rg 38 (.pick (.t 36) (.t 37) (.c (.b false))), mv 2 38])
 (.pre (.norm false [2]) .ret))))))))
def l165_0 : AX :=
 (.note
 (.seq
 (.seq
 (.reg [mv 11 4, mv 12 0, rg 13 (.len (.t 12)), rg 14 (.bin .lss (.t 11) (.t 13))])
 (.cond (.t 14)
 .skip
 (.exit 0)))
 (.seq
 (.block 1
 (.seq
 (.seq
 (.reg [mv 17 0, mv 18 4, rg 19 (.iad 3 (.t 17) (.t 18)), rg 20 (.fad 1 (.t 19)), rg 21 (.load none (.t 20)), rg 22 (.lens (.t 21)),
 rg 23 (.bin .gtr (.t 22) (.c (.i .i64 200)))])
 (.cond (.t 23)
 (.seq
 (.reg [rg 24 (.call 166 []), mv 2 24])
 (.pre (.norm false [2]) .ret))
 .skip))
 (.seq
 (.drawT [mv 25 3, mv 26 4, rg 27 (.iad 3 (.t 25) (.t 26)), rg 28 (.load (some 3) (.t 27)), rg 29 (.call 172 [(.t 28)]), mv 30 0, mv 31 4,
 rg 32 (.iad 3 (.t 30) (.t 31)), rg 33 (.load (some 3) (.t 32))]
 [rg 34 (.call 173 [(.t 33)]), rg 35 (.eqb true (.t 29) (.t 34))])
 (.cond (.t 35)
 (.seq
 (.reg [rg 2 (.mov (.c (.b false)))])
 (.pre (.norm false [2]) .ret))
 .skip))))
 (.reg [mv 15 4, rg 16 (.bin .add (.t 15) (.c (.i .i64 1))), mv 4 16])))
 (.norm false [0, 3, 4]))
def b165 : AX :=
 (.seq
 (.reg [rg 2 (.mov (.c (.b false)))])
 (.seq
 (.seq
 (.reg [mv 5 0, rg 6 (.len (.t 5)), rg 7 (.bin .gtr (.t 6) (.c (.i .i64 100)))])
 (.cond (.t 7)
 (.seq
 (.reg [rg 8 (.call 166 []), mv 2 8])
 (.pre (.norm false [2]) .ret))
 .skip))
 (.seq
 (.reg [mv 9 0, rg 10 (.call 171 [(.t 9)]), mv 3 10])
 (.seq
 (.seq
 (.reg [rg 4 (.mov (.c (.i .i64 0)))])
 (.lp 0 (.norm false [0, 3, 4]) l165_0 (.norm false [0, 3])))
 (.seq
 (.reg [mv 36 3, rg 37 (.call 174 [(.t 36)]), mv 38 0, rg 39 (.call 175 [(.t 38)]), rg 40 (.bin .eql (.t 37) (.t 39)), mv 41 40, gd 42 41 true (.call 166 []),
 rg 43 (.pick (.t 41) (.t 42) (.c (.b false))), mv 2 43])
 (.pre (.norm false [2]) .ret))))))
class CLaw16 (T : Tbl) : Prop where
 h171 : T 171 = some ⟨1, 31, [.t 2], b171, none, false⟩
 h170 : T 170 = some ⟨1, 31, [.t 2], b170, none, false⟩
 h169 : T 169 = some ⟨2, 26, [.t 4], b169, none, false⟩
 h166 : T 166 = some ⟨0, 33, [.t 0], b166, none, false⟩
 h164 : T 164 = some ⟨1, 39, [.t 2], b164, none, false⟩
 h165 : T 165 = some ⟨1, 44, [.t 2], b165, none, false⟩
section
variable {T : Tbl} [CLaw16 T] {d : Option Nat} {st : St} {xs : List AV} {ps : List Opd} {e : Env} {h : Heap} {ol : List Heap}
@[simp] theorem x171 : callX (orc T) T 171 xs d st = cP T 171 false xs d st := callX_pure CLaw16.h171
theorem f171 (xs : List AV) (hn : xs.length = 1) : callF T 171 xs = retF [.t 2] false (evX (orc T) T 0 b171 ⟨argEnv xs, [], 1⟩) := callF_eq CLaw16.h171 hn
theorem f169 (xs : List AV) (hn : xs.length = 2) : callF T 169 xs = retF [.t 4] false (evX (orc T) T 0 b169 ⟨argEnv xs, [], 1⟩) := callF_eq CLaw16.h169 hn
@[simp] theorem x166 : callX (orc T) T 166 xs d st = cP T 166 false xs d st := callX_pure CLaw16.h166
theorem f166 (xs : List AV) (hn : xs.length = 0) : callF T 166 xs = retF [.t 0] false (evX (orc T) T 0 b166 ⟨argEnv xs, [], 1⟩) := callF_eq CLaw16.h166 hn
theorem f165 (xs : List AV) (hn : xs.length = 1) : callF T 165 xs = retF [.t 2] false (evX (orc T) T 0 b165 ⟨argEnv xs, [], 1⟩) := callF_eq CLaw16.h165 hn
end
end Go.Ab
end

section
namespace Go.Ab
open Go.RowKit
def opU : AOp → Option Nat
 | .call u _ => some u
 | _ => none
def cXs : AX → List Nat
 | .reg l => l.filterMap fun o => opU o.op
 | .draw l => l.filterMap fun o => opU o.ao.op
 | .drawT hd tl => (hd.filterMap fun o => opU o.op) ++ tl.filterMap fun o => opU o.op
 | .seq a b => cXs a ++ cXs b
 | .cond _ x y => cXs x ++ cXs y
 | .block _ c | .loop c | .note c _ | .pre _ c | .scope c | .lp _ _ c _ => cXs c
 | _ => []
structure Agr (R : Nat → Bool) (T T' : Tbl) (O O' : Orc) : Prop where
 tbl : ∀ u, R u = true → T u = T' u
 call : ∀ u xs hb, R u = true → O.call u xs hb = O'.call u xs hb
 loop : ∀ k c st, (∀ u ∈ cXs c, R u = true) → O.loop k c st = O'.loop k c st
section
variable {R : Nat → Bool} {T T' : Tbl} {O O' : Orc}
theorem callX_agr (h : Agr R T T' O O') {u : Nat} (hu : R u = true) {xs : List AV} {d : Option Nat} {st : St} : callX O T u xs d st = callX O' T' u xs d st := by
 unfold callX
 rw [h.tbl u hu]
 simp only [h.call u _ _ hu]
theorem opX_agr (h : Agr R T T' O O') {op : AOp} (hu : ∀ u, opU op = some u → R u = true) {d : Option Nat} {st : St} : opX O T op d st = opX O' T' op d st := by
 cases op <;> simp only [opX]
 exact callX_agr h (hu _ rfl)
theorem stepX_agr (h : Agr R T T' O O') {o : AO} (hu : ∀ u, opU o.op = some u → R u = true) {st : St} : stepX O T o st = stepX O' T' o st := by
 unfold stepX gX
 simp only [opX_agr h hu]
theorem runX_agr (h : Agr R T T' O O') : ∀ (l : List AO), (∀ o ∈ l, ∀ u, opU o.op = some u → R u = true) → ∀ st, runX O T l st = runX O' T' l st
 | [], _, st => rfl
 | o :: l, hu, st => by
  simp only [runX]
  rw [stepX_agr h (hu o List.mem_cons_self)]
  congr 1
  funext s
  exact runX_agr h l (fun o ho => hu o (List.mem_cons_of_mem _ ho)) s
theorem opD_agr (h : Agr R T T' O O') {op : AOp} (hu : ∀ u, opU op = some u → R u = true) {e : Env} {hp : Heap} {older : List Heap} : opD O T op e hp older = opD O' T' op e hp older := by
 cases op <;> simp only [opD]
 rw [h.tbl _ (hu _ rfl)]
 simp only [h.call _ _ _ (hu _ rfl)]
theorem qX_agr (h : Agr R T T' O O') {o : AO} (hu : ∀ u, opU o.op = some u → R u = true) {e : Env} {hp : Heap} {older : List Heap} : qX O T o e hp older = qX O' T' o e hp older := by
 unfold qX
 simp only [opD_agr h hu]
theorem drawX_agr (h : Agr R T T' O O') : ∀ (l : List DO), (∀ o ∈ l, ∀ u, opU o.ao.op = some u → R u = true) → ∀ e hp clk older pend, drawX O T l e hp clk older pend = drawX O' T' l e hp clk older pend
 | [], _, e, hp, clk, older, pend => rfl
 | o :: l, hu, e, hp, clk, older, pend => by
  have ih := drawX_agr h l (fun o ho => hu o (List.mem_cons_of_mem _ ho))
  simp only [drawX]
  rw [qX_agr h (hu o List.mem_cons_self)]
  simp only [ih]
theorem headX_agr (h : Agr R T T' O O') (tl : List AO) (ht : ∀ o ∈ tl, ∀ u, opU o.op = some u → R u = true) : ∀ (l : List AO), (∀ o ∈ l, ∀ u, opU o.op = some u → R u = true) → ∀ e hp clk, headX O T tl l e hp clk = headX O' T' tl l e hp clk
 | [], _, e, hp, clk => runX_agr h tl ht _
 | o :: l, hu, e, hp, clk => by
  have ih := headX_agr h tl ht l (fun o ho => hu o (List.mem_cons_of_mem _ ho))
  simp only [headX]
  rw [qX_agr h (hu o List.mem_cons_self)]
  simp only [ih]
theorem evX_agr (h : Agr R T T' O O') (k : Nat) : ∀ (c : AX), (∀ u ∈ cXs c, R u = true) → ∀ st, evX O T k c st = evX O' T' k c st
 | .skip, _, st => rfl
 | .reg l, hu, st => by
  simp only [evX]
  rw [runX_agr h l fun o ho u hou => hu u (List.mem_filterMap.2 ⟨o, ho, hou⟩)]
 | .draw l, hu, st => by
  simp only [evX]
  rw [drawX_agr h l fun o ho u hou => hu u (List.mem_filterMap.2 ⟨o, ho, hou⟩)]
 | .drawT hd tl, hu, st => by
  simp only [evX]
  rw [headX_agr h tl (fun o ho u hou => hu u (List.mem_append_right _ (List.mem_filterMap.2 ⟨o, ho, hou⟩))) hd (fun o ho u hou => hu u (List.mem_append_left _ (List.mem_filterMap.2 ⟨o, ho, hou⟩)))]
 | .bad, _, st => rfl
 | .prim f, _, st => rfl
 | .seq a b, hu, st => by
  simp only [evX]
  rw [evX_agr h k a fun u hm => hu u (List.mem_append_left _ hm)]
  congr 1
  funext r
  rw [evX_agr h k b fun u hm => hu u (List.mem_append_right _ hm)]
 | .cond c x y, hu, st => by
  simp only [evX]
  rw [evX_agr h k x fun u hm => hu u (List.mem_append_left _ hm), evX_agr h k y fun u hm => hu u (List.mem_append_right _ hm)]
 | .block id c, hu, st => by
  simp only [evX]
  rw [evX_agr h k c hu]
 | .loop c, hu, st => h.loop k c st hu
 | .exit id, _, st => rfl
 | .ret, _, st => rfl
 | .note c g, hu, st => by
  simp only [evX]
  rw [evX_agr h k c hu]
 | .pre g c, hu, st => by
  simp only [evX]
  congr 1
  funext s
  exact evX_agr h k c hu s
 | .scope c, hu, st => by
  simp only [evX]
  exact evX_agr h k c hu st
 | .lp id g c g2, hu, st => by
  simp only [evX, h.loop k c _ hu]
theorem nextO_agr (hc : ∀ u af, R u = true → T u = some af → ∀ v ∈ cXs af.body, R v = true) (h : Agr R T T' O O') : Agr R T T' (nextO T O) (nextO T' O') where
 tbl := h.tbl
 call u xs hb hu := by
  simp only [nextO]
  rw [← h.tbl u hu]
  cases ht : T u with
  | none => rfl
  | some af =>
   simp only
   rw [evX_agr h hb.length af.body (hc u af hu ht)]
 loop k c st hu := by
  simp only [nextO]
  rw [evX_agr h k c hu]
  congr 1
  funext r
  rw [h.loop k c _ hu]
theorem orcN_agr (ht : ∀ u, R u = true → T u = T' u) (hc : ∀ u af, R u = true → T u = some af → ∀ v ∈ cXs af.body, R v = true) : ∀ n, Agr R T T' (orcN T n) (orcN T' n)
 | 0 => ⟨ht, fun _ _ _ _ => rfl, fun _ _ _ _ => rfl⟩
 | n + 1 => nextO_agr hc (orcN_agr ht hc n)
theorem orc_agr (ht : ∀ u, R u = true → T u = T' u) (hc : ∀ u af, R u = true → T u = some af → ∀ v ∈ cXs af.body, R v = true) : Agr R T T' (orc T) (orc T') := by
 refine ⟨ht, fun u xs hb hu => ?_, fun k c st hu => ?_⟩
 ·simp only [orc]
  congr 1
  funext n
  exact (orcN_agr ht hc n).call u xs hb hu
 ·simp only [orc]
  congr 1
  funext n
  exact (orcN_agr ht hc n).loop k c st hu
end
theorem mem_of_lookup {l : List (Nat × AFx)} {u : Nat} {af : AFx} (h : l.lookup u = some af) : (u, af) ∈ l := by
 induction l with
 | nil => cases h
 | cons q l ih =>
  obtain ⟨q1, q2⟩ := q
  simp only [List.lookup_cons] at h
  split at h
  ·rename_i he
   have := eq_of_beq he
   subst this
   cases h
   exact List.mem_cons_self
  ·exact List.mem_cons_of_mem _ (ih h)
structure Part (l l' : List (Nat × AFx)) : Prop where
 sub : ∀ p ∈ l', l.lookup p.1 = some p.2
 clo : (l'.all fun p => (cXs p.2.body).all fun v => (l'.lookup v).isSome || (l.lookup v).isNone) = true
theorem Part.agr {l l' : List (Nat × AFx)} (h : Part l l') : Agr (fun u => (l'.lookup u).isSome || (l.lookup u).isNone) (fun u => l.lookup u) (fun u => l'.lookup u) (orc fun u => l.lookup u) (orc fun u => l'.lookup u) := by
 refine orc_agr (fun v hv => ?_) (fun v a hv hva w hw => ?_)
 ·cases hv2 : l'.lookup v with
  | none =>
   simp only [hv2] at hv
   cases hv3 : l.lookup v with
   | none => rfl
   | some a => rw [hv3] at hv; cases hv
  | some a => exact h.sub _ (mem_of_lookup hv2)
 ·cases hv2 : l'.lookup v with
  | none => simp only [hv2, hva] at hv; cases hv
  | some b =>
   have hb := mem_of_lookup hv2
   have h1 := h.sub _ hb
   simp only at hva h1
   rw [hva] at h1
   cases h1
   exact List.all_eq_true.1 (List.all_eq_true.1 h.clo _ hb) w hw
theorem Part.ev {l l' : List (Nat × AFx)} (h : Part l l') {c : AX} (hc : ((cXs c).all fun v => (l'.lookup v).isSome) = true) {st : St} {r : Option (Ex × St)}
  (he : evX (orc fun u => l.lookup u) (fun u => l.lookup u) 0 c st = r) : evX (orc fun u => l'.lookup u) (fun u => l'.lookup u) 0 c st = r := by
 rw [← evX_agr h.agr 0 c (fun v hv => by rw [List.all_eq_true.1 hc v hv]; rfl) st]
 exact he
theorem Part.call {l l' : List (Nat × AFx)} (h : Part l l') {u : Nat} (hu : (l'.lookup u).isSome = true) {xs : List AV} {r : Option AV} (he : callF (fun u => l.lookup u) u xs = r) : callF (fun u => l'.lookup u) u xs = r := by
 rw [← he]
 unfold callF
 rw [h.agr.call u xs [] (by rw [hu]; rfl)]
end Go.Ab
end
