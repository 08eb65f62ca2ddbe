/-
  Steps that change nothing in the world but how it is told; and functions.
-/
import Derived.Test.YtoddiifgfjibfaaAb21
namespace Go.Ab
open Go.RowKit

section
variable {cx : Cx} {Q : Exit → St → Prop} {st : St} {c : AC}

/-- An empty list to append to: told as a row of the call's own that has no block yet. -/
theorem AWp.open_nil (t : Nat) (id : BId) (z : Nat) (hx : st.env.get t = .sl [] .nl)
    (h : AWp cx c Q ⟨(t, .bs id st.clk z 0 0) :: st.env, (id, ⟨st.clk, .own, z, []⟩) :: st.heap, st.clk + 1⟩) : AWp cx c Q st := by
  intro code hc hm a w ⟨S, M, hr⟩
  refine h code hc hm a w ⟨S, setM M ((id, ⟨st.clk, .own, z, []⟩) :: st.heap) st.clk none, ?_⟩
  have h1 := hr.set (id := id) (bx' := ⟨st.clk, .own, z, []⟩) (k' := none) (touched := none) (clk' := st.clk + 1) (Nat.le_succ _) (.inl rfl) (fun hlt => absurd hlt (Nat.lt_irrefl _)) (Touch.of_below (Below.refl _ _)) (fun k hk => by cases hk)
    ⟨Nat.lt_succ_self _, fun r hr => by simp at hr, none, setM_self _ _ _ _, rfl, by simp⟩
  refine ⟨h1.size, h1.defers, fun t' => ?_, h1.wr⟩
  have e1 : Env.get ((t, AV.bs id st.clk z 0 0) :: st.env) = upd st.env.get (some t) (.bs id st.clk z 0 0) := get_put st.env (some t) _
  rw [e1]
  simp only [upd]
  split
  · rename_i ht
    subst ht
    have hv := hr.env t'
    rw [hx] at hv
    have hv2 : a.tmps.getD t' undef = .slice none 0 0 := by
      rcases hv.inv_sl.inv_sl with ⟨_, b0, hv, _, hb2⟩ | ⟨_, _, _, _, _, _, hf, _⟩
      · cases b0 with
        | none => exact hv
        | some a => rcases hb2 (by simp) with h1 | h1 <;> cases h1
      · exact absurd rfl hf
    rw [hv2]
    refine .bs _ _ _ _ _ _ (Nat.lt_succ_self _) ?_ rfl
    unfold BsOk
    rw [setM_self]
    exact ⟨rfl, rfl, none, rfl, fun ad h => by cases h⟩
  · exact h1.env t'

/-- A row of the call's own, told as a value: nothing is stored into it any more. -/
theorem AWp.freeze (t : Nat) {y : AV} (hy : frz st.heap (st.env.get t) = some y)
    (h : AWp cx c Q ⟨(t, y) :: st.env, shareIds (refs (st.env.get t)) st.heap, st.clk⟩) : AWp cx c Q st := by
  intro code hc hm a w ⟨S, M, hr⟩
  have hk := frz_kind hy
  refine h code hc hm a w ⟨cellsS st.heap M (refs (st.env.get t)) S, M, ?_⟩
  have h1 := hr.share (refs (st.env.get t)) hk
  refine ⟨h1.size, h1.defers, fun t' => ?_, h1.wr⟩
  have e1 : Env.get ((t, y) :: st.env) = upd st.env.get (some t) y := get_put st.env (some t) _
  rw [e1]
  simp only [upd]
  split
  · rename_i ht
    subst ht
    exact .p (frz_CP hr.wr.heap (hr.env t') hy fun id hid => hid)
  · exact h1.env t'

/-- A box by another name. -/
theorem AWp.rename (b b' : BId) (hb : (st.heap.lookup b').isNone = true ∨ b' = b) (t : Nat) {x y : AV} (hx : st.env.get t = x)
    (hy : (∃ g z i o, x = .ptr b g z i o ∧ y = .ptr b' g z i o) ∨ (∃ g z i o, x = .bs b g z i o ∧ y = .bs b' g z i o))
    {bx : Box} (hbx : st.heap.lookup b = some bx)
    (h : AWp cx c Q ⟨(t, y) :: st.env, (b', bx) :: st.heap.filter (fun p => !(p.1 == b)), st.clk⟩) : AWp cx c Q st := by
  intro code hc hm a w ⟨S, M, hr⟩
  refine h code hc hm a w ⟨S, M, hr.size, hr.defers, fun t' => ?_, ?_⟩
  · have e1 : Env.get ((t, y) :: st.env) = upd st.env.get (some t) y := get_put st.env (some t) _
    rw [e1]
    simp only [upd]
    split
    · rename_i ht
      subst ht
      have hv := hr.env t'
      rw [hx] at hv
      rcases hy with ⟨g, z, i, o, rfl, rfl⟩ | ⟨g, z, i, o, rfl, rfl⟩
      · obtain ⟨h1, h2, h3⟩ := hv.inv_ptr
        exact .ptr _ _ _ _ _ _ h1 h2 h3
      · obtain ⟨h1, h2, h3⟩ := hv.inv_bs
        exact .bs _ _ _ _ _ _ h1 h2 h3
    · exact hr.env t'
  · have look : ∀ (l : Heap) (q : BId), (l.filter (fun p => !(p.1 == b))).lookup q = if q = b then none else l.lookup q := by
      intro l
      induction l with
      | nil => intro q; split <;> rfl
      | cons p l ih =>
        intro q
        obtain ⟨p1, p2⟩ := p
        by_cases hp : p1 = b
        · subst hp
          simp only [List.filter_cons, beq_self_eq_true, Bool.not_true, Bool.false_eq_true, if_false, ih q, List.lookup_cons]
          by_cases hq : q = p1
          · simp [hq]
          · have : (q == p1) = false := by simpa using hq
            simp [this, hq]
        · have : (p1 == b) = false := by simpa using hp
          simp only [List.filter_cons, this, Bool.not_false, if_true, List.lookup_cons, ih q]
          by_cases hq : q = p1
          · subst hq; simp [hp]
          · have : (q == p1) = false := by simpa using hq
            simp [this]
    -- every box under its name
    have to : ∀ q bx', List.lookup q ((b', bx) :: st.heap.filter (fun p => !(p.1 == b))) = some bx' → ∃ q0, st.heap.lookup q0 = some bx' ∧ ((q = b' ∧ q0 = b) ∨ (q ≠ b' ∧ q0 = q ∧ q ≠ b)) := by
      intro q bx' hq
      by_cases h1 : q = b'
      · subst h1
        rw [lookup_cons_self] at hq
        cases hq
        exact ⟨b, hbx, .inl ⟨rfl, rfl⟩⟩
      · rw [lookup_cons_ne _ _ h1, look] at hq
        split at hq
        · cases hq
        · rename_i h2
          exact ⟨q, hq, .inr ⟨h1, rfl, h2⟩⟩
    refine ⟨⟨fun q bx' hq => ?_, fun g m hm => ?_, fun q1 b1 q2 b2 h1 h2 hg => ?_, hr.wr.heap.inj⟩, hr.wr.ext, hr.wr.fr, hr.wr.Snew, hr.wr.Slt, hr.wr.Mnew⟩
    · obtain ⟨q0, h1, _⟩ := to q bx' hq
      exact hr.wr.heap.box q0 bx' h1
    · obtain ⟨q, bx', h1, h2⟩ := hr.wr.heap.live g m hm
      by_cases hqb : q = b
      · subst hqb
        rw [hbx] at h1
        cases h1
        exact ⟨b', bx, lookup_cons_self _ _ _, h2⟩
      · refine ⟨q, bx', ?_, h2⟩
        have hne : q ≠ b' := by
          intro he
          subst he
          rcases hb with hb | hb
          · rw [h1] at hb; cases hb
          · exact hqb hb
        rw [lookup_cons_ne _ _ hne, look, if_neg hqb]
        exact h1
    · obtain ⟨p1, h3, h4⟩ := to q1 b1 h1
      obtain ⟨p2, h5, h6⟩ := to q2 b2 h2
      have := hr.wr.heap.gens _ _ _ _ h3 h5 hg
      subst this
      rcases h4 with ⟨h4, h4'⟩ | ⟨h4, h4', h4''⟩ <;> rcases h6 with ⟨h6, h6'⟩ | ⟨h6, h6', h6''⟩
      · rw [h4, h6]
      · exact absurd (h6'.symm.trans h4') h6''
      · exact absurd (h4'.symm.trans h6') h4''
      · rw [← h4', ← h6']

end

/-! ### functions -/

def resV (st : St) : RV → Option AV
  | .t n => some (st.env.get n)
  | .cell n k => loadAV k st.heap (st.env.get n)

def readRV (tmps : Array Value) : ResultVar → Sem Value
  | .tmp t => pure (tmps.getD t undef)
  | .cell q t => do loadVar t (← asAddr (tmps.getD q undef))

theorem results_eq (fn : Func) (tmps : Array Value) : results fn tmps = (fn.results.mapM (readRV tmps) >>= fun vs => pure (if h : vs.size = 1 then vs[0] else .tuple vs)) := by
  unfold results
  rfl

def resAV (st : St) (rs : List RV) : Option AV :=
  match rs with
  | [r] => resV st r
  | rs => (rs.mapM (resV st)).map .tup

section
variable {P : Program} {cx : Cx} {w : World} {S : Nat → Nat → Prop} {M : Map} {st : St} {a : Act}

theorem run_res {rs : List ResultVar} {ps : List RV} {xs : List AV} (hres : resRes P rs = some ps) (hr : RelF cx S M st.clk st.heap st.env.get a w) (hx : ps.mapM (resV st) = some xs) :
    ∃ vs : List Value, (rs.mapM (readRV a.tmps)).run P w = .ok vs w ∧ vs.length = xs.length ∧ ∀ (j : Nat) (v : Value) (c : AV), vs[j]? = some v → xs[j]? = some c → C w S M st.clk v c := by
  induction rs generalizing ps xs with
  | nil =>
    simp only [resRes, Option.some.injEq] at hres
    subst hres
    simp at hx
    subst hx
    exact ⟨[], rfl, rfl, fun j v c hv => by simp at hv⟩
  | cons r rs ih =>
    have step : ∀ (p : RV) (qs : List RV) (s : Sem Value), ps = p :: qs → resRes P rs = some qs → (∀ x, resV st p = some x → ∃ v, s.run P w = .ok v w ∧ C w S M st.clk v x) →
        ∃ (x : AV) (ys : List AV) (v : Value) (vs : List Value), xs = x :: ys ∧ s.run P w = .ok v w ∧ C w S M st.clk v x ∧ (rs.mapM (readRV a.tmps)).run P w = .ok vs w ∧ vs.length = ys.length ∧ ∀ (j : Nat) (v : Value) (c : AV), vs[j]? = some v → ys[j]? = some c → C w S M st.clk v c := by
      intro p qs s hp hq hs
      subst hp
      simp only [List.mapM_cons, Option.bind_eq_bind, Option.pure_def] at hx
      obtain ⟨x, hx1, hx2⟩ := bind_some hx
      obtain ⟨ys, hx3, hx4⟩ := bind_some hx2
      cases hx4
      obtain ⟨v, h1, h2⟩ := hs x hx1
      obtain ⟨vs, h3, h4, h5⟩ := ih hq hx3
      exact ⟨x, ys, v, vs, rfl, h1, h2, h3, h4, h5⟩
    cases r with
    | tmp t =>
      simp only [resRes] at hres
      obtain ⟨qs, hq, hp⟩ := map_some hres
      obtain ⟨x, ys, v, vs, rfl, h1, h2, h3, h4, h5⟩ := step _ qs (pure (a.tmps.getD t undef)) hp.symm hq (fun x hx => by
        simp only [resV, Option.some.injEq] at hx
        subst hx
        exact ⟨_, rfl, hr.env t⟩)
      refine ⟨v :: vs, ?_, by simp [h4], fun j v' c hv hc => ?_⟩
      · simp only [List.mapM_cons, readRV, Sem.run_bind, h1, Result.andThen_ok, h3, Sem.run_pure]
      · cases j with
        | zero => simp at hv hc; subst hv; subst hc; exact h2
        | succ j => exact h5 j v' c (by simpa using hv) (by simpa using hc)
    | cell q t =>
      simp only [resRes] at hres
      obtain ⟨k, hk, hres1⟩ := bind_some hres
      obtain ⟨qs, hq, hp⟩ := map_some hres1
      obtain ⟨x, ys, v, vs, rfl, h1, h2, h3, h4, h5⟩ := step _ qs (do loadVar t (← asAddr (a.tmps.getD q undef))) hp.symm hq (fun x hx => by
        simp only [resV] at hx
        obtain ⟨v, h1, h2⟩ := sound_load (P := P) hk hr.wr.heap (hr.env q) hx
        refine ⟨v, ?_, h2⟩
        -- the address is one
        unfold Instr.loadAt at h1
        cases hv : a.tmps.getD q undef <;> rw [hv] at h1 <;> try (simp [Instr.sureAddr, stuck] at h1; done)
        rename_i ad
        cases ad with
        | none => simp [Instr.sureAddr, stuck] at h1
        | some ad => simpa [Instr.sureAddr, asAddr] using h1)
      refine ⟨v :: vs, ?_, by simp [h4], fun j v' c hv hc => ?_⟩
      · simp only [Sem.run_bind] at h1
        simp only [List.mapM_cons, readRV, Sem.run_bind, h1, Result.andThen_ok, h3, Sem.run_pure]
      · cases j with
        | zero => simp at hv hc; subst hv; subst hc; exact h2
        | succ j => exact h5 j v' c (by simpa using hv) (by simpa using hc)

theorem run_results {fn : Func} {ps : List RV} {x : AV} (hres : resRes P fn.results.toList = some ps) (hr : RelF cx S M st.clk st.heap st.env.get a w) (hx : resAV st ps = some x) : ∃ v, (results fn a.tmps).run P w = .ok v w ∧ C w S M st.clk v x := by
  have main : ∀ xs, ps.mapM (resV st) = some xs → ∃ vs : Array Value, (fn.results.mapM (readRV a.tmps)).run P w = .ok vs w ∧ vs.size = xs.length ∧ ∀ (j : Nat) (v : Value) (c : AV), vs[j]? = some v → xs[j]? = some c → C w S M st.clk v c := by
    intro xs hxs
    obtain ⟨vs, h1, h2, h3⟩ := run_res hres hr hxs
    refine ⟨vs.toArray, ?_, by simpa using h2, fun j v c hv hc => h3 j v c (by simpa using hv) hc⟩
    rw [Array.mapM_eq_mapM_toList]
    refine (Sem.run_map P w _ _).trans ?_
    rw [h1, Result.andThen_ok]
  unfold resAV at hx
  split at hx
  · rename_i r
    obtain ⟨vs, h1, h2, h3⟩ := main [x] (by simp [hx])
    have hsz : vs.size = 1 := by simpa using h2
    have hv : vs[0]? = some (vs[0]'(by omega)) := Array.getElem?_eq_getElem _
    refine ⟨vs[0]'(by omega), ?_, h3 0 _ x hv rfl⟩
    rw [results_eq]
    simp only [Sem.run_bind, h1, Result.andThen_ok, Sem.run_pure, hsz, dif_pos]
  · rename_i hne
    obtain ⟨xs, hxs, rfl⟩ := map_some hx
    obtain ⟨vs, h1, h2, h3⟩ := main xs hxs
    refine ⟨.tuple vs, ?_, .tup vs xs h2 h3⟩
    have hsz : vs.size ≠ 1 := by
      intro hs
      obtain ⟨hl, _⟩ := mapM_some _ _ hxs
      rw [h2] at hs
      match ps, hl with
      | [], hl => simp at hl; omega
      | [p], hl => exact hne p rfl
      | p :: q :: r, hl => simp at hl; omega
    rw [results_eq]
    simp only [Sem.run_bind, h1, Result.andThen_ok, Sem.run_pure, hsz, dif_neg, not_false_eq_true]

end

/-- What a function's end must show: lent boxes. -/
def exitB (rs : List RV) (post : AV → Heap → Nat → Prop) : Exit → St → Prop :=
  fun ex st => (ex = .normal ∨ ex = .ret) ∧ ∃ r, resAV st rs = some r ∧ post r st.heap st.clk

/-- …and where none is lent. -/
def exitP (rs : List RV) (post : AV → Prop) : Exit → St → Prop :=
  fun ex st => (ex = .normal ∨ ex = .ret) ∧ ∃ r y, resAV st rs = some r ∧ frz st.heap r = some y ∧ post y

def argEnv (args : List AV) : Env := args.zipIdx.map fun p => (p.2, p.1)

theorem argEnv_get (args : List AV) (t : Nat) : (argEnv args).get t = (args[t]?).getD .dead := by
  have key : ∀ (l : List AV) (k t : Nat), ((l.zipIdx k).map fun p => (p.2, p.1)).lookup t = if k ≤ t then l[t - k]? else none := by
    intro l
    induction l with
    | nil => intro k t; simp
    | cons x l ih =>
      intro k t
      simp only [List.zipIdx_cons, List.map_cons, List.lookup_cons]
      by_cases h : t = k
      · subst h; simp
      · have h1 : (t == k) = false := by simpa using h
        rw [h1]
        simp only [ih (k + 1) t]
        by_cases h2 : k ≤ t
        · rw [if_pos h2, if_pos (by omega)]
          rw [show t - k = (t - (k + 1)) + 1 by omega]
          simp
        · rw [if_neg h2, if_neg (by omega)]
  unfold Env.get argEnv
  rw [key args 0 t]
  simp

section
variable {P : Program} {f : FuncId} {af : AF} {args : List AV}

theorem enters_of (hf : resFn P f = some af) : Enters P f := by
  unfold resFn at hf
  split at hf
  · rename_i fn hfn
    split at hf
    · rename_i c hb
      obtain ⟨rs, hrs, hf1⟩ := bind_some hf
      obtain ⟨c', hc', hf2⟩ := bind_some hf1
      split at hf2
      · rename_i hcond
        intro cargs w
        unfold callFunc
        simp only [Sem.run_bind, run_program, Result.andThen_ok, hfn, hcond.2.2, hb]
        simp
      · cases hf2
    · cases hf
  · cases hf

theorem acall_of {hb : Heap} {clk : Nat} {post : AV → Heap → Nat → Prop} (hf : resFn P f = some af) (hm : P.follows .mixedOrders = true) (hn : args.length = af.np)
    (h : ∀ cx : Cx, cx.P = P → cx.nt = af.nt → AWp cx af.body (exitB af.res post) ⟨argEnv args, hb, clk⟩) : ACall P f args hb clk post := by
  refine ⟨enters_of hf, fun w S M cargs hl hC hh hS hM => ?_⟩
  unfold resFn at hf
  split at hf
  · rename_i fn hfn
    split at hf
    · rename_i c hbody
      obtain ⟨rs, hrs, hf1⟩ := bind_some hf
      obtain ⟨c', hc', hf2⟩ := bind_some hf1
      split at hf2 <;> cases hf2
      rename_i hcond
      simp only at h hn
      refine calls_of_wp hfn hbody ?_
      have hwp := h ⟨P, fn.ntmps, w, S, M, clk⟩ rfl rfl c hc' hm { tmps := cargs ++ Array.replicate (fn.ntmps - cargs.size) undef, defers := [] } w ⟨S, M, ?_⟩
      · refine wp_mono hwp fun ex a' w' ⟨st', ⟨hex, r, hres, hpost⟩, hrel⟩ => ?_
        obtain ⟨S', M', hr⟩ := hrel
        obtain ⟨v, hv, hCv⟩ := run_results hrs hr hres
        have hfin : ∃ v r h' S' M' clk', Ending.returned v = .returned v ∧ post r h' clk' ∧ C w' S' M' clk' v r ∧ ∀ nt, WRel ⟨P, nt, w, S, M, clk⟩ S' M' clk' h' w' := ⟨v, r, st'.heap, S', M', st'.clk, rfl, hpost, hCv, fun nt => ⟨hr.wr.heap, hr.wr.ext, hr.wr.fr, hr.wr.Snew, hr.wr.Slt, hr.wr.Mnew⟩⟩
        have hw : ∀ nt, WRel ⟨P, nt, w, S, M, clk⟩ S' M' st'.clk st'.heap w' := fun nt => ⟨hr.wr.heap, hr.wr.ext, hr.wr.fr, hr.wr.Snew, hr.wr.Slt, hr.wr.Mnew⟩
        rcases hex with rfl | rfl
        · exact ⟨hr.defers, v, hv, v, r, st'.heap, S', M', st'.clk, rfl, hpost, hCv, hw⟩
        · exact ⟨hr.defers, v, hv, v, r, st'.heap, S', M', st'.clk, rfl, hpost, hCv, hw⟩
      · refine ⟨by simp; omega, rfl, fun t => ?_, ⟨hh, Ext.refl _ _ _ _, ⟨rfl, rfl, rfl, Nat.le_refl _, fun _ _ _ => rfl⟩, fun k o hs => .inl hs, hS, fun g k hm => ⟨hM g k hm, .inr ⟨g, hm⟩⟩⟩⟩
        rw [argEnv_get]
        cases ha : args[t]? with
        | none => exact .p (.dead _)
        | some x =>
          have htl := get_lt ha
          have hv : cargs[t]? = some (cargs[t]'(by omega)) := Array.getElem?_eq_getElem _
          have e1 : (cargs ++ Array.replicate (fn.ntmps - cargs.size) undef).getD t undef = cargs[t]'(by omega) := by
            simp only [Array.getD_eq_getD_getElem?]
            rw [Array.getElem?_append_left (by omega), hv]
            rfl
          rw [e1]
          exact hC t _ x hv ha
    · cases hf
  · cases hf

theorem pcall_of {post : AV → Prop} (hf : resFn P f = some af) (hm : P.follows .mixedOrders = true) (hn : args.length = af.np)
    (h : ∀ cx : Cx, cx.P = P → cx.nt = af.nt → AWp cx af.body (exitP af.res post) ⟨argEnv args, [], 0⟩) : PCall P f args post := by
  have hA : ACall P f args [] 0 (fun r h _ => ∃ y, frz h r = some y ∧ post y) :=
    acall_of hf hm hn fun cx h1 h2 => (h cx h1 h2).mono fun ex st ⟨h3, r, y, h4, h5, h6⟩ => ⟨h3, r, h4, y, h5, h6⟩
  refine ⟨hA.1, fun w S cargs hl hC hS => ?_⟩
  refine (hA.2 w S (fun _ => none) cargs hl (fun j v c hv hc => .p (hC j v c hv hc)) ⟨fun b bx hb => (by simp at hb), fun g m hm => (by cases hm), fun b bx b' bx' h1 => (by simp at h1), fun g g' k h1 => (by cases h1)⟩ hS (fun g k hm => (by cases hm))).mono ?_
  intro e w' ⟨v, r, h', S', M', clk', he, ⟨y, hy, hpost⟩, hCr, hw⟩
  have hw := hw 0
  refine ⟨v, y, he, hpost, ⟨hw.fr.os, hw.fr.tape, hw.fr.output, hw.fr.size, fun k hk => hw.fr.block k hk fun ⟨g, hg⟩ => (by cases hg)⟩, ?_⟩
  refine (frz_CP hw.heap hCr hy fun id hid => hid).mono (fun k o hs => ?_) fun k o u _ hc => hc
  rcases hs with hs | ⟨id, bx, _, _, hm, _⟩
  · rcases hw.Snew k o hs with h1 | h1 | ⟨g, h1⟩
    · exact .inl h1
    · exact .inr ⟨h1, hw.Slt k o hs⟩
    · cases h1
  · obtain ⟨h1, h2⟩ := hw.Mnew _ k hm
    rcases h2 with h2 | ⟨g, h2⟩
    · exact .inr ⟨h2, h1⟩
    · cases h2

end
end Go.Ab
