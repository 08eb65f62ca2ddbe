/-
  Regions: in the order of the text, or drawn.
-/
import Derived.Test.YtoddiifgfjibfaaAb19
namespace Go.Ab
open Go.RowKit

/-- one operation of a region whose order is drawn; 'older': the boxes as they were, the last ones first -/
def opQ (P : Program) (op : AOp) (d : Option Nat) (e : Env) (h : Heap) (older : List Heap) (K : Env → Prop) : Prop :=
  match op with
  | .call f args => (args.map (ev e.get)).all noRef = true ∧ ∃ r, PCall P f (args.map (ev e.get)) (· = r) ∧ K (putE e d r)
  | .bsl z zs len ps => ((ps.map fun p => (p.1, ev e.get p.2)).all fun p => noRef p.2) = true ∧ okK (bslAV z zs len [] (ps.map fun p => (p.1, ev e.get p.2))) fun q => K (putE e d q.1)
  | op => okK (stepQ op e.get h) fun x => (match op.free with | true => True | false => ∀ h' ∈ older, stepQ op e.get h' = some x) ∧ K (putE e d x)

def qK (P : Program) (o : AO) (e : Env) (h : Heap) (older : List Heap) (K : Env → Prop) : Prop :=
  match o.guard with
  | none => opQ P o.op o.dst e h older K
  | some (t, want) =>
    match e.get t with
    | .b v => if v = want then opQ P o.op o.dst e h older K else K (putE e o.dst (.tup []))
    | .tup [] => K (putE e o.dst (.tup []))
    | _ => False

/-- A region whose order is drawn, in the order of the text. -/
def drawL (P : Program) : List DO → Env → Heap → Nat → List Heap → (St → Prop) → Prop
  | [], e, h, clk, _, K => K ⟨e, h, clk⟩
  | o :: r, e, h, clk, older, K =>
    match o.ao.op.writes with
    | true => o.ao.guard = none ∧ okK (stepW o.ao.op o.ao.dst e.get h clk) fun q => drawL P r (putE e o.ao.dst q.1) q.2.1 q.2.2 (h :: older) K
    | false => qK P o.ao e h (older.take (older.length - o.lo)) fun e' => drawL P r e' h clk older K

def drawK (P : Program) (l : List DO) (st : St) (K : St → Prop) : Prop := drawL P l st.env st.heap st.clk [] K

section
variable {P : Program} {cx : Cx} {w w' : World} {S S' : Nat → Nat → Prop} {M : Map} {clk : Nat} {h : Heap} {ρ : Nat → AV} {a : Act}

theorem resOper_spec {nt : Nat} {ops : Array Oper} {o : Oper} {ao : AO} (hao : resOper P nt ops o = some ao) : ∃ op g, resOp P o.op = some op ∧ resGuard ops o.guard = some g ∧ ao = ⟨o.dst, g, op⟩ ∧ ∀ e, o.dst = some e → e < nt := by
  unfold resOper at hao
  obtain ⟨op, hop, hao1⟩ := bind_some hao
  obtain ⟨g, hg, hao2⟩ := bind_some hao1
  refine ⟨op, g, hop, hg, ?_⟩
  cases hdd : o.dst with
  | none => rw [hdd] at hao2; simp only [Option.some.injEq] at hao2; exact ⟨hao2.symm, fun e he => by cases he⟩
  | some d =>
    rw [hdd] at hao2
    simp only at hao2
    split at hao2 <;> cases hao2
    exact ⟨rfl, fun e he => by cases he; assumption⟩

theorem guard_none {ops : Array Oper} {o : Oper} (hg : resGuard ops o.guard = some none) (a : Act) : Region.wanted o (yielded ops a.tmps) = true := by
  have hgn : o.guard = none := by
    unfold resGuard at hg
    split at hg
    · assumption
    · obtain ⟨d, _, hd⟩ := map_some hg; cases hd
  unfold Region.wanted
  rw [hgn]

theorem guard_b {ops : Array Oper} {o : Oper} {t : Nat} {want v : Bool} {x : AV} (hg : resGuard ops o.guard = some (some (t, want))) (hC : C w S M clk (a.tmps.getD t undef) x) (hx : x = .b v) : Region.wanted o (yielded ops a.tmps) = (v == want) := by
  obtain ⟨j, hgj, hjd⟩ : ∃ j, o.guard = some (j, want) ∧ (ops[j]?).bind (·.dst) = some t := by
    unfold resGuard at hg
    split at hg
    · cases hg
    · rename_i j w0 hgo
      obtain ⟨d, hd, he⟩ := map_some hg
      cases he
      exact ⟨j, hgo, hd⟩
  subst hx
  have hv := hC.inv_b
  unfold Region.wanted
  rw [hgj]
  simp only [yielded, hjd]
  cases hq : a.tmps[t]? with
  | none => simp [hq, undef] at hv
  | some u =>
    simp [hq] at hv
    subst hv
    simp [hq]

theorem guard_tup {ops : Array Oper} {o : Oper} {t : Nat} {want : Bool} {x : AV} {vs : List AV} (hg : resGuard ops o.guard = some (some (t, want))) (hC : C w S M clk (a.tmps.getD t undef) x) (hx : x = .tup vs) : Region.wanted o (yielded ops a.tmps) = false := by
  obtain ⟨j, hgj, hjd⟩ : ∃ j, o.guard = some (j, want) ∧ (ops[j]?).bind (·.dst) = some t := by
    unfold resGuard at hg
    split at hg
    · cases hg
    · rename_i j w0 hgo
      obtain ⟨d, hd, he⟩ := map_some hg
      cases he
      exact ⟨j, hgo, hd⟩
  subst hx
  obtain ⟨us, hv, _⟩ := hC.inv_tup
  unfold Region.wanted
  rw [hgj]
  simp only [yielded, hjd]
  cases hq : a.tmps[t]? with
  | none => simp [hq]
  | some u =>
    simp [hq] at hv
    subst hv
    simp [hq]

theorem C_undef : C w S M clk undef (.tup []) := .p (.tup #[] [] rfl fun j v c hv => by simp at hv)

theorem runK_sound {nt : Nat} {ops : Array Oper} {Q : Exit → Act → World → Prop} (hnt : nt = cx.nt) : ∀ (l : List Oper) (aos : List AO) (st : St) (K : St → Prop) (a : Act) (w : World), resOpers P nt ops l = some aos → runK P aos st K → Rel cx st a w →
    (∀ st' a' w', K st' → Rel cx st' a' w' → Q .normal a' w') → wpList P ops Q l a w
  | [], aos, st, K, a, w, hres, hk, hr, hQ => by
    simp only [resOpers, Option.some.injEq] at hres
    subst hres
    exact hQ st a w hk hr
  | o :: l, aos, st, K, a, w, hres, hk, hr, hQ => by
    simp only [resOpers] at hres
    obtain ⟨ao, hao, hres1⟩ := bind_some hres
    obtain ⟨rest, hrest, rfl⟩ := map_some hres1
    obtain ⟨op, g, hop, hg, rfl, hd⟩ := resOper_spec hao
    subst hnt
    simp only [runK, stepK] at hk
    refine wpList_step fun N hN => ?_
    have next : ∀ st' a' w', runK P rest st' K → Rel cx st' a' w' → N a' w' := fun st' a' w' h1 h2 => hN a' w' (runK_sound rfl l rest st' K a' w' hrest h1 h2 hQ)
    obtain ⟨S, M, hrf⟩ := hr
    have skip : runK P rest ⟨putE st.env o.dst (.tup []), st.heap, st.clk⟩ K → N (a.put o.dst undef) w := fun h1 => next _ _ _ h1 (Rel.put hrf hd C_undef)
    cases g with
    | none =>
      rw [guard_none hg a]
      simp only [if_true]
      exact opK_sound hop hd hrf hk next
    | some tw =>
      obtain ⟨t, want⟩ := tw
      simp only at hk
      have hC := hrf.env t
      split at hk
      · rename_i v hv
        rw [guard_b hg hC hv]
        by_cases hvw : v = want
        · rw [if_pos hvw] at hk
          simp only [hvw, beq_self_eq_true, if_true]
          exact opK_sound hop hd hrf hk next
        · rw [if_neg hvw] at hk
          have : (v == want) = false := by simpa using hvw
          rw [this]
          exact skip hk
      · rename_i vs hv
        rw [guard_tup hg hC hv]
        exact skip hk
      · exact hk.elim

/-! ### drawn -/

/-- An operation that leaves the boxes alone, its value by QF. -/
theorem wpOp_of_QF {nt : Nat} {ops : Array Oper} {Q' : Exit → Act → World → Prop} {i : Nat} {o : Oper} {ao : AO} {x : AV} {K : Act → World → Prop} (ho : ops[i]? = some o) (hnt : nt = cx.nt)
    (hao : resOper P nt ops o = some ao) (hq : QF P h ao ρ x) (hr : RelR cx clk h ρ a w) (hK : ∀ a' w', RelR cx clk h (upd ρ o.dst x) a' w' → K a' w') : wpOp P ops Q' i K a w := by
  subst hnt
  obtain ⟨S, M, hr⟩ := hr
  obtain ⟨op, g, hop, hg, rfl, hd⟩ := resOper_spec hao
  unfold wpOp
  simp only [ho]
  have skip : x = .tup [] → Region.wanted o (yielded ops a.tmps) = false → if Region.wanted o (yielded ops a.tmps) = true then o.wp P a w K Q' ∨ o.asks P a w ∧ LetsOut Q' else K (a.put o.dst undef) w := by
    intro hx hw
    rw [hw]
    simp only [Bool.false_eq_true, if_false]
    subst hx
    exact hK _ _ ⟨S, M, hr.put hd C_undef⟩
  have run : Region.wanted o (yielded ops a.tmps) = true → QOp P op ρ h x → if Region.wanted o (yielded ops a.tmps) = true then o.wp P a w K Q' ∨ o.asks P a w ∧ LetsOut Q' else K (a.put o.dst undef) w := by
    intro hw hqo
    rw [hw]
    simp only [if_true]
    refine .inl ?_
    have quiet : stepQ op ρ h = some x → o.wp P a w K Q' := by
      intro hs
      obtain ⟨v, hv, hC⟩ := stepQ_sound (P := P) hop hr.env hr.wr.heap hs
      exact upon_of hv (hK _ _ ⟨S, M, hr.put hd hC⟩)
    cases op with
    | call f args =>
      obtain ⟨hn, hent1, hp⟩ := hqo
      obtain ⟨dst, oop, type, pos, after, guard⟩ := o
      simp only at hop hK hd
      obtain ⟨cargs, ats, hcall, hl⟩ := resOp_call hop
      subst hcall
      obtain ⟨h1, h2⟩ := args_of hr.env hl hn
      have hc := hp w S (cargs.map a.eval) (by simpa using h1) (fun j v c hv hc => h2 j v c (by simpa using hv) hc) hr.wr.Slt
      unfold Oper.wp
      have hrun : (execOp a.eval { dst := dst, op := .call { callee := .value (.func f), args := cargs, argTypes := ats }, type := type, pos := pos, after := after, guard := guard }).run P w = .ok (.enter f (cargs.map a.eval)) w := by
        simp only [execOp, resolve, Act.eval, Deferred.ofValue, Sem.run_bind, Sem.run_pure, Result.andThen_ok, invoke]
        have := hent1 (cargs.map a.eval) w
        simpa using this
      rw [hrun, Oper.upon_enter]
      refine hc.mono fun e w' ⟨v, r, he, hpr, hb, hC⟩ => ?_
      subst he
      subst hpr
      exact hK _ _ ⟨_, M, (hr.below hb).put hd (.p hC)⟩
    | bsl z zs len ps =>
      obtain ⟨hn, h0, hb⟩ := hqo
      obtain ⟨dst, oop, type, pos, after, guard⟩ := o
      simp only at hop hK hd
      obtain ⟨t, parts, e, ht, hz, hlim, hzs, hzl, hps, rfl⟩ : ∃ t parts e, P.underlying t = some (.slice e) ∧ sizeT P e = some z ∧ (len * z ≤ 16777216 ∧ z ≠ 0) ∧ zeros P e = some zs ∧ zs.length = z ∧ resPartsS parts.toList = some ps ∧ oop = .buildSlice t len parts := by
        cases oop <;> simp only [resOp] at hop
        case buildSlice t len' parts =>
          split at hop
          · rename_i e ht
            obtain ⟨z', hz, hop1⟩ := bind_some hop
            split at hop1
            · rename_i hlim
              obtain ⟨zs', hzs, hop2⟩ := bind_some hop1
              split at hop2
              · rename_i hzl
                obtain ⟨ps', hps, he⟩ := map_some hop2
                cases he
                exact ⟨t, parts, e, ht, hz, hlim, hzs, hzl, hps, rfl⟩
              · cases hop2
            · cases hop1
          · cases hop
        case call c => exact absurd (call_makes hop) (by simp [AOp.makes])
        all_goals
          exfalso
          revert hop
          repeat' split
          all_goals simp [Option.bind_eq_some_iff]
      obtain ⟨h1, h2⟩ := resPartsS_C hr.env _ _ hps
      -- parts without boxes are the same, whatever boxes there are
      have pure1 : ∀ x : AV, noRef x = true → frz1 h x = frz1 [] x ∧ refs x = [] := by
        intro x hx
        have hc : ∀ c : AV, pureC c = true → frzC h c = frzC [] c := by intro c hc; cases c <;> first | rfl | cases hc
        cases x <;> try (exact ⟨rfl, rfl⟩)
        case agg cs =>
          simp only [noRef, List.all_eq_true] at hx
          refine ⟨?_, ?_⟩
          · simp only [frz1]
            have : cs.mapM (frzC h) = cs.mapM (frzC []) := by
              clear hb h2 h1 hps hn hop hK
              induction cs with
              | nil => rfl
              | cons c cs ih => simp only [List.mapM_cons, hc c (hx c (by simp)), ih fun d hd => hx d (by simp [hd])]
            rw [this]
          · simp only [refs, List.flatMap_eq_nil_iff]
            intro c hcm
            have := hx c hcm
            cases c <;> first | rfl | cases this
        all_goals cases hx
      have hq : ∀ qs : List (Nat × AV), (qs.all fun p => noRef p.2) = true → frzP h qs = frzP [] qs ∧ (qs.flatMap fun p => refs p.2) = [] := by
        intro qs
        induction qs with
        | nil => intro _; exact ⟨rfl, rfl⟩
        | cons q qs ih =>
          intro hall
          obtain ⟨i, y⟩ := q
          simp only [List.all_cons, Bool.and_eq_true] at hall
          obtain ⟨e1, e2⟩ := ih hall.2
          obtain ⟨e3, e4⟩ := pure1 y hall.1
          exact ⟨by simp only [frzP, e1, e3], by simp only [List.flatMap_cons, e4, e2, List.append_nil]⟩
      obtain ⟨e1, e2⟩ := hq _ hn
      have hb' : bslAV z zs len h (ps.map fun p => (p.1, ev ρ p.2)) = some (x, h) := by
        unfold bslAV at hb ⊢
        rw [e1, e2]
        obtain ⟨qs, hqs, hb1⟩ := bind_some hb
        obtain ⟨els, hels, he⟩ := map_some hb1
        cases he
        simp only [hqs, Option.bind_some, hels, Option.map_some, shareIds]
      have e3 : ∀ ρ : Operand → Value, (Array.map (fun (x : Nat × Operand) => (x.fst, ρ x.snd)) parts).toList = parts.toList.map fun p => (p.1, ρ p.2) := by intro ρ; simp
      obtain ⟨v', w', S', M', h3, h4, h5⟩ := sound_bsl (parts := Array.map (fun (x : Nat × Operand) => (x.fst, a.eval x.snd)) parts) hr ht hz hlim.1 hlim.2 hzs hzl (by rw [e3]; exact h1) (fun j v x hv hx => h2 j v x (by rw [e3] at hv; exact hv) hx) hb'
      exact upon_of (w' := w') (run_val2 h3) (hK _ _ ⟨S', M', h4.put hd h5⟩)
    | _ => exact quiet hqo
  unfold QF at hq
  cases g with
  | none => exact run (guard_none hg a) hq
  | some tw =>
    obtain ⟨t, want⟩ := tw
    simp only at hq
    rcases hq with ⟨hb, hqo⟩ | ⟨hb, hx⟩
    · exact run (by rw [guard_b hg (hr.env t) hb]; simp) hqo
    · refine skip hx ?_
      rcases hb with hb | hb
      · rw [guard_b hg (hr.env t) hb]; cases want <;> rfl
      · exact guard_tup hg (hr.env t) hb

end
end Go.Ab
