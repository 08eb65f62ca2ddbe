/-
  Regions, code, functions: what the abstract run comes to, the model's comes to.
-/
import Derived.Test.YtoddiifgfjibfaaAb18
namespace Go.Ab
open Go.RowKit

section
variable {P : Program} {cx : Cx} {w w' : World} {S S' : Nat → Nat → Prop} {M : Map} {clk : Nat} {h : Heap} {ρ : Nat → AV} {a : Act}

theorem resPartsS_C (he : EnvOk w S M clk ρ a) : ∀ (l : List (Nat × Operand)) (ps : List (Nat × Opd)), resPartsS l = some ps →
    (l.map fun p => (p.1, a.eval p.2)).map (·.1) = (ps.map fun p => (p.1, ev ρ p.2)).map (·.1) ∧
    ∀ (j : Nat) v x, (l.map fun p => (p.1, a.eval p.2))[j]? = some v → (ps.map fun p => (p.1, ev ρ p.2))[j]? = some x → C w S M clk v.2 x.2
  | [], ps, hr => by simp only [resPartsS, Option.some.injEq] at hr; subst hr; exact ⟨rfl, fun j v x hv => by simp at hv⟩
  | (i, x) :: l, ps, hr => by
    simp only [resPartsS] at hr
    obtain ⟨p, hp, hr2⟩ := bind_some hr
    obtain ⟨qs, hq, rfl⟩ := map_some hr2
    obtain ⟨h1, h2⟩ := resPartsS_C he l qs hq
    refine ⟨by simpa using h1, fun j v y hv hy => ?_⟩
    cases j with
    | zero => simp at hv hy; subst hv; subst hy; exact ev_C he hp
    | succ j => exact h2 j v y (by simpa using hv) (by simpa using hy)

theorem upon_of {o : Oper} {next : Act → World → Prop} {Q : Exit → Act → World → Prop} {v : Value} (hrun : (execOp a.eval o).run P w = .ok (.value v) w') (hn : next (a.put o.dst v) w') : o.wp P a w next Q := by
  unfold Oper.wp
  rw [hrun, Oper.upon_value]
  exact hn

theorem run_val2 {s : Sem Value} {v : Value} (hs : s.run P w = .ok v w') : (do pure (Next.value (← s)) : Sem Next).run P w = .ok (.value v) w' := by
  simp [hs, Result.andThen]

/-- alloc, store, make, literals: no calls -/
def AOp.makes : AOp → Bool
  | .alloc .. | .store .. | .mks .. | .bsl .. => true
  | _ => false

theorem call_makes {c : Call} {op : AOp} (hop : resOp P (.call c) = some op) : op.makes = false := by
  obtain ⟨callee, args, ats⟩ := c
  cases callee with
  | invoke r m => cases hop
  | builtin b =>
    simp only [resOp] at hop
    revert hop
    repeat' split
    all_goals (intro hop; simp [Option.bind_eq_some_iff] at hop)
    all_goals first
      | (obtain ⟨_, _, rfl⟩ := hop; rfl)
      | (subst hop; rfl)
      | (obtain ⟨_, _, _, rfl⟩ := hop; rfl)
      | (obtain ⟨_, _, _, _, rfl⟩ := hop; rfl)
      | (obtain ⟨_, _, _, _, _, _, rfl⟩ := hop; rfl)
      | (obtain ⟨_, _, _, _, _, rfl⟩ := hop; rfl)
      | (obtain ⟨_, _, _, _, _, _, _, rfl⟩ := hop; rfl)
  | value fv =>
    cases fv <;> simp only [resOp] at hop <;> try (cases hop; done)
    obtain ⟨l, hl, rfl⟩ := map_some hop
    rfl

theorem stepW_sound {o : Oper} {op : AOp} {x : AV} {h' : Heap} {clk' : Nat} (hop : resOp P o.op = some op) (hr : RelF cx S M clk h ρ a w) (hs : stepW op o.dst ρ h clk = some (x, h', clk')) :
    ∃ v w' S' M', ((execOp a.eval o).run P w = .ok (.value v) w' ∨ ((execOp a.eval o).run P w = .ok .skip w' ∧ v = undef)) ∧ RelF cx S' M' clk' h' ρ a w' ∧ C w' S' M' clk' v x := by
  obtain ⟨dst, oop, type, pos, after, guard⟩ := o
  simp only at hop hs
  cases op <;> simp only [stepW] at hs <;> try (cases hs; done)
  case alloc zs =>
    obtain ⟨t, hz, rfl⟩ : ∃ t, zeros P t = some zs ∧ oop = .alloc t := by
      cases oop <;> (try simp only [resOp] at hop)
      case alloc t =>
        obtain ⟨zs', hz, he⟩ := map_some hop
        cases he
        exact ⟨t, hz, rfl⟩
      case call c => exact absurd (call_makes hop) (by simp [AOp.makes])
      all_goals
        exfalso
        revert hop
        repeat' split
        all_goals simp [Option.bind_eq_some_iff]
    obtain ⟨v', w', S', M', h1, h2, h3⟩ := sound_alloc hr hz hs
    exact ⟨v', w', S', M', .inl (run_val2 h1), h2, h3⟩
  case store n px pv =>
    obtain ⟨t, y, v, hsz, hp, hq, rfl⟩ : ∃ t y v, sizeT P t = some n ∧ resOpd y = some px ∧ resOpd v = some pv ∧ oop = .store t y v := by
      cases oop <;> (try simp only [resOp] at hop)
      case store t y v =>
        obtain ⟨n', hn, hop1⟩ := bind_some hop
        obtain ⟨p, hp, hop2⟩ := bind_some hop1
        obtain ⟨q, hq, he⟩ := map_some hop2
        cases he
        exact ⟨t, y, v, hn, hp, hq, rfl⟩
      case call c => exact absurd (call_makes hop) (by simp [AOp.makes])
      all_goals
        exfalso
        revert hop
        repeat' split
        all_goals simp [Option.bind_eq_some_iff]
    obtain ⟨h1', hs1, he⟩ := map_some hs
    cases he
    obtain ⟨w', S', M', h1, h2⟩ := sound_store hr hsz (ev_C hr.env hp) (ev_C hr.env hq) hs1
    refine ⟨undef, w', S', M', .inr ⟨?_, rfl⟩, h2, .p (.tup #[] [] rfl fun j v c hv => by simp at hv)⟩
    simp only [execOp, Sem.run_bind, h1, Result.andThen_ok, Sem.run_pure]
  case mks z zs pl pc =>
    obtain ⟨t, l, c, e, inf, ht, hi, hby, hzs, hzl, hp, hq, hz, rfl⟩ : ∃ t l c e inf, P.underlying t = some (.slice e) ∧ P.info? e = some inf ∧ inf.bytes ≤ 32768 ∧ zeros P e = some zs ∧ zs.length = inf.size ∧ resOpd l = some pl ∧ resOpd c = some pc ∧ inf.size = z ∧ oop = .makeSlice t l c := by
      cases oop <;> (try simp only [resOp] at hop)
      case makeSlice t l c =>
        split at hop
        · rename_i e ht
          split at hop
          · rename_i inf hi
            split at hop
            · rename_i hcond
              obtain ⟨zs', hzs, hop1⟩ := bind_some hop
              split at hop1
              · rename_i hzl
                obtain ⟨p, hp, hop2⟩ := bind_some hop1
                obtain ⟨q, hq, he⟩ := map_some hop2
                cases he
                exact ⟨t, l, c, e, inf, ht, hi, hcond.2, hzs, hzl, hp, hq, rfl, rfl⟩
              · cases hop1
            · cases hop
          · cases hop
        · cases hop
      case call c => exact absurd (call_makes hop) (by simp [AOp.makes])
      all_goals
        exfalso
        revert hop
        repeat' split
        all_goals simp [Option.bind_eq_some_iff]
    subst hz
    obtain ⟨v', w', S', M', h1, h2, h3⟩ := sound_mks hr ht hi hby hzs hzl (ev_C hr.env hp) (ev_C hr.env hq) hs
    exact ⟨v', w', S', M', .inl (run_val2 h1), h2, h3⟩
  case app z px py =>
    cases oop <;> simp only [resOp] at hop
    case call c =>
      obtain ⟨callee, cargs, ats⟩ := c
      cases callee with
      | invoke r m => cases hop
      | value fv =>
        cases fv <;> simp only at hop <;> try (cases hop; done)
        obtain ⟨l, hl, he⟩ := map_some hop
        cases he
      | builtin b =>
        simp only at hop
        split at hop
        · exfalso
          revert hop
          repeat' split
          all_goals simp
        · obtain ⟨l, _, hop1⟩ := bind_some hop; split at hop1 <;> cases hop1
        · obtain ⟨l, _, hop1⟩ := bind_some hop; split at hop1 <;> cases hop1
        · rename_i y1 y2 t u hargs hts
          split at hop
          · rename_i htu
            subst htu
            split at hop
            · rename_i e ht
              split at hop
              · rename_i inf hi
                split at hop
                · rename_i hcond
                  obtain ⟨h0, hby, hzs⟩ := hcond
                  obtain ⟨p, hp, hop1⟩ := bind_some hop
                  obtain ⟨q, hq, he⟩ := map_some hop1
                  cases he
                  obtain ⟨zv, hzv, hzc⟩ : ∃ zv, inf.zero = some zv ∧ zv.cells.size = inf.size := by
                    cases hzz : inf.zero with
                    | none => rw [hzz] at hzs; cases hzs
                    | some zv => rw [hzz] at hzs; exact ⟨zv, rfl, by simpa using hzs⟩
                  obtain ⟨v', w', S', M', h1, h2, h3⟩ := sound_app (P := P) (ty := type) hr ht hi h0 hby hzv hzc rfl (ev_C hr.env hp) (ev_C hr.env hq) hs
                  have ha : cargs = #[y1, y2] := by rw [← Array.toArray_toList (xs := cargs), hargs]
                  have hat : ats = #[t, t] := by rw [← Array.toArray_toList (xs := ats), hts]
                  subst ha
                  subst hat
                  exact ⟨v', w', S', M', .inl (by simp [execOp, resolve, invoke, builtin, h1]), h2, h3⟩
                · cases hop
              · cases hop
            · cases hop
          · cases hop
        · split at hop
          · split at hop
            · obtain ⟨z, _, hop0⟩ := bind_some hop
              split at hop0
              · obtain ⟨p, _, hop1⟩ := bind_some hop0
                obtain ⟨q, _, he⟩ := map_some hop1
                cases he
              · cases hop0
            · cases hop
          · cases hop
        · cases hop
    all_goals
      exfalso
      revert hop
      repeat' split
      all_goals simp [Option.bind_eq_some_iff]

theorem opK_sound {st : St} {o : Oper} {op : AOp} {K : St → Prop} {next : Act → World → Prop} {Q : Exit → Act → World → Prop} (hop : resOp P o.op = some op) (hd : ∀ e, o.dst = some e → e < cx.nt)
    (hr : RelF cx S M st.clk st.heap st.env.get a w) (hk : opK P op o.dst st K) (hn : ∀ st' a' w', K st' → Rel cx st' a' w' → next a' w') : o.wp P a w next Q := by
  have quiet : okK (stepQ op st.env.get st.heap) (fun x => K ⟨putE st.env o.dst x, st.heap, st.clk⟩) → o.wp P a w next Q := by
    intro ⟨x, hx, hK⟩
    obtain ⟨v, hv, hC⟩ := stepQ_sound (P := P) hop hr.env hr.wr.heap hx
    exact upon_of hv (hn _ _ _ hK (Rel.put hr hd hC))
  have wr : okK (stepW op o.dst st.env.get st.heap st.clk) (fun q => K ⟨putE st.env o.dst q.1, q.2.1, q.2.2⟩) → o.wp P a w next Q := by
    intro ⟨⟨x, h', c'⟩, hs, hK⟩
    obtain ⟨v, w', S', M', h1, h2, h3⟩ := stepW_sound hop hr hs
    rcases h1 with h1 | ⟨h1, rfl⟩
    · exact upon_of h1 (hn _ _ _ hK (Rel.put h2 hd h3))
    · unfold Oper.wp
      rw [h1, Oper.upon_skip]
      exact hn _ _ _ hK (Rel.put h2 hd h3)
  have call : ∀ f args, op = .call f args → o.wp P a w next Q := by
    intro f args he
    subst he
    obtain ⟨dst, oop, type, pos, after, guard⟩ := o
    simp only at hop hk hd
    obtain ⟨cargs, ats, hcall, hl⟩ := resOp_call hop
    subst hcall
    obtain ⟨h1, h2⟩ := resList_C hr.env _ _ hl
    have hsz : (cargs.map a.eval).size = (args.map (ev st.env.get)).length := by simpa using h1
    have hC : ∀ (j : Nat) (v : Value) (c : AV), (cargs.map a.eval)[j]? = some v → (args.map (ev st.env.get))[j]? = some c → C w S M st.clk v c :=
      fun j v c hv hc => h2 j v c (by simpa using hv) hc
    have hexec : Enters P f → (execOp a.eval { dst := dst, op := .call { callee := .value (.func f), args := cargs, argTypes := ats }, type := type, pos := pos, after := after, guard := guard }).run P w = .ok (.enter f (cargs.map a.eval)) w := by
      intro hent
      simp only [execOp, resolve, Act.eval, Deferred.ofValue, Sem.run_bind, Sem.run_pure, Result.andThen_ok, invoke]
      have := hent (cargs.map a.eval) w
      simpa using this
    simp only [opK] at hk
    rcases hk with hk | hk
    · obtain ⟨hent, hc⟩ := sound_callP hr hk hsz hC
      unfold Oper.wp
      rw [hexec hent, Oper.upon_enter]
      refine hc.mono fun e w' ⟨v, r, h', S', M', he, hK, hr', hC'⟩ => ?_
      subst he
      exact hn _ _ _ hK (Rel.put hr' hd hC')
    · obtain ⟨hent, hc⟩ := sound_callB hr hk hsz hC
      unfold Oper.wp
      rw [hexec hent, Oper.upon_enter]
      refine hc.mono fun e w' ⟨v, r, h', S', M', clk', he, hK, hr', hC'⟩ => ?_
      subst he
      exact hn _ _ _ hK (Rel.put hr' hd hC')
  obtain ⟨dst, oop, type, pos, after, guard⟩ := o
  simp only at hop hk hd
  cases oop <;> simp only [resOp] at hop <;> try (cases hop; done)
  case alloc t =>
    obtain ⟨zs, hz, rfl⟩ := map_some hop
    exact wr hk
  case buildSlice t len parts =>
    split at hop
    · rename_i e ht
      obtain ⟨z, hz, hop1⟩ := bind_some hop
      split at hop1
      · rename_i hlim
        obtain ⟨zs, hzs, hop2⟩ := bind_some hop1
        split at hop2
        · rename_i hzl
          obtain ⟨ps, hps, rfl⟩ := map_some hop2
          obtain ⟨⟨r, h'⟩, hs, hK⟩ := hk
          obtain ⟨h1, h2⟩ := resPartsS_C hr.env _ _ hps
          have e1 : ∀ ρ : Operand → Value, (Array.map (fun (x : Nat × Operand) => (x.fst, ρ x.snd)) parts).toList = parts.toList.map fun p => (p.1, ρ p.2) := by intro ρ; simp
          obtain ⟨v', w', S', M', h3, h4, h5⟩ := sound_bsl (parts := Array.map (fun (x : Nat × Operand) => (x.fst, a.eval x.snd)) parts) hr ht hz hlim.1 hlim.2 hzs hzl (by rw [e1]; exact h1) (fun j v x hv hx => h2 j v x (by rw [e1] at hv; exact hv) hx) hs
          exact upon_of (w' := w') (run_val2 h3) (hn _ _ _ hK (Rel.put h4 hd h5))
        · cases hop2
      · cases hop1
    · cases hop
  case store t y v =>
    obtain ⟨n, hsz, hop1⟩ := bind_some hop
    obtain ⟨p, hp, hop2⟩ := bind_some hop1
    obtain ⟨q, hq, rfl⟩ := map_some hop2
    exact wr hk
  case makeSlice t l c =>
    split at hop
    · split at hop
      · split at hop
        · obtain ⟨zs, hzs, hop1⟩ := bind_some hop
          split at hop1
          · obtain ⟨p, hp, hop2⟩ := bind_some hop1
            obtain ⟨q, hq, rfl⟩ := map_some hop2
            exact wr hk
          · cases hop1
        · cases hop
      · cases hop
    · cases hop
  case call c =>
    obtain ⟨callee, cargs, ats⟩ := c
    cases callee with
    | invoke r m => cases hop
    | value fv =>
      cases fv <;> simp only at hop <;> try cases hop
      obtain ⟨l, hl, rfl⟩ := map_some hop
      exact call _ _ rfl
    | builtin b =>
      simp only at hop
      split at hop
      · split at hop
        · obtain ⟨p, _, rfl⟩ := map_some hop; exact quiet hk
        · obtain ⟨p, _, rfl⟩ := map_some hop; exact quiet hk
        · cases hop; exact quiet hk
        · cases hop
      · obtain ⟨l, _, hop1⟩ := bind_some hop; split at hop1 <;> cases hop1; exact quiet hk
      · obtain ⟨l, _, hop1⟩ := bind_some hop; split at hop1 <;> cases hop1; exact quiet hk
      · rename_i y1 y2 t u hargs hts
        split at hop
        · rename_i htu
          subst htu
          split at hop
          · rename_i e ht
            split at hop
            · rename_i inf hi
              split at hop
              · obtain ⟨p, hp, hop1⟩ := bind_some hop
                obtain ⟨q, hq, rfl⟩ := map_some hop1
                exact wr hk
              · cases hop
            · cases hop
          · cases hop
        · cases hop
      · split at hop
        · split at hop
          · obtain ⟨z, _, hop0⟩ := bind_some hop
            split at hop0
            · obtain ⟨p, _, hop1⟩ := bind_some hop0
              obtain ⟨q, _, rfl⟩ := map_some hop1
              exact quiet hk
            · cases hop0
          · cases hop
        · cases hop
      · cases hop
  case convert s d y =>
    split at hop
    · obtain ⟨p, hp, rfl⟩ := map_some hop; exact quiet hk
    · split at hop
      · obtain ⟨p, hp, rfl⟩ := map_some hop; exact quiet hk
      · cases hop
    · cases hop
  case move y => obtain ⟨p, hp, rfl⟩ := map_some hop; exact quiet hk
  case assign y => obtain ⟨p, hp, rfl⟩ := map_some hop; exact quiet hk
  case pick c u v =>
    obtain ⟨c', hc, hop1⟩ := bind_some hop
    obtain ⟨u', hu, hop2⟩ := bind_some hop1
    obtain ⟨v', hv, rfl⟩ := map_some hop2
    exact quiet hk
  case build t parts =>
    split at hop
    · split at hop
      · obtain ⟨zs, hz, hop1⟩ := bind_some hop
        obtain ⟨ps, hp, rfl⟩ := map_some hop1
        exact quiet hk
      · cases hop
    · cases hop
  case load t y =>
    obtain ⟨n, hn', hop1⟩ := bind_some hop
    obtain ⟨p, hp, rfl⟩ := map_some hop1
    exact quiet hk
  case nilCheck y => obtain ⟨p, hp, rfl⟩ := map_some hop; exact quiet hk
  case binOp op' t y z _ =>
    obtain ⟨p, hp, hop1⟩ := bind_some hop
    obtain ⟨q, hq, hop2⟩ := bind_some hop1
    split at hop2
    · cases hop2; exact quiet hk
    · cases hop2; exact quiet hk
    · cases op' <;> cases hop2 <;> exact quiet hk
    · split at hop2
      · cases op' <;> try cases hop2
        · obtain ⟨ls, hl, rfl⟩ := map_some hop2; exact quiet hk
        · obtain ⟨ls, hl, rfl⟩ := map_some hop2; exact quiet hk
      · cases hop2
    · split at hop2
      · cases op' <;> cases hop2 <;> exact quiet hk
      · cases hop2
    · cases hop2
  case unOp op' t y => obtain ⟨p, hp, rfl⟩ := map_some hop; exact quiet hk
  case slice t y lo hi mx =>
    split at hop
    · obtain ⟨z, hz, hop1⟩ := bind_some hop
      obtain ⟨p, hp, hop2⟩ := bind_some hop1
      obtain ⟨lo', hlo, hop3⟩ := bind_some hop2
      obtain ⟨hi', hhi, hop4⟩ := bind_some hop3
      obtain ⟨mx', hmx, hop5⟩ := bind_some hop4
      split at hop5 <;> cases hop5
      exact quiet hk
    · split at hop
      · obtain ⟨p, hp, hop2⟩ := bind_some hop
        obtain ⟨lo', hlo, hop3⟩ := bind_some hop2
        obtain ⟨hi', hhi, rfl⟩ := map_some hop3
        exact quiet hk
      · cases hop
    · cases hop
  case fieldAddr t y i =>
    split at hop
    · split at hop
      · obtain ⟨n, hn', hop1⟩ := bind_some hop
        split at hop1
        · cases hop1
        · obtain ⟨p, hp, rfl⟩ := map_some hop1
          exact quiet hk
      · cases hop
    · cases hop
  case field t y i =>
    split at hop
    · split at hop
      · obtain ⟨n, hn', hop1⟩ := bind_some hop
        obtain ⟨p, hp, rfl⟩ := map_some hop1
        exact quiet hk
      · cases hop
    · cases hop
  case indexAddr t y i =>
    split at hop
    · obtain ⟨z, hz, hop1⟩ := bind_some hop
      obtain ⟨p, hp, hop2⟩ := bind_some hop1
      obtain ⟨q, hq, rfl⟩ := map_some hop2
      exact quiet hk
    · obtain ⟨z, hz, hop1⟩ := bind_some hop
      obtain ⟨p, hp, hop2⟩ := bind_some hop1
      obtain ⟨q, hq, rfl⟩ := map_some hop2
      exact quiet hk
    · cases hop
  case index t y i =>
    split at hop
    · obtain ⟨p, hp, hop2⟩ := bind_some hop
      obtain ⟨q, hq, rfl⟩ := map_some hop2
      exact quiet hk
    · obtain ⟨z, hz, hop1⟩ := bind_some hop
      obtain ⟨k, hk', hop3⟩ := bind_some hop1
      obtain ⟨p, hp, hop2⟩ := bind_some hop3
      obtain ⟨q, hq, rfl⟩ := map_some hop2
      exact quiet hk
    · cases hop
  case extract y i => obtain ⟨p, hp, rfl⟩ := map_some hop; exact quiet hk

end
end Go.Ab
