/-
  All operations that leave the boxes alone, in one theorem.
-/
import Derived.Test.YtoddiifgfjibfaaAb7
namespace Go.Ab
open Go.RowKit

section
variable {P : Program} {w : World} {S : Nat → Nat → Prop} {M : Map} {clk : Nat} {e : Nat → AV} {h : Heap} {a : Act}

theorem resOpt_C {x : Option Operand} {p : Option Opd} (he : EnvOk w S M clk e a) (hr : resOpt x = some p) : CO w S M clk (x.map a.eval) (evO e p) := by
  cases x with
  | none => simp only [resOpt, Option.some.injEq] at hr; subst hr; trivial
  | some x =>
    simp only [resOpt] at hr
    obtain ⟨y, hy, rfl⟩ := map_some hr
    exact ev_C he hy

theorem resOpt_none {x : Option Operand} {p : Option Opd} (hr : resOpt x = some p) : (x.map a.eval).isNone = p.isNone := by
  cases x with
  | none => simp only [resOpt, Option.some.injEq] at hr; subst hr; rfl
  | some x =>
    simp only [resOpt] at hr
    obtain ⟨y, hy, rfl⟩ := map_some hr
    rfl

theorem resList_C (he : EnvOk w S M clk e a) : ∀ (l : List Operand) (ps : List Opd), resList l = some ps → l.length = ps.length ∧ ∀ (j : Nat) (u : Value) (c : AV), (l.map a.eval)[j]? = some u → (ps.map (ev e))[j]? = some c → C w S M clk u c
  | [], ps, hr => by simp only [resList, Option.some.injEq] at hr; subst hr; exact ⟨rfl, fun j u c h => by simp at h⟩
  | x :: l, ps, hr => by
    simp only [resList] at hr
    obtain ⟨p, hp, hr1⟩ := bind_some hr
    obtain ⟨qs, hq, rfl⟩ := map_some hr1
    obtain ⟨hl, hc⟩ := resList_C he l qs hq
    refine ⟨by simp [hl], fun j u c hu hc' => ?_⟩
    cases j with
    | zero => simp at hu hc'; subst hu; subst hc'; exact ev_C he hp
    | succ j => exact hc j u c (by simpa using hu) (by simpa using hc')

theorem resParts_ok {fields : Array Field} (he : EnvOk w S M clk e a) : ∀ (l : List (Nat × Operand)) (ps : List (Nat × Nat × Opd)), resParts P fields l = some ps →
    PtP w S M clk ((fields.map fun f => (f.offset, (sizeT P f.type).getD 0))[·]?) (l.map fun p => (p.1, a.eval p.2)) (ps.map fun p => (p.1, p.2.1, ev e p.2.2))
  | [], ps, hr => by simp only [resParts, Option.some.injEq] at hr; subst hr; trivial
  | (i, x) :: l, ps, hr => by
    simp only [resParts] at hr
    split at hr
    · cases hr
    rename_i f hf
    obtain ⟨n, hn, hr1⟩ := bind_some hr
    obtain ⟨p, hp, hr2⟩ := bind_some hr1
    obtain ⟨qs, hq, rfl⟩ := map_some hr2
    exact ⟨by simp [hf, hn], ev_C he hp, resParts_ok he l qs hq⟩

def Yield (P : Program) (w : World) (S : Nat → Nat → Prop) (M : Map) (clk : Nat) (a : Act) (o : Oper) (x : AV) : Prop :=
  ∃ v, (execOp a.eval o).run P w = .ok (.value v) w ∧ C w S M clk v x

theorem Yield.of {o : Oper} {x : AV} {s : Sem Value} (ho : execOp a.eval o = (do pure (Next.value (← s)))) (h : ∃ v, s.run P w = .ok v w ∧ C w S M clk v x) : Yield P w S M clk a o x := by
  obtain ⟨v, h1, h2⟩ := h
  exact ⟨v, by rw [ho]; exact run_val h1, h2⟩

theorem mm_all (why : String) {mx : Bool} {xs : List Operand} {l : List Opd} {x : AV} (he : EnvOk w S M clk e a) (hl : resList xs = some l) (hs : mmAV mx (l.map (ev e)) = some x) :
    ∃ r, (match xs.map a.eval with | [] => stuck why | v :: rest => rest.foldlM (fun a b => if mx then Builtin.max2 a b else Builtin.min2 a b) v : Sem Value).run P w = .ok r w ∧ C w S M clk r x := by
  obtain ⟨hlen, hc⟩ := resList_C he _ _ hl
  cases xs with
  | nil =>
    cases l with
    | nil => cases hs
    | cons p l => simp at hlen
  | cons y ys =>
    cases l with
    | nil => simp at hlen
    | cons p l =>
      simp only [List.map_cons, mmAV] at hs ⊢
      exact sound_mmL (ys.map a.eval) (l.map (ev e)) (a.eval y) (ev e p) x (by simpa using hlen) (fun j u c h1 h2 => hc (j + 1) u c (by simpa using h1) (by simpa using h2)) (hc 0 _ _ rfl rfl) hs

theorem stepQ_sound {o : Oper} {op : AOp} {x : AV} (hr : resOp P o.op = some op) (he : EnvOk w S M clk e a) (hh : HeapRel w S M clk h) (hs : stepQ op e h = some x) : Yield P w S M clk a o x := by
  obtain ⟨dst, o, type, pos, after, guard⟩ := o
  simp only at hr
  cases o <;> simp only [resOp] at hr <;> try (cases hr; done)
  case move y =>
    obtain ⟨p, hp, rfl⟩ := map_some hr
    simp only [stepQ, Option.some.injEq] at hs
    subst hs
    exact ⟨_, rfl, ev_C he hp⟩
  case assign y =>
    obtain ⟨p, hp, rfl⟩ := map_some hr
    simp only [stepQ, Option.some.injEq] at hs
    subst hs
    exact ⟨_, rfl, ev_C he hp⟩
  case pick c u v =>
    obtain ⟨c', hc, hr1⟩ := bind_some hr
    obtain ⟨u', hu, hr2⟩ := bind_some hr1
    obtain ⟨v', hv, rfl⟩ := map_some hr2
    simp only [stepQ, pickAV] at hs
    split at hs <;> cases hs
    rename_i t ht
    have hcc := ev_C he hc
    rw [ht] at hcc
    have hb := hcc.inv_b
    refine ⟨if t then a.eval u else a.eval v, ?_, ?_⟩
    · simp only [execOp, hb, asBool, Sem.run_bind, Sem.run_pure, Result.andThen_ok]
    · cases t
      · exact ev_C he hv
      · exact ev_C he hu
  case alloc t => obtain ⟨zs, _, rfl⟩ := map_some hr; cases hs
  case build t parts =>
    split at hr
    · rename_i fields ht
      split at hr
      · rename_i hall
        obtain ⟨zs, hz, hr1⟩ := bind_some hr
        obtain ⟨ps, hp, rfl⟩ := map_some hr1
        simp only [stepQ] at hs
        obtain ⟨ds, hd, rfl⟩ := map_some hs
        obtain ⟨z, hz1, hz2, hz3⟩ := zeros_pt (P := P) (w := w) (S := S) (M := M) (clk := clk) hz
        obtain ⟨r, hr, hC⟩ := sound_fill _ _ z.cells zs ds hz3 (resParts_ok he _ _ hp) hd
        refine Yield.of rfl ⟨.agg r, ?_, by simpa using hC.agg⟩
        have hpl := run_places (P := P) (w := w) fields (fun f hf => Option.isSome_iff_exists.1 (List.all_eq_true.1 hall f hf))
        simp only [Instr.build, Sem.run_bind, hz1, Result.andThen_ok, run_underlying ht, hpl]
        have e2 : (Array.map (fun (x : Nat × Operand) => (x.fst, a.eval x.snd)) parts).toList = parts.toList.map fun p => (p.1, a.eval p.2) := by simp
        rw [e2, hr]
        rfl
      · cases hr
    · cases hr
  case buildSlice t len parts =>
    split at hr
    · obtain ⟨z, _, hr1⟩ := bind_some hr
      split at hr1
      · obtain ⟨zs, _, hr2⟩ := bind_some hr1
        split at hr2
        · obtain ⟨ps, _, rfl⟩ := map_some hr2; cases hs
        · cases hr2
      · cases hr1
    · cases hr
  case load t y =>
    obtain ⟨n, hn, hr1⟩ := bind_some hr
    obtain ⟨p, hp, rfl⟩ := map_some hr1
    exact Yield.of rfl (sound_load hn hh (ev_C he hp) hs)
  case store t y v =>
    obtain ⟨n, hn, hr1⟩ := bind_some hr
    obtain ⟨p, hp, hr2⟩ := bind_some hr1
    obtain ⟨q, hq, rfl⟩ := map_some hr2
    cases hs
  case nilCheck y =>
    obtain ⟨p, hp, rfl⟩ := map_some hr
    simp only [stepQ] at hs
    obtain ⟨⟨ad, ha⟩, hC⟩ := sound_nilc hh (ev_C he hp) hs
    refine ⟨_, ?_, hC⟩
    simp only [execOp, ha]
    rfl
  case binOp op' t y z _ =>
    obtain ⟨p, hp, hr1⟩ := bind_some hr
    obtain ⟨q, hq, hr2⟩ := bind_some hr1
    have hC1 := ev_C he hp
    have hC2 := ev_C he hq
    split at hr2
    · cases hr2; exact Yield.of rfl (sound_bin hC1 hC2 hs)
    · cases hr2; exact Yield.of rfl (sound_bin hC1 hC2 hs)
    · rename_i ht
      cases op' <;> cases hr2
      · exact Yield.of rfl (sound_eqb (neq := false) ht hC1 hC2 hs)
      · exact Yield.of rfl (sound_eqb (neq := true) ht hC1 hC2 hs)
    · rename_i fs ht
      split at hr2
      · rename_i hg
        simp only [Bool.and_eq_true, Bool.not_eq_true'] at hg
        cases op' <;> try cases hr2
        · obtain ⟨ls, hl, rfl⟩ := map_some hr2
          exact Yield.of rfl (sound_eqs (neq := false) ht hg.1 hg.2 hl hC1 hC2 hs)
        · obtain ⟨ls, hl, rfl⟩ := map_some hr2
          exact Yield.of rfl (sound_eqs (neq := true) ht hg.1 hg.2 hl hC1 hC2 hs)
      · cases hr2
    · rename_i el ht
      split at hr2
      · rename_i hn
        have hz : a.eval z = .slice none 0 0 := by
          unfold isNilConst at hn
          split at hn
          · rfl
          · cases hn
        cases op' <;> cases hr2
        · have := sound_eqnil (P := P) (neq := false) (X := y) (Y := z) ht hC1 hs
          rw [← hz] at this
          exact Yield.of rfl this
        · have := sound_eqnil (P := P) (neq := true) (X := y) (Y := z) ht hC1 hs
          rw [← hz] at this
          exact Yield.of rfl this
      · cases hr2
    · cases hr2
  case unOp op' t y =>
    obtain ⟨p, hp, rfl⟩ := map_some hr
    exact Yield.of rfl (sound_un (ev_C he hp) hs)
  case convert s d y =>
    split at hr
    · rename_i k0 k hs1 hd1
      obtain ⟨p, hp, rfl⟩ := map_some hr
      exact Yield.of rfl (sound_conv hs1 hd1 (ev_C he hp) hs)
    · split at hr
      · obtain ⟨p, hp, rfl⟩ := map_some hr; cases hs
      · cases hr
    · cases hr
  case makeSlice t l c =>
    split at hr
    · split at hr
      · split at hr
        · obtain ⟨zs, _, hr1⟩ := bind_some hr
          split at hr1
          · obtain ⟨p, hp, hr2⟩ := bind_some hr1
            obtain ⟨q, hq, rfl⟩ := map_some hr2
            cases hs
          · cases hr1
        · cases hr
      · cases hr
    · cases hr
  case slice t y lo hi mx =>
    split at hr
    · rename_i el ht
      obtain ⟨z, hz, hr1⟩ := bind_some hr
      obtain ⟨p, hp, hr2⟩ := bind_some hr1
      obtain ⟨lo', hlo, hr3⟩ := bind_some hr2
      obtain ⟨hi', hhi, hr4⟩ := bind_some hr3
      obtain ⟨mx', hmx, hr5⟩ := bind_some hr4
      split at hr5 <;> cases hr5
      rename_i hm
      refine Yield.of rfl (sound_slc ht hz hh (fun h1 => ?_) (resOpt_C he hlo) (resOpt_C he hhi) (resOpt_C he hmx) (ev_C he hp) hs)
      rw [resOpt_none hhi] at h1
      rw [resOpt_none hmx]
      cases mx' with
      | none => rfl
      | some m => exact absurd (by simp [h1]) hm
    · rename_i ht
      split at hr
      · rename_i hm
        have hm0 : mx = none := by simpa using hm
        subst hm0
        obtain ⟨p, hp, hr2⟩ := bind_some hr
        obtain ⟨lo', hlo, hr3⟩ := bind_some hr2
        obtain ⟨hi', hhi, rfl⟩ := map_some hr3
        exact Yield.of rfl (sound_slstr ht (resOpt_C he hlo) (resOpt_C he hhi) (ev_C he hp) hs)
      · cases hr
    · cases hr
  case fieldAddr t y i =>
    split at hr
    · rename_i fs ht
      split at hr
      · rename_i f hf
        obtain ⟨n, hn, hr1⟩ := bind_some hr
        split at hr1
        · cases hr1
        · rename_i h0
          obtain ⟨p, hp, rfl⟩ := map_some hr1
          exact Yield.of rfl (sound_fad ht hf hn h0 hh (ev_C he hp) hs)
      · cases hr
    · cases hr
  case field t y i =>
    split at hr
    · rename_i fs ht
      split at hr
      · rename_i f hf
        obtain ⟨n, hn, hr1⟩ := bind_some hr
        obtain ⟨p, hp, rfl⟩ := map_some hr1
        exact Yield.of rfl (sound_fld ht hf hn (ev_C he hp) hs)
      · cases hr
    · cases hr
  case indexAddr t y i =>
    split at hr
    · rename_i el ht
      obtain ⟨z, hz, hr1⟩ := bind_some hr
      obtain ⟨p, hp, hr2⟩ := bind_some hr1
      obtain ⟨q, hq, rfl⟩ := map_some hr2
      exact Yield.of rfl (sound_iad ht hz hh (ev_C he hp) (ev_C he hq) hs)
    · rename_i len el ht
      obtain ⟨z, hz, hr1⟩ := bind_some hr
      obtain ⟨p, hp, hr2⟩ := bind_some hr1
      obtain ⟨q, hq, rfl⟩ := map_some hr2
      exact Yield.of rfl (sound_iaa ht hz hh (ev_C he hp) (ev_C he hq) hs)
    · cases hr
  case index t y i =>
    split at hr
    · rename_i ht
      obtain ⟨p, hp, hr2⟩ := bind_some hr
      obtain ⟨q, hq, rfl⟩ := map_some hr2
      exact Yield.of rfl (sound_ixs ht (ev_C he hp) (ev_C he hq) hs)
    · rename_i len el ht
      obtain ⟨z, hz, hr1⟩ := bind_some hr
      obtain ⟨k, hk, hr3⟩ := bind_some hr1
      obtain ⟨p, hp, hr2⟩ := bind_some hr3
      obtain ⟨q, hq, rfl⟩ := map_some hr2
      exact Yield.of rfl (sound_ixa ht hz hk (ev_C he hp) (ev_C he hq) hs)
    · cases hr
  case extract y i =>
    obtain ⟨p, hp, rfl⟩ := map_some hr
    exact Yield.of rfl (sound_ext (ev_C he hp) hs)
  case call c =>
    obtain ⟨callee, args, argTypes⟩ := c
    cases callee with
    | invoke r m => cases hr
    | value f =>
      cases f <;> simp only at hr <;> try cases hr
      obtain ⟨l, hl, rfl⟩ := map_some hr
      cases hs
    | builtin b =>
      simp only at hr
      split at hr
      · -- len
        rename_i y t hargs hts
        have ha : args = #[y] := by rw [← Array.toArray_toList (xs := args), hargs]
        have hat : argTypes = #[t] := by rw [← Array.toArray_toList (xs := argTypes), hts]
        subst ha
        subst hat
        split at hr
        · rename_i ht
          obtain ⟨p, hp, rfl⟩ := map_some hr
          obtain ⟨r, h1, h2⟩ := sound_lens (P := P) (ty := type) ht (ev_C he hp) hs
          exact ⟨r, by simp [execOp, resolve, invoke, builtin, h1], h2⟩
        · rename_i el ht
          obtain ⟨p, hp, rfl⟩ := map_some hr
          obtain ⟨r, h1, h2⟩ := sound_len (P := P) (ty := type) ht hh (ev_C he hp) hs
          exact ⟨r, by simp [execOp, resolve, invoke, builtin, h1], h2⟩
        · rename_i n el ht
          cases hr
          simp only [stepQ, Option.some.injEq] at hs
          subst hs
          refine ⟨.int .i64 n, ?_, .p (.i _ _)⟩
          simp [execOp, resolve, invoke, builtin, Builtin.len_, run_underlying ht, goInt]
        · cases hr
      · obtain ⟨l, hl, hr1⟩ := bind_some hr
        split at hr1 <;> cases hr1
        obtain ⟨r, h1, h2⟩ := mm_all (P := P) "min: at least one argument expected" (mx := false) he hl hs
        refine ⟨r, ?_, h2⟩
        simp only [Bool.false_eq_true, if_false] at h1
        simp only [execOp, resolve, invoke, builtin, Sem.run_bind, Sem.run_pure, Result.andThen_ok, Builtin.min_, Array.toList_map]
        exact (congrArg (fun x => Result.andThen x _) h1).trans rfl
      · obtain ⟨l, hl, hr1⟩ := bind_some hr
        split at hr1 <;> cases hr1
        obtain ⟨r, h1, h2⟩ := mm_all (P := P) "max: at least one argument expected" (mx := true) he hl hs
        refine ⟨r, ?_, h2⟩
        simp only [if_true] at h1
        simp only [execOp, resolve, invoke, builtin, Sem.run_bind, Sem.run_pure, Result.andThen_ok, Builtin.max_, Array.toList_map]
        exact (congrArg (fun x => Result.andThen x _) h1).trans rfl
      · split at hr
        · split at hr
          · split at hr
            · split at hr
              · obtain ⟨p, _, hr1⟩ := bind_some hr
                obtain ⟨q, _, rfl⟩ := map_some hr1
                cases hs
              · cases hr
            · cases hr
          · cases hr
        · cases hr
      · split at hr
        · split at hr
          · obtain ⟨z, _, hr0⟩ := bind_some hr
            split at hr0
            · obtain ⟨p, _, hr1⟩ := bind_some hr0
              obtain ⟨q, _, rfl⟩ := map_some hr1
              cases hs
            · cases hr0
          · cases hr
        · cases hr
      · cases hr

end
end Go.Ab
