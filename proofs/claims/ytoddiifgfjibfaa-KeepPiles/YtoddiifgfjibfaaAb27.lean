/-
  Any law that returns true and changes nothing: from its contract to the given form.
-/
import Derived.Test.YtoddiifgfjibfaaAb26
namespace Go.Ab
open Go.ChangeShapes Go.WideShapes Go.ChangeAt Go.RowKit

def isAgg (P : Program) (t : TypeId) : Bool := match P.underlying t with | some (.struct _) => true | _ => false

def tysOf (P : Program) (m : Nat) : List TypeId → Option (List (Bool × Ty))
  | [] => some []
  | t :: ts => (tyOf P m t).bind fun a => (tysOf P m ts).map fun r => (isAgg P t, a) :: r

def OkArg : Bool × Ty → AV → Prop
  | (true, ty), x => ∃ cs, x = .agg cs ∧ Ok ty cs
  | (false, ty), x => Ok ty [x]

def OkArgs : List (Bool × Ty) → List AV → Prop
  | [], xs => xs = []
  | a :: r, xs => ∃ x ys, xs = x :: ys ∧ OkArg a x ∧ OkArgs r ys

section
variable {H : Type} {enc : TypeId × Value → H} {P : Program} {w : World} {S : Nat → Nat → Prop}

theorem arg_open {m : Nat} {t : TypeId} {v : Value} {d : DataW H} {p : List MemPlace} {ty : Ty} {base : Nat} (hA : DataW.Trod enc P w 0 (fun _ => true) true t v d p) (hT : tyOf P m t = some ty)
    (hval : Value.okWide P w .any base t v) (hp : Places S p) : ∃ x, OkArg (isAgg P t, ty) x ∧ CP w S v x := by
  obtain ⟨fuel, hf⟩ := hA
  obtain ⟨xs, ho, hrc⟩ := trod_open (S := S) fuel m t _ _ ty hf hT hp
  have hlen := ho.len
  cases hu : P.underlying t with
  | none => cases m <;> simp [tyOf, hu] at hT
  | some desc =>
    have one : ∀ (hag : isAgg P t = false) (hz : ty.z = 1) (hv : v.cells = #[v]), ∃ x, OkArg (isAgg P t, ty) x ∧ CP w S v x := by
      intro hag hz hv
      rw [hag]
      match xs, hlen with
      | [x], _ =>
        refine ⟨x, ho, ?_⟩
        have := hrc.2 0 v x (by rw [hv]; rfl) rfl
        exact this.1
      | [], h => simp [hz] at h
      | _ :: _ :: _, h => simp [hz] at h
    cases m with
    | zero => simp [tyOf] at hT
    | succ m =>
    cases desc <;> simp only [tyOf, hu] at hT <;> try (cases hT; done)
    case struct fs =>
      have hag : isAgg P t = true := by simp [isAgg, hu]
      rw [hag]
      unfold Value.okWide at hval
      rw [hu] at hval
      obtain ⟨cs, rfl, hcs, _⟩ := hval
      refine ⟨.agg xs, ⟨xs, rfl, ho⟩, .agg cs xs ?_ ?_ ?_⟩
      · have := hrc.1
        simpa [Value.cells] using this.symm
      · intro j u hu
        have hl := hrc.1
        have hj : j < cs.size := (Array.getElem?_eq_some_iff.1 hu).1
        have hj' : j < xs.length := by rw [hl]; simpa [Value.cells] using hj
        exact (hrc.2 j u _ (by simpa [Value.cells] using hu) (List.getElem?_eq_getElem hj')).2
      · intro j u c hu hc
        exact (hrc.2 j u c (by simpa [Value.cells] using hu) hc).1
    case bool =>
      cases hT
      unfold Value.okWide Cell.okWide Cell.ok at hval
      rw [hu] at hval
      refine one (by simp [isAgg, hu]) rfl ?_
      cases v <;> first | rfl | (exact hval.elim)
    case int k =>
      cases hT
      unfold Value.okWide Cell.okWide Cell.ok at hval
      rw [hu] at hval
      refine one (by simp [isAgg, hu]) rfl ?_
      cases v <;> first | rfl | (exact hval.elim)
    case string =>
      cases hT
      unfold Value.okWide Cell.okWide Cell.ok at hval
      rw [hu] at hval
      refine one (by simp [isAgg, hu]) rfl ?_
      cases v <;> first | rfl | (exact hval.elim)
    case slice e =>
      obtain ⟨r, hr, ht1⟩ := bind_some hT
      split at ht1 <;> cases ht1
      unfold Value.okWide Cell.okWide Cell.ok at hval
      rw [hu] at hval
      refine one (by simp [isAgg, hu]) rfl ?_
      cases v <;> first | rfl | (exact hval.elim)

theorem args_open {m base : Nat} : ∀ (ts : List TypeId) (vs : List Value) (ds : List (DataW H)) (p : List MemPlace) (tys : List (Bool × Ty)), DataW.TrodAll enc P w 0 (fun _ => true) true ts vs ds p → tysOf P m ts = some tys →
    (∀ (j : Nat) t v, ts[j]? = some t → vs[j]? = some v → Value.okWide P w .any base t v) → Places S p →
    ∃ xs, OkArgs tys xs ∧ vs.length = xs.length ∧ ∀ (j : Nat) (v : Value) (c : AV), vs[j]? = some v → xs[j]? = some c → CP w S v c
  | [], vs, ds, p, tys, hA, hT, hval, hp => by
    obtain ⟨rfl, _, _⟩ := trodAll_nil hA
    cases hT
    exact ⟨[], rfl, rfl, fun j v c h => by simp at h⟩
  | t :: ts, vs, ds, p, tys, hA, hT, hval, hp => by
    obtain ⟨v, vs1, d, ds1, a, b, rfl, rfl, rfl, h1, h2⟩ := trodAll_cons hA
    obtain ⟨ty, hty, hT1⟩ := bind_some hT
    obtain ⟨r, hr, rfl⟩ := map_some hT1
    obtain ⟨x, hx, hC⟩ := arg_open (S := S) h1 hty (hval 0 t v rfl rfl) fun k o h => hp k o (List.mem_append_left _ h)
    obtain ⟨xs, ho, hl, hc⟩ := args_open (m := m) (base := base) ts vs1 ds1 b r h2 hr (fun j t v ht hv => hval (j + 1) t v (by simpa using ht) (by simpa using hv)) fun k o h => hp k o (List.mem_append_right _ h)
    refine ⟨x :: xs, ⟨x, xs, rfl, hx, ho⟩, by simp [hl], fun j u c hu hcc => ?_⟩
    cases j with
    | zero => simp at hu hcc; subst hu; subst hcc; exact hC
    | succ j => exact hc j u c (by simpa using hu) (by simpa using hcc)

theorem all_stay (hl : laidOutB P = true) {W W' : World} (hb : Below W.heap.size W W') {sp : Nat → Bool} : ∀ (ts : List TypeId) (vs : List Value) (ds : List (DataW H)) (p : List MemPlace),
    (ts.all fun t => P.readableRec t && decide (t < P.types.size)) = true → DataW.TrodAll enc P W 0 (fun _ => true) true ts vs ds p → (∀ x ∈ p, x.block < W.heap.size) → (∀ x ∈ p, sp x.block = true) → DataW.TrodAll enc P W' 0 sp true ts vs ds p
  | [], _, _, _, _, hA, _, _ => by
    obtain ⟨rfl, rfl, rfl⟩ := trodAll_nil hA
    exact rfl
  | t :: ts, vs, ds, p, hr, hA, hlt, hsp => by
    obtain ⟨v, vs1, d, ds1, a, b, rfl, rfl, rfl, h1, h2⟩ := trodAll_cons hA
    rw [List.all_cons, Bool.and_eq_true, Bool.and_eq_true, decide_eq_true_eq] at hr
    exact ⟨a, b, WideElems.Trod_stays hl hr.1.1 hr.1.2 h1 (fun x hx => hb.same (hlt x (List.mem_append_left _ hx))) (fun x hx => hsp x (List.mem_append_left _ hx)),
      all_stay hl hb ts vs1 ds1 b hr.2 h2 (fun x hx => hlt x (List.mem_append_right _ hx)) (fun x hx => hsp x (List.mem_append_right _ hx)), rfl⟩

theorem all_len : ∀ (ts : List TypeId) (vs : List Value) (ds : List (DataW H)) (p : List MemPlace), DataW.TrodAll enc P w 0 (fun _ => true) true ts vs ds p → ds.length = ts.length
  | [], _, _, _, hA => by
    obtain ⟨rfl, rfl, rfl⟩ := trodAll_nil hA
    rfl
  | t :: ts, vs, ds, p, hA => by
    obtain ⟨v, vs1, d, ds1, a, b, rfl, rfl, rfl, h1, h2⟩ := trodAll_cons hA
    simp [all_len ts vs1 ds1 b h2]

/-- One call of a law that returns true and changes nothing. -/
theorem law_step {f : FuncId} {fn : Func} {s : ChangeSpec} {m tb : Nat} {tys : List (Bool × Ty)} {fresh handsOn again : Bool} (hvars : s.vars = []) (hT : tysOf P m fn.params.toList = some tys) (hl : laidOutB P = true)
    (hread : (fn.params.toList.all fun t => P.readableRec t && decide (t < P.types.size)) = true) (hr : fn.resultTypes = #[tb]) (hb : P.underlying tb = some .bool)
    (hfn : ∀ ds : List (DataW H), ds.length = fn.params.toList.length → s.fn H ds = { results := [.lit (.bool true)], args := ds })
    (hcall : ∀ xs, OkArgs tys xs → PCall P f xs (· = .b true)) {W : World} {args : Array Value} {ds gs : List (DataW H)} {before : List MemPlace} {base : Nat}
    (hval : ∀ (j : Nat) t v, fn.params[j]? = some t → args[j]? = some v → Value.okWide P W .any base t v) (hW : DataW.Whole enc P fn.params.toList s.vars false W args.toList ds gs before) :
    Calls P f args W fun e W' => ∃ v, e = .returned v ∧ s.post enc P fn false fresh handsOn again W args v W' := by
  have hW' := hW
  obtain ⟨p, q, hA, hV, rfl, hfz, hnd⟩ := hW
  rw [hvars] at hV
  obtain ⟨rfl, rfl⟩ := trodVars_none hV
  have hlt : ∀ x ∈ p, x.block < W.heap.size := fun x hx => hW'.lt x (List.mem_append_left _ hx)
  obtain ⟨xs, ho, hlen, hC⟩ := args_open (S := fun k o => MemPlace.cell k o ∈ p) _ _ _ _ _ hA hT (fun j t v ht hv => hval j t v (by simpa using ht) (by simpa using hv)) (fun k o h => h)
  have hc := (hcall xs ho).2 W (fun k o => MemPlace.cell k o ∈ p) args (by simpa using hlen) (fun j v c hv hc => hC j v c (by simpa using hv) hc) (fun k o h => hlt _ h)
  refine hc.mono fun e W' ⟨v, r, he, hrr, hbel, hCr⟩ => ?_
  subst he hrr
  have hv : v = .bool true := by cases hCr; rfl
  subst hv
  have hlf := hfn ds (all_len _ _ _ _ hA)
  refine ⟨_, rfl, post_of_below (pa := p) (pv := []) hW' (fun b sp hd => ?_) (fun sp hsp => ?_) (fun sp _ => ?_) rfl hbel (ok_one hr rfl (okWide_bool_mk hb _))⟩
  · rw [List.append_nil, hlf, hr]
    exact trodAll_mk1 (shut_bool hb _)
  · rw [List.append_nil, hlf]
    exact all_stay hl hbel _ _ _ _ hread hA hlt fun x hx => hsp x (List.mem_append_left _ hx)
  · rw [List.append_nil, hlf, hvars]
    exact rfl
end
end Go.Ab
