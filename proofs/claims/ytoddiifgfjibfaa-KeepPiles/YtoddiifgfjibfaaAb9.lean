/-
  A region whose order is drawn: if its operations leave the boxes alone, one run in the order of the text serves every order.
-/
import Derived.Test.YtoddiifgfjibfaaAb8
namespace Go.Ab
open Go.RowKit

def upd (ρ : Nat → AV) (d : Option Nat) (x : AV) : Nat → AV :=
  match d with
  | none => ρ
  | some d => fun t => if t = d then x else ρ t

theorem upd_comm (ρ : Nat → AV) {x y : Option Nat} (v u : AV) (h : ∀ d, x = some d → y ≠ some d) : upd (upd ρ x v) y u = upd (upd ρ y u) x v := by
  cases x with
  | none => rfl
  | some d =>
    cases y with
    | none => rfl
    | some e =>
      have hne : d ≠ e := fun he => h d rfl (he ▸ rfl)
      funext t
      simp only [upd]
      by_cases h1 : t = e <;> by_cases h2 : t = d <;> simp_all

theorem ev_congr {ρ ρ' : Nat → AV} {x : Operand} {p : Opd} (hr : resOpd x = some p) (h : ∀ t, x = .tmp t → ρ t = ρ' t) : ev ρ p = ev ρ' p := by
  cases x with
  | tmp t => simp only [resOpd, Option.some.injEq] at hr; subst hr; exact h t rfl
  | const v => simp only [resOpd] at hr; obtain ⟨y, _, rfl⟩ := map_some hr; rfl
  | global g => cases hr
  | func f => simp only [resOpd, Option.some.injEq] at hr; subst hr; rfl

theorem evO_congr {ρ ρ' : Nat → AV} {x : Option Operand} {p : Option Opd} (hr : resOpt x = some p) (h : ∀ t, x = some (.tmp t) → ρ t = ρ' t) : evO ρ p = evO ρ' p := by
  cases x with
  | none => simp only [resOpt, Option.some.injEq] at hr; subst hr; rfl
  | some x =>
    simp only [resOpt] at hr
    obtain ⟨y, hy, rfl⟩ := map_some hr
    exact congrArg some (ev_congr hy fun t ht => h t (by rw [ht]))

theorem evL_congr {ρ ρ' : Nat → AV} : ∀ {l : List Operand} {ps : List Opd}, resList l = some ps → (∀ t, Operand.tmp t ∈ l → ρ t = ρ' t) → ps.map (ev ρ) = ps.map (ev ρ')
  | [], ps, hr, _ => by simp only [resList, Option.some.injEq] at hr; subst hr; rfl
  | x :: l, ps, hr, h => by
    simp only [resList] at hr
    obtain ⟨p, hp, hr1⟩ := bind_some hr
    obtain ⟨qs, hq, rfl⟩ := map_some hr1
    simp only [List.map_cons]
    rw [ev_congr hp fun t ht => h t (by simp [ht]), evL_congr hq fun t ht => h t (by simp [ht])]

theorem evP_congr {P : Program} {fields : Array Field} {ρ ρ' : Nat → AV} : ∀ {l : List (Nat × Operand)} {ps : List (Nat × Nat × Opd)}, resParts P fields l = some ps → (∀ t, Operand.tmp t ∈ l.map (·.2) → ρ t = ρ' t) →
    (ps.map fun p => (p.1, p.2.1, ev ρ p.2.2)) = ps.map fun p => (p.1, p.2.1, ev ρ' p.2.2)
  | [], ps, hr, _ => by simp only [resParts, Option.some.injEq] at hr; subst hr; rfl
  | (i, x) :: l, ps, hr, h => by
    simp only [resParts] at hr
    split at hr
    · cases hr
    obtain ⟨n, hn, hr1⟩ := bind_some hr
    obtain ⟨p, hp, hr2⟩ := bind_some hr1
    obtain ⟨qs, hq, rfl⟩ := map_some hr2
    simp only [List.map_cons]
    rw [ev_congr hp fun t ht => h t (by simp [ht]), evP_congr hq fun t ht => h t (by simp only [List.map_cons, List.mem_cons]; exact .inr ht)]

theorem evS_congr {ρ ρ' : Nat → AV} : ∀ {l : List (Nat × Operand)} {ps : List (Nat × Opd)}, resPartsS l = some ps → (∀ t, Operand.tmp t ∈ l.map (·.2) → ρ t = ρ' t) →
    (ps.map fun p => (p.1, ev ρ p.2)) = ps.map fun p => (p.1, ev ρ' p.2)
  | [], ps, hr, _ => by simp only [resPartsS, Option.some.injEq] at hr; subst hr; rfl
  | (i, x) :: l, ps, hr, h => by
    simp only [resPartsS] at hr
    obtain ⟨p, hp, hr2⟩ := bind_some hr
    obtain ⟨qs, hq, rfl⟩ := map_some hr2
    simp only [List.map_cons]
    rw [ev_congr hp fun t ht => h t (by simp [ht]), evS_congr hq fun t ht => h t (by simp only [List.map_cons, List.mem_cons]; exact .inr ht)]

/-- What must be known of a callee: it has a body, and is not the model's own 'NumGoroutine'. -/
def Enters (P : Program) (f : FuncId) : Prop := ∀ args w, (callFunc f args).run P w = .ok (.enter f args) w

/-- A call of a function that only reckons: what it is given, what it hands back. -/
def PCall (P : Program) (f : FuncId) (args : List AV) (post : AV → Prop) : Prop :=
  Enters P f ∧ ∀ (w : World) (S : Nat → Nat → Prop) (cargs : Array Value), cargs.size = args.length → (∀ (j : Nat) (v : Value) (c : AV), cargs[j]? = some v → args[j]? = some c → CP w S v c) →
    (∀ k o, S k o → k < w.heap.size) →
    Calls P f cargs w fun e w' => ∃ v r, e = .returned v ∧ post r ∧ Below w.heap.size w w' ∧ CP w' (fun k o => S k o ∨ (w.heap.size ≤ k ∧ k < w'.heap.size)) v r

theorem C.pureC {w : World} {S : Nat → Nat → Prop} {M : Map} {clk : Nat} {v : Value} {x : AV} (h : C w S M clk v x) (hp : pureC x = true) : CP w S v x := by
  cases h with
  | p h => exact h
  | _ => cases hp

theorem C.noRef {w : World} {S : Nat → Nat → Prop} {M : Map} {clk : Nat} {v : Value} {x : AV} (h : C w S M clk v x) (hp : noRef x = true) : CP w S v x := by
  cases h with
  | p h => exact h
  | agg vs cs hl h1 h =>
    refine .agg vs cs hl h1 fun j v c hv hc => ?_
    simp only [Ab.noRef, List.all_eq_true] at hp
    exact (h j v c hv hc).pureC (hp c (List.mem_of_getElem? hc))
  | _ => cases hp

def QOp (P : Program) (op : AOp) (ρ : Nat → AV) (h : Heap) (x : AV) : Prop :=
  match op with
  | .call f args => (args.map (ev ρ)).all noRef = true ∧ PCall P f (args.map (ev ρ)) (· = x)
  | .bsl z zs len ps => ((ps.map fun p => (p.1, ev ρ p.2)).all fun p => noRef p.2) = true ∧ ∃ h', bslAV z zs len [] (ps.map fun p => (p.1, ev ρ p.2)) = some (x, h')
  | op => stepQ op ρ h = some x

/-- What an operation of a region leaves in its slot. -/
def QF (P : Program) (h : Heap) (o : AO) (ρ : Nat → AV) (x : AV) : Prop :=
  match o.guard with
  | none => QOp P o.op ρ h x
  | some (t, want) => (ρ t = .b want ∧ QOp P o.op ρ h x) ∨ ((ρ t = .b (!want) ∨ ρ t = .tup []) ∧ x = .tup [])

section
variable {P : Program} {h : Heap}

theorem QOp_free {op : AOp} {ρ : Nat → AV} {x : AV} (hf : op.free = true) (h1 h2 : Heap) : QOp P op ρ h1 x ↔ QOp P op ρ h2 x := by
  cases op <;> first | rfl | (cases hf; done)

theorem QOp_congr {o : Op} {op : AOp} {ρ ρ' : Nat → AV} {x : AV} (hr : resOp P o = some op) (hρ : ∀ t, Operand.tmp t ∈ o.operands.toList → ρ t = ρ' t) : QOp P op ρ h x ↔ QOp P op ρ' h x := by
  cases o <;> simp only [resOp] at hr <;> try (cases hr; done)
  case move y => obtain ⟨p, hp, rfl⟩ := map_some hr; simp only [QOp, stepQ, ev_congr hp fun t ht => hρ t (by simp [Op.operands, ht])]
  case assign y => obtain ⟨p, hp, rfl⟩ := map_some hr; simp only [QOp, stepQ, ev_congr hp fun t ht => hρ t (by simp [Op.operands, ht])]
  case pick c u v =>
    obtain ⟨c', hc, hr1⟩ := bind_some hr
    obtain ⟨u', hu, hr2⟩ := bind_some hr1
    obtain ⟨v', hv, rfl⟩ := map_some hr2
    simp only [QOp, stepQ, ev_congr hc fun t ht => hρ t (by simp [Op.operands, ht]), ev_congr hu fun t ht => hρ t (by simp [Op.operands, ht]), ev_congr hv fun t ht => hρ t (by simp [Op.operands, ht])]
  case alloc t => obtain ⟨zs, _, rfl⟩ := map_some hr; rfl
  case build t parts =>
    split at hr
    · split at hr
      · obtain ⟨zs, hz, hr1⟩ := bind_some hr
        obtain ⟨ps, hp, rfl⟩ := map_some hr1
        simp only [QOp, stepQ, evP_congr hp fun t ht => hρ t (by simpa [Op.operands] using ht)]
      · cases hr
    · cases hr
  case buildSlice t len parts =>
    split at hr
    · obtain ⟨z, _, hr1⟩ := bind_some hr
      split at hr1
      · obtain ⟨zs, _, hr2⟩ := bind_some hr1
        split at hr2
        · obtain ⟨ps, hps, rfl⟩ := map_some hr2
          simp only [QOp, evS_congr hps fun t ht => hρ t (by simpa [Op.operands] using ht)]
        · cases hr2
      · cases hr1
    · cases hr
  case load t y =>
    obtain ⟨n, hn, hr1⟩ := bind_some hr
    obtain ⟨p, hp, rfl⟩ := map_some hr1
    simp only [QOp, stepQ, ev_congr hp fun t ht => hρ t (by simp [Op.operands, ht])]
  case store t y v =>
    obtain ⟨n, hn, hr1⟩ := bind_some hr
    obtain ⟨p, hp, hr2⟩ := bind_some hr1
    obtain ⟨q, hq, rfl⟩ := map_some hr2
    rfl
  case nilCheck y => obtain ⟨p, hp, rfl⟩ := map_some hr; simp only [QOp, stepQ, ev_congr hp fun t ht => hρ t (by simp [Op.operands, ht])]
  case binOp op' t y z _ =>
    obtain ⟨p, hp, hr1⟩ := bind_some hr
    obtain ⟨q, hq, hr2⟩ := bind_some hr1
    have e1 := ev_congr hp fun t ht => hρ t (by simp [Op.operands, ht])
    have e2 := ev_congr hq fun t ht => hρ t (by simp [Op.operands, ht])
    split at hr2
    · cases hr2; simp only [QOp, stepQ, e1, e2]
    · cases hr2; simp only [QOp, stepQ, e1, e2]
    · cases op' <;> cases hr2 <;> simp only [QOp, stepQ, e1, e2]
    · split at hr2
      · cases op' <;> try cases hr2
        · obtain ⟨ls, hl, rfl⟩ := map_some hr2; simp only [QOp, stepQ, e1, e2]
        · obtain ⟨ls, hl, rfl⟩ := map_some hr2; simp only [QOp, stepQ, e1, e2]
      · cases hr2
    · split at hr2
      · cases op' <;> cases hr2 <;> simp only [QOp, stepQ, e1]
      · cases hr2
    · cases hr2
  case unOp op' t y => obtain ⟨p, hp, rfl⟩ := map_some hr; simp only [QOp, stepQ, ev_congr hp fun t ht => hρ t (by simp [Op.operands, ht])]
  case convert s d y =>
    split at hr
    · obtain ⟨p, hp, rfl⟩ := map_some hr; simp only [QOp, stepQ, ev_congr hp fun t ht => hρ t (by simp [Op.operands, ht])]
    · split at hr
      · obtain ⟨p, hp, rfl⟩ := map_some hr; rfl
      · cases hr
    · cases hr
  case makeSlice t l c =>
    split at hr
    · split at hr
      · split at hr
        · obtain ⟨zs, _, hr1⟩ := bind_some hr
          split at hr1
          · obtain ⟨p, hp, hr2⟩ := bind_some hr1
            obtain ⟨q, hq, rfl⟩ := map_some hr2
            rfl
          · cases hr1
        · cases hr
      · cases hr
    · cases hr
  case slice t y lo hi mx =>
    split at hr
    · obtain ⟨z, hz, hr1⟩ := bind_some hr
      obtain ⟨p, hp, hr2⟩ := bind_some hr1
      obtain ⟨lo', hlo, hr3⟩ := bind_some hr2
      obtain ⟨hi', hhi, hr4⟩ := bind_some hr3
      obtain ⟨mx', hmx, hr5⟩ := bind_some hr4
      split at hr5 <;> cases hr5
      simp only [QOp, stepQ, ev_congr hp fun t ht => hρ t (by simp [Op.operands, ht]), evO_congr hlo fun t ht => hρ t (by simp [Op.operands, ht]), evO_congr hhi fun t ht => hρ t (by simp [Op.operands, ht]), evO_congr hmx fun t ht => hρ t (by simp [Op.operands, ht])]
    · split at hr
      · obtain ⟨p, hp, hr2⟩ := bind_some hr
        obtain ⟨lo', hlo, hr3⟩ := bind_some hr2
        obtain ⟨hi', hhi, rfl⟩ := map_some hr3
        simp only [QOp, stepQ, ev_congr hp fun t ht => hρ t (by simp [Op.operands, ht]), evO_congr hlo fun t ht => hρ t (by simp [Op.operands, ht]), evO_congr hhi fun t ht => hρ t (by simp [Op.operands, ht])]
      · cases hr
    · cases hr
  case fieldAddr t y i =>
    split at hr
    · split at hr
      · obtain ⟨n, hn, hr1⟩ := bind_some hr
        split at hr1
        · cases hr1
        · obtain ⟨p, hp, rfl⟩ := map_some hr1
          simp only [QOp, stepQ, ev_congr hp fun t ht => hρ t (by simp [Op.operands, ht])]
      · cases hr
    · cases hr
  case field t y i =>
    split at hr
    · split at hr
      · obtain ⟨n, hn, hr1⟩ := bind_some hr
        obtain ⟨p, hp, rfl⟩ := map_some hr1
        simp only [QOp, stepQ, ev_congr hp fun t ht => hρ t (by simp [Op.operands, ht])]
      · cases hr
    · cases hr
  case indexAddr t y i =>
    split at hr
    · obtain ⟨z, hz, hr1⟩ := bind_some hr
      obtain ⟨p, hp, hr2⟩ := bind_some hr1
      obtain ⟨q, hq, rfl⟩ := map_some hr2
      simp only [QOp, stepQ, ev_congr hp fun t ht => hρ t (by simp [Op.operands, ht]), ev_congr hq fun t ht => hρ t (by simp [Op.operands, ht])]
    · obtain ⟨z, hz, hr1⟩ := bind_some hr
      obtain ⟨p, hp, hr2⟩ := bind_some hr1
      obtain ⟨q, hq, rfl⟩ := map_some hr2
      simp only [QOp, stepQ, ev_congr hp fun t ht => hρ t (by simp [Op.operands, ht]), ev_congr hq fun t ht => hρ t (by simp [Op.operands, ht])]
    · cases hr
  case index t y i =>
    split at hr
    · obtain ⟨p, hp, hr2⟩ := bind_some hr
      obtain ⟨q, hq, rfl⟩ := map_some hr2
      simp only [QOp, stepQ, ev_congr hp fun t ht => hρ t (by simp [Op.operands, ht]), ev_congr hq fun t ht => hρ t (by simp [Op.operands, ht])]
    · obtain ⟨z, hz, hr1⟩ := bind_some hr
      obtain ⟨k, hk, hr3⟩ := bind_some hr1
      obtain ⟨p, hp, hr2⟩ := bind_some hr3
      obtain ⟨q, hq, rfl⟩ := map_some hr2
      simp only [QOp, stepQ, ev_congr hp fun t ht => hρ t (by simp [Op.operands, ht]), ev_congr hq fun t ht => hρ t (by simp [Op.operands, ht])]
    · cases hr
  case extract y i => obtain ⟨p, hp, rfl⟩ := map_some hr; simp only [QOp, stepQ, ev_congr hp fun t ht => hρ t (by simp [Op.operands, ht])]
  case call c =>
    obtain ⟨callee, args, argTypes⟩ := c
    cases callee with
    | invoke r m => cases hr
    | value f =>
      cases f <;> simp only at hr <;> try cases hr
      obtain ⟨l, hl, rfl⟩ := map_some hr
      simp only [QOp, evL_congr hl fun t ht => hρ t (by simp only [Op.operands, Call.operands, Array.toList_append]; exact List.mem_append_right _ ht)]
    | builtin b =>
      simp only at hr
      split at hr
      · rename_i y t hargs hts
        have hy : ∀ t, y = .tmp t → ρ t = ρ' t := fun t ht => hρ t (by simp [Op.operands, Call.operands, hargs, ht])
        split at hr
        · obtain ⟨p, hp, rfl⟩ := map_some hr; simp only [QOp, stepQ, ev_congr hp hy]
        · obtain ⟨p, hp, rfl⟩ := map_some hr; simp only [QOp, stepQ, ev_congr hp hy]
        · cases hr; rfl
        · cases hr
      · obtain ⟨l, hl, hr1⟩ := bind_some hr
        split at hr1 <;> cases hr1
        simp only [QOp, stepQ, evL_congr hl fun t ht => hρ t (by simpa [Op.operands, Call.operands] using ht)]
      · obtain ⟨l, hl, hr1⟩ := bind_some hr
        split at hr1 <;> cases hr1
        simp only [QOp, stepQ, evL_congr hl fun t ht => hρ t (by simpa [Op.operands, Call.operands] using ht)]
      · split at hr
        · split at hr
          · split at hr
            · split at hr
              · obtain ⟨p, _, hr1⟩ := bind_some hr
                obtain ⟨q, _, rfl⟩ := map_some hr1
                rfl
              · cases hr
            · cases hr
          · cases hr
        · cases hr
      · split at hr
        · split at hr
          · obtain ⟨z, _, hr0⟩ := bind_some hr
            split at hr0
            · obtain ⟨p, _, hr1⟩ := bind_some hr0
              obtain ⟨q, _, rfl⟩ := map_some hr1
              rfl
            · cases hr0
          · cases hr
        · cases hr
      · cases hr

end
end Go.Ab
