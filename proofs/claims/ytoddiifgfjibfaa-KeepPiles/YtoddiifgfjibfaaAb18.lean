/-
  One operation of the abstract run, and a region's operations one behind the other: what they come to, the model's region comes to.
-/
import Derived.Test.YtoddiifgfjibfaaAb17
import Derived.Tactics
namespace Go.Ab
open Go.RowKit

def okK {α : Type} (o : Option α) (K : α → Prop) : Prop := ∃ x, o = some x ∧ K x

def putE (e : Env) (d : Option Nat) (x : AV) : Env :=
  match d with
  | none => e
  | some d => (d, x) :: e

theorem get_put (e : Env) (d : Option Nat) (x : AV) : (putE e d x).get = upd e.get d x := by
  cases d with
  | none => rfl
  | some d =>
    funext t
    simp only [putE, Env.get, upd, List.lookup_cons]
    by_cases h : t = d
    · subst h; simp
    · have : (t == d) = false := by simpa using h
      simp [this, h]

def scalarC : AV → Bool
  | .i .. | .b _ | .s _ => true
  | _ => false

def scalar1 : AV → Bool
  | .agg cs => cs.all scalarC
  | x => scalarC x

def scalar : AV → Bool
  | .tup vs => vs.all scalar1
  | x => scalar1 x

/-- a call that lends no box -/
def callP (P : Program) (f : FuncId) (xs : List AV) (h : Heap) (K : AV → Heap → Prop) : Prop :=
  ∃ ys post, xs.mapM (frz1 h) = some ys ∧ PCall P f ys post ∧ ∀ r, post r → K r (if scalar r then h else shareIds (xs.flatMap refs) h)

/-- A call that is lent boxes. -/
def ACall (P : Program) (f : FuncId) (args : List AV) (hb : Heap) (clk : Nat) (post : AV → Heap → Nat → Prop) : Prop :=
  Enters P f ∧ ∀ (w : World) (S : Nat → Nat → Prop) (M : Map) (cargs : Array Value), cargs.size = args.length →
    (∀ (j : Nat) (v : Value) (c : AV), cargs[j]? = some v → args[j]? = some c → C w S M clk v c) →
    HeapRel w S M clk hb → (∀ k o, S k o → k < w.heap.size) → (∀ g k, M g = some (some k) → k < w.heap.size) →
    Calls P f cargs w fun e w' => ∃ v r h' S' M' clk', e = .returned v ∧ post r h' clk' ∧ C w' S' M' clk' v r ∧ ∀ nt, WRel ⟨P, nt, w, S, M, clk⟩ S' M' clk' h' w'

def refOkC (h : Heap) : AV → Bool
  | .bs id g z _ _ => (boxAt h id g z).isSome
  | .ptr id g z _ _ => (boxAt h id g z).isSome
  | .agg _ | .tup _ => false
  | _ => true

def refOk1 (h : Heap) : AV → Bool
  | .agg cs => cs.all (refOkC h)
  | x => refOkC h x

def refOk (h : Heap) : AV → Bool
  | .tup vs => vs.all (refOk1 h)
  | x => refOk1 h x

def heapOk (h : Heap) : Bool := h.all fun p => match p.2.kind with
  | .str => p.2.els.all fun r => r.all (refOkC h)
  | _ => true

def callB (P : Program) (f : FuncId) (xs : List AV) (h : Heap) (clk : Nat) (K : AV → Heap → Nat → Prop) : Prop :=
  ∃ hb hr post, (∀ id, h.lookup id = (hb ++ hr).lookup id) ∧ (∀ id, (hb.lookup id).isSome → hr.lookup id = none) ∧ ACall P f xs hb clk post ∧
    ∀ r hb' clk', clk ≤ clk' → post r hb' clk' → (∀ id, (hb'.lookup id).isSome → hr.lookup id = none) ∧ refOk hb' r = true ∧ heapOk hb' = true ∧ K r (hb' ++ hr) clk'

def byteOfRow : List AV → Option UInt8
  | [AV.i .u8 n] => some (UInt8.ofNat n.toNat)
  | _ => none

def bstrAV (h : Heap) (x : AV) : Option AV :=
  (rowOf h 1 x).bind fun els => (els.mapM byteOfRow).map AV.s

/-- operations that make or change boxes -/
def stepW (op : AOp) (d : Option Nat) (ρ : Nat → AV) (h : Heap) (clk : Nat) : Option (AV × Heap × Nat) :=
  match op with
  | .alloc zs => allocAV zs d h clk
  | .store n x v => (storeAV n h (ev ρ x) (ev ρ v)).map fun h' => (.tup [], h', clk)
  | .mks z zs l c => mksAV z zs d h clk (ev ρ l) (ev ρ c)
  | .app z x y => appAV z d h clk (ev ρ x) (ev ρ y)
  | _ => none

/-- one operation -/
def opK (P : Program) (op : AOp) (d : Option Nat) (st : St) (K : St → Prop) : Prop :=
  match op with
  | .call f args =>
    callP P f (args.map (ev st.env.get)) st.heap (fun r h => K ⟨putE st.env d r, h, st.clk⟩) ∨
    callB P f (args.map (ev st.env.get)) st.heap st.clk (fun r h c => K ⟨putE st.env d r, h, c⟩)
  | .alloc .. | .store .. | .mks .. | .app .. => okK (stepW op d st.env.get st.heap st.clk) fun q => K ⟨putE st.env d q.1, q.2.1, q.2.2⟩
  | .bsl z zs len ps => okK (bslAV z zs len st.heap (ps.map fun p => (p.1, ev st.env.get p.2))) fun q => K ⟨putE st.env d q.1, q.2, st.clk⟩
  | op => okK (stepQ op st.env.get st.heap) fun x => K ⟨putE st.env d x, st.heap, st.clk⟩

def stepK (P : Program) (o : AO) (st : St) (K : St → Prop) : Prop :=
  match o.guard with
  | none => opK P o.op o.dst st K
  | some (t, want) =>
    match st.env.get t with
    | .b v => if v = want then opK P o.op o.dst st K else K ⟨putE st.env o.dst (.tup []), st.heap, st.clk⟩
    | .tup _ => K ⟨putE st.env o.dst (.tup []), st.heap, st.clk⟩
    | _ => False

def runK (P : Program) : List AO → St → (St → Prop) → Prop
  | [], st, K => K st
  | o :: r, st, K => stepK P o st fun st' => runK P r st' K

section
variable {P : Program} {cx : Cx} {w w' : World} {S S' : Nat → Nat → Prop} {M : Map} {clk : Nat} {h : Heap} {ρ : Nat → AV} {a : Act}

theorem Rel.put {st : St} {d : Option Nat} {v : Value} {x : AV} {h' : Heap} {clk' : Nat} (hr : RelF cx S M clk' h' st.env.get a w) (hd : ∀ e, d = some e → e < cx.nt) (hC : C w S M clk' v x) : Rel cx ⟨putE st.env d x, h', clk'⟩ (a.put d v) w := by
  refine ⟨S, M, ?_⟩
  show RelF cx S M clk' h' (putE st.env d x).get _ w
  rw [get_put]
  exact hr.put hd hC

theorem CP_scalarC {v : Value} {x : AV} {S1 S2 : Nat → Nat → Prop} (h : CP w S1 v x) (hx : scalarC x = true) : CP w S2 v x := by
  cases h <;> first | (cases hx; done) | exact .i _ _ | exact .b _ | exact .s _

theorem CP_scalar1 {v : Value} {x : AV} {S1 S2 : Nat → Nat → Prop} (h : CP w S1 v x) (hx : scalar1 x = true) : CP w S2 v x := by
  cases x
  case agg cs =>
    cases h with
    | agg vs cs hl h1 h =>
      exact .agg vs cs hl h1 fun j v c hv hc => CP_scalarC (h j v c hv hc) (List.all_eq_true.1 hx c (List.mem_of_getElem? hc))
  all_goals exact CP_scalarC h hx

theorem CP_scalar {v : Value} {x : AV} {S1 S2 : Nat → Nat → Prop} (h : CP w S1 v x) (hx : scalar x = true) : CP w S2 v x := by
  cases x
  case tup cs =>
    cases h with
    | tup vs cs hl h =>
      exact .tup vs cs hl fun j v c hv hc => CP_scalar1 (h j v c hv hc) (List.all_eq_true.1 hx c (List.mem_of_getElem? hc))
  all_goals exact CP_scalar1 h hx

theorem mapM_C {xs ys : List AV} (hm : xs.mapM (frz1 h) = some ys) (hh : HeapRel w S M clk h) {vs : List Value} (hl : vs.length = xs.length) (hc : ∀ (j : Nat) (v : Value) (c : AV), vs[j]? = some v → xs[j]? = some c → C w S M clk v c) :
    vs.length = ys.length ∧ ∀ (j : Nat) (v : Value) (c : AV), vs[j]? = some v → ys[j]? = some c → CP w (cellsS h M (xs.flatMap refs) S) v c := by
  obtain ⟨h1, h2⟩ := mapM_some _ _ hm
  refine ⟨by omega, fun j v y hv hy => ?_⟩
  have hj : j < xs.length := by have := get_lt hv; omega
  have hx : xs[j]? = some (xs[j]'hj) := List.getElem?_eq_getElem hj
  exact frz1_CP hh (hc j v _ hv hx) (h2 j _ _ hx hy) fun id hid => List.mem_flatMap.2 ⟨_, List.mem_of_getElem? hx, hid⟩

theorem frz_of_frz1 {x y : AV} (hf : frz1 h x = some y) : frz h x = some y := by
  cases x <;> first | exact hf | (simp [frz1, frzC] at hf)

theorem mapM_kind {xs ys : List AV} (hm : xs.mapM (frz1 h) = some ys) : ∀ id bx, id ∈ xs.flatMap refs → h.lookup id = some bx → bx.kind ≠ .str := by
  obtain ⟨h1, h2⟩ := mapM_some _ _ hm
  intro id bx hid hb
  obtain ⟨x, hx, hid⟩ := List.mem_flatMap.1 hid
  obtain ⟨j, hj⟩ := List.getElem?_of_mem hx
  have hjl : j < ys.length := by have := get_lt hj; omega
  exact frz_kind (frz_of_frz1 (h2 j x _ hj (List.getElem?_eq_getElem hjl))) id bx hid hb

theorem shareExt (ids : List BId) : Ext w S M clk w (cellsS h M ids S) M clk :=
  ⟨fun _ _ hs => .inl hs, fun _ _ _ _ hc => hc, Nat.le_refl _, fun _ _ _ hm => hm, fun _ _ arr _ _ _ hb => ⟨arr, hb, rfl⟩⟩

theorem RelF.share (hr : RelF cx S M clk h ρ a w) (ids : List BId) (hk : ∀ id bx, id ∈ ids → h.lookup id = some bx → bx.kind ≠ .str) : RelF cx (cellsS h M ids S) M clk (shareIds ids h) ρ a w :=
  ⟨hr.size, hr.defers, fun t => (hr.env t).mono (shareExt ids), hr.wr.share ids hk⟩

theorem sound_callP {f : FuncId} {xs : List AV} {cargs : Array Value} {K : AV → Heap → Prop} (hr : RelF cx S M clk h ρ a w) (hc : callP P f xs h K) (hl : cargs.size = xs.length) (hC : ∀ (j : Nat) (v : Value) (c : AV), cargs[j]? = some v → xs[j]? = some c → C w S M clk v c) :
    Enters P f ∧ Calls P f cargs w fun e w' => ∃ v r h' S' M', e = .returned v ∧ K r h' ∧ RelF cx S' M' clk h' ρ a w' ∧ C w' S' M' clk v r := by
  obtain ⟨ys, post, hm, hp, hK⟩ := hc
  obtain ⟨h1, h2⟩ := mapM_C hm hr.wr.heap (vs := cargs.toList) (by simpa using hl) (fun j v c hv hx => hC j v c (by simpa using hv) hx)
  have hr1 := hr.share (xs.flatMap refs) (mapM_kind hm)
  refine ⟨hp.1, (hp.2 w _ cargs (by simpa using h1) (fun j v c hv hx => h2 j v c (by simpa using hv) hx) hr1.wr.Slt).mono fun e w' ⟨v, r, he, hpr, hb, hC⟩ => ?_⟩
  have hk := hK r hpr
  by_cases hsc : scalar r = true
  · rw [if_pos hsc] at hk
    exact ⟨v, r, h, _, M, he, hk, hr.below hb, .p (CP_scalar hC hsc)⟩
  · rw [if_neg hsc] at hk
    exact ⟨v, r, _, _, M, he, hk, hr1.below hb, .p hC⟩

theorem agreeC {M' : Map} {v : Value} {x : AV} (hv : C w S M clk v x) (hx : refOkC h x = true) (ha : ∀ id g z bx, boxAt h id g z = some bx → M' g = M g) : C w S M' clk v x := by
  cases x <;> simp only [refOkC] at hx <;> try (exact .p (hv.pureC rfl))
  case bs id g z off n =>
    obtain ⟨bx, hb⟩ := Option.isSome_iff_exists.1 hx
    obtain ⟨h1, h2, h3⟩ := hv.inv_bs
    exact .bs _ _ _ _ _ _ h1 (by rw [ha _ _ _ _ hb]; exact h2) h3
  case ptr id g z i o =>
    obtain ⟨bx, hb⟩ := Option.isSome_iff_exists.1 hx
    obtain ⟨h1, h2, h3⟩ := hv.inv_ptr
    exact .ptr _ _ _ _ _ _ h1 (by rw [ha _ _ _ _ hb]; exact h2) h3
  all_goals cases hx

theorem agree1 {M' : Map} {v : Value} {x : AV} (hv : C w S M clk v x) (hx : refOk1 h x = true) (ha : ∀ id g z bx, boxAt h id g z = some bx → M' g = M g) : C w S M' clk v x := by
  cases x
  case agg cs =>
    obtain ⟨vs, rfl, hl, h1, hc⟩ := hv.inv_agg
    exact .agg vs cs hl h1 fun j v c hv hc' => agreeC (hc j v c hv hc') (List.all_eq_true.1 hx c (List.mem_of_getElem? hc')) ha
  all_goals exact agreeC hv hx ha

theorem agree {M' : Map} {v : Value} {x : AV} (hv : C w S M clk v x) (hx : refOk h x = true) (ha : ∀ id g z bx, boxAt h id g z = some bx → M' g = M g) : C w S M' clk v x := by
  cases x
  case tup cs =>
    obtain ⟨vs, rfl, hl, hc⟩ := hv.inv_tup
    exact .tup vs cs hl fun j v c hv hc' => agree1 (hc j v c hv hc') (List.all_eq_true.1 hx c (List.mem_of_getElem? hc')) ha
  all_goals exact agree1 hv hx ha

theorem lookup_append (hb hr : Heap) (id : BId) : (hb ++ hr).lookup id = (hb.lookup id).or (hr.lookup id) := by
  induction hb with
  | nil => simp
  | cons p hb ih =>
    obtain ⟨b, bx⟩ := p
    simp only [List.cons_append, List.lookup_cons]
    split
    · rfl
    · exact ih

theorem sound_callB {f : FuncId} {xs : List AV} {cargs : Array Value} {K : AV → Heap → Nat → Prop} (hr : RelF cx S M clk h ρ a w) (hc : callB P f xs h clk K) (hl : cargs.size = xs.length) (hC : ∀ (j : Nat) (v : Value) (c : AV), cargs[j]? = some v → xs[j]? = some c → C w S M clk v c) :
    Enters P f ∧ Calls P f cargs w fun e w' => ∃ v r h' S' M' clk', e = .returned v ∧ K r h' clk' ∧ RelF cx S' M' clk' h' ρ a w' ∧ C w' S' M' clk' v r := by
  obtain ⟨hb, hs, post, hsplit, hdis, hp, hK⟩ := hc
  have hlb : ∀ id bx, hb.lookup id = some bx → h.lookup id = some bx := by
    intro id bx hx
    rw [hsplit, lookup_append, hx]; rfl
  have hls : ∀ id bx, hs.lookup id = some bx → h.lookup id = some bx := by
    intro id bx hx
    rw [hsplit, lookup_append]
    cases hbx : hb.lookup id with
    | none => simpa using hx
    | some b => have := hdis id (by rw [hbx]; rfl); rw [hx] at this; cases this
  have hno : ∀ g, Live hb g → Live hs g → False := by
    intro g ⟨b, bx, h1, h2⟩ ⟨b', bx', h3, h4⟩
    have := hr.wr.heap.gens _ _ _ _ (hlb _ _ h1) (hls _ _ h3) (h2.trans h4.symm)
    subst this
    have := hdis b (by rw [h1]; rfl)
    rw [h3] at this
    cases this
  classical
  generalize hMb : (fun g => if Live hb g then M g else none : Map) = Mb
  have hMb1 : ∀ g m, Mb g = some m → Live hb g ∧ M g = some m := by
    intro g m hm
    rw [← hMb] at hm
    simp only at hm
    split at hm
    · exact ⟨‹_›, hm⟩
    · cases hm
  have hMb2 : ∀ g, Live hb g → Mb g = M g := by intro g hg; rw [← hMb]; simp [hg]
  have hxb : Ext w S M clk w S Mb clk := ⟨fun _ _ hs => hs, fun _ _ _ _ hc => hc, Nat.le_refl _, fun g m _ hm => (hMb1 g m hm).2, fun _ _ arr _ _ _ hb => ⟨arr, hb, rfl⟩⟩
  have hheap : HeapRel w S Mb clk hb := by
    refine ⟨fun b bx hx => ?_, fun g m hm => (hMb1 g m hm).1, fun b bx b' bx' h1 h2 hg => hr.wr.heap.gens _ _ _ _ (hlb _ _ h1) (hlb _ _ h2) hg, fun g g' k h1 h2 => hr.wr.heap.inj _ _ _ (hMb1 _ _ h1).2 (hMb1 _ _ h2).2⟩
    exact (hr.wr.heap.box b bx (hlb _ _ hx)).mono hxb (hMb2 _ ⟨b, bx, hx, rfl⟩) (fun _ _ => rfl) fun _ _ _ hs => hs
  refine ⟨hp.1, (hp.2 w S Mb cargs hl (fun j v c hv hc => (hC j v c hv hc).mono hxb) hheap hr.wr.Slt fun g k hm => (hr.wr.Mnew g k (hMb1 g _ hm).2).1).mono ?_⟩
  intro e w' ⟨v, r, h', S', M', clk', he, hpr, hCr, hw⟩
  have hw := hw 0
  have hclk := hw.ext.hclk
  obtain ⟨hdis', hro, hho, hk⟩ := hK r h' clk' hclk hpr
  simp only at hclk
  generalize hMM : (fun g => if Live hs g then M g else M' g : Map) = MM
  have hMM1 : ∀ g, Live hs g → MM g = M g := by intro g hg; rw [← hMM]; simp [hg]
  have hMM2 : ∀ g, ¬ Live hs g → MM g = M' g := by intro g hg; rw [← hMM]; simp [hg]
  have hgs : ∀ g, Live hs g → g < clk := by intro g ⟨b, bx, h1, h2⟩; rw [← h2]; exact (hr.wr.heap.box b bx (hls _ _ h1)).1
  have hM's : ∀ g m, Live hs g → M' g = some m → False := by
    intro g m hg hm
    have := hw.ext.hM g m (hgs g hg) hm
    exact hno g (hMb1 g m this).1 hg
  have hbrw : ∀ g k, Live hs g → M g = some (some k) → ¬ (⟨P, 0, w, S, Mb, clk⟩ : Cx).brw k := by
    intro g k hg hm ⟨g2, h2⟩
    obtain ⟨h3, h4⟩ := hMb1 _ _ h2
    have := hr.wr.heap.inj _ _ _ hm h4
    subst this
    exact hno _ h3 hg
  have hsame : ∀ g k, Live hs g → M g = some (some k) → w'.heap[k]? = w.heap[k]? := fun g k hg hm => hw.fr.block k (hr.wr.Mnew g k hm).1 (hbrw g k hg hm)
  have hx : Ext w S M clk w' S' MM clk' := by
    refine ⟨hw.ext.hS, hw.ext.hcell, hclk, fun g m hg hm => ?_, fun g k arr e hg hm hbk => ?_⟩
    · by_cases hl : Live hs g
      · rw [hMM1 g hl] at hm; exact hm
      · rw [hMM2 g hl] at hm; exact (hMb1 g m (hw.ext.hM g m hg hm)).2
    · by_cases hl : Live hs g
      · rw [hMM1 g hl] at hm
        exact ⟨arr, by rw [hsame g k hl hm]; exact hbk, rfl⟩
      · rw [hMM2 g hl] at hm
        exact hw.ext.hblk g k arr e hg hm hbk
  have hagree : ∀ id g z bx, boxAt h' id g z = some bx → MM g = M' g := by
    intro id g z bx hb
    obtain ⟨hlk, hg, _⟩ := boxAt_some hb
    obtain ⟨_, _, m, hm, _⟩ := hw.heap.box id bx hlk
    rw [hg] at hm
    exact hMM2 g fun hl => hM's g m hl hm
  have hSs : ∀ g k o, Live hs g → M g = some (some k) → S' k o → S k o := by
    intro g k o hl hm hs'
    rcases hw.Snew k o hs' with h1 | h1 | h1
    · exact h1
    · have := (hr.wr.Mnew g k hm).1; simp only at h1; omega
    · exact absurd h1 (hbrw g k hl hm)
  refine ⟨v, r, h' ++ hs, S', MM, clk', he, hk, ⟨hr.size, hr.defers, fun t => (hr.env t).mono hx, ?_⟩, agree hCr hro hagree⟩
  have hlook : ∀ id bx, (h' ++ hs).lookup id = some bx → h'.lookup id = some bx ∨ (h'.lookup id = none ∧ hs.lookup id = some bx) := by
    intro id bx hb
    rw [lookup_append] at hb
    cases hq : h'.lookup id with
    | none => rw [hq] at hb; exact .inr ⟨rfl, by simpa using hb⟩
    | some b => rw [hq] at hb; exact .inl (by simpa using hb)
  refine ⟨⟨fun b bx hb => ?_, fun g m hm => ?_, fun b bx b' bx' h1 h2 hg => ?_, fun g g' k h1 h2 => ?_⟩, hr.wr.ext.trans hx, ?_, fun k o hs' => ?_, hw.Slt, fun g k hm => ?_⟩
  · rcases hlook b bx hb with h1 | ⟨_, h1⟩
    · obtain ⟨b1, b2, m, hm, b3⟩ := hw.heap.box b bx h1
      have hba : boxAt h' b bx.gen bx.z = some bx := by simp [boxAt, h1]
      refine ⟨b1, b2, m, by rw [hagree _ _ _ _ hba]; exact hm, ?_⟩
      cases m with
      | none => exact b3
      | some k =>
        obtain ⟨arr, e, hh, hsz, hc, ho, hl⟩ := b3
        refine ⟨arr, e, hh, hsz, fun i r j c hi hj => ?_, ho, hl⟩
        obtain ⟨u, hu, hone, hC, hP⟩ := hc i r j c hi hj
        refine ⟨u, hu, hone, ?_, hP⟩
        by_cases hkd : bx.kind = .str
        · have hmem : (b, bx) ∈ h' := by
            clear hk hro hpr hho hagree hdis' hC hP hb hba hlook
            induction h' with
            | nil => simp at h1
            | cons p l ih =>
              obtain ⟨b', bx'⟩ := p
              simp only [List.lookup_cons] at h1
              split at h1
              · rename_i heq
                have := eq_of_beq heq
                subst this
                cases h1
                simp
              · exact List.mem_cons_of_mem _ (by
                  have : ∀ (l : Heap), l.lookup b = some bx → (b, bx) ∈ l := by
                    intro l
                    induction l with
                    | nil => intro h; simp at h
                    | cons q l ih2 =>
                      intro h
                      obtain ⟨q1, q2⟩ := q
                      simp only [List.lookup_cons] at h
                      split at h
                      · rename_i heq2; have := eq_of_beq heq2; subst this; cases h; simp
                      · exact List.mem_cons_of_mem _ (ih2 h)
                  exact this l h1)
          have h5 := List.all_eq_true.1 hho _ hmem
          simp only [hkd] at h5
          have h6 := List.all_eq_true.1 (List.all_eq_true.1 h5 r (List.mem_of_getElem? hi)) c (List.mem_of_getElem? hj)
          exact agreeC hC h6 hagree
        · exact .p (hP hkd)
    · have hl : Live hs bx.gen := ⟨b, bx, h1, rfl⟩
      exact (hr.wr.heap.box b bx (hls _ _ h1)).mono hx (hMM1 _ hl) (fun k hm => hsame _ k hl hm) fun k o hm hs' => hSs _ k o hl hm hs'
  · by_cases hl : Live hs g
    · obtain ⟨b, bx, h1, h2⟩ := hl
      refine ⟨b, bx, ?_, h2⟩
      rw [lookup_append]
      cases hq : h'.lookup b with
      | none => simpa using h1
      | some b0 => have := hdis' b (by rw [hq]; rfl); rw [h1] at this; cases this
    · rw [hMM2 g hl] at hm
      obtain ⟨b, bx, h1, h2⟩ := hw.heap.live g m hm
      exact ⟨b, bx, by rw [lookup_append, h1]; rfl, h2⟩
  · have mix : ∀ b bx b' bx', h'.lookup b = some bx → hs.lookup b' = some bx' → bx.gen = bx'.gen → False := by
      intro b bx b' bx' h1 h2 hg
      obtain ⟨_, _, m, hm, _⟩ := hw.heap.box b bx h1
      exact hM's bx'.gen m ⟨b', bx', h2, rfl⟩ (by rw [← hg]; exact hm)
    rcases hlook b bx h1 with h1 | ⟨_, h1⟩ <;> rcases hlook b' bx' h2 with h2 | ⟨_, h2⟩
    · exact hw.heap.gens _ _ _ _ h1 h2 hg
    · exact (mix _ _ _ _ h1 h2 hg).elim
    · exact (mix _ _ _ _ h2 h1 hg.symm).elim
    · exact hr.wr.heap.gens _ _ _ _ (hls _ _ h1) (hls _ _ h2) hg
  · have mix : ∀ g1 g2, Live hs g1 → M g1 = some (some k) → M' g2 = some (some k) → False := by
      intro g1 g2 hl hm1 hm2
      rcases (hw.Mnew g2 k hm2).2 with h3 | h3
      · have := (hr.wr.Mnew g1 k hm1).1; simp only at h3; omega
      · exact hbrw g1 k hl hm1 h3
    by_cases l1 : Live hs g <;> by_cases l2 : Live hs g'
    · rw [hMM1 _ l1] at h1; rw [hMM1 _ l2] at h2; exact hr.wr.heap.inj _ _ _ h1 h2
    · rw [hMM1 _ l1] at h1; rw [hMM2 _ l2] at h2; exact (mix _ _ l1 h1 h2).elim
    · rw [hMM2 _ l1] at h1; rw [hMM1 _ l2] at h2; exact (mix _ _ l2 h2 h1).elim
    · rw [hMM2 _ l1] at h1; rw [hMM2 _ l2] at h2; exact hw.heap.inj _ _ _ h1 h2
  · refine ⟨hw.fr.os.trans hr.wr.fr.os, hw.fr.tape.trans hr.wr.fr.tape, hw.fr.output.trans hr.wr.fr.output, Nat.le_trans hr.wr.fr.size hw.fr.size, fun k hk hn => ?_⟩
    have := hr.wr.fr.size
    rw [hw.fr.block k (by simp only; omega) fun ⟨g, hm⟩ => ?_]
    · exact hr.wr.fr.block k hk hn
    · rcases (hr.wr.Mnew g k (hMb1 g _ hm).2).2 with h3 | h3
      · omega
      · exact hn h3
  · have hsz := hr.wr.fr.size
    rcases hw.Snew k o hs' with h1 | h1 | ⟨g, h1⟩
    · exact hr.wr.Snew k o h1
    · simp only at h1; exact .inr (.inl (by omega))
    · rcases (hr.wr.Mnew g k (hMb1 g _ h1).2).2 with h3 | h3
      · exact .inr (.inl h3)
      · exact .inr (.inr h3)
  · have hsz := hr.wr.fr.size
    by_cases hl : Live hs g
    · rw [hMM1 g hl] at hm
      exact ⟨Nat.lt_of_lt_of_le (hr.wr.Mnew g k hm).1 hw.fr.size, (hr.wr.Mnew g k hm).2⟩
    · rw [hMM2 g hl] at hm
      obtain ⟨h1, h2⟩ := hw.Mnew g k hm
      refine ⟨h1, ?_⟩
      rcases h2 with h2 | ⟨g2, h2⟩
      · simp only at h2; exact .inl (by omega)
      · exact (hr.wr.Mnew g2 k (hMb1 g2 _ h2).2).2

end
end Go.Ab
