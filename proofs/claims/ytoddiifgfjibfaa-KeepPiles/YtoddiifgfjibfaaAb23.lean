/-
  Rules that let the simplifier walk an abstract region.
-/
import Derived.Test.YtoddiifgfjibfaaAb22
namespace Go.Ab
open Go.RowKit

section
variable {α β : Type} {P : Program} {K : St → Prop}

@[simp] theorem okK_some {x : α} {K : α → Prop} : okK (some x) K ↔ K x := ⟨fun ⟨y, h, hk⟩ => (by cases h; exact hk), fun h => ⟨x, rfl, h⟩⟩
@[simp] theorem okK_none {K : α → Prop} : okK none K ↔ False := ⟨fun ⟨y, h, hk⟩ => (by cases h), fun h => h.elim⟩
@[simp] theorem okK_bind {o : Option α} {f : α → Option β} {K : β → Prop} : okK (o.bind f) K ↔ okK o fun x => okK (f x) K := by
  cases o <;> simp [okK]
@[simp] theorem okK_map {o : Option α} {f : α → β} {K : β → Prop} : okK (o.map f) K ↔ okK o fun x => K (f x) := by
  cases o <;> simp [okK]
@[simp] theorem okK_ite {c : Prop} [Decidable c] {x : Option α} {K : α → Prop} : okK (if c then x else none) K ↔ c ∧ okK x K := by
  by_cases h : c <;> simp [h, okK]
theorem okK_of {o : Option α} {x : α} {K : α → Prop} (h : o = some x) (hk : K x) : okK o K := ⟨x, h, hk⟩

@[simp] theorem get_cons (t d : Nat) (x : AV) (e : Env) : Env.get ((d, x) :: e) t = if t = d then x else e.get t := by
  simp only [Env.get, List.lookup_cons]
  by_cases h : t = d
  · subst h; simp
  · have : (t == d) = false := by simpa using h
    simp [this, h]
@[simp] theorem get_nil (t : Nat) : Env.get [] t = .dead := rfl

/-! the simplifier looks at the state first, and at what stands behind only when its turn comes -/
@[congr] theorem okK_congr {o o' : Option α} {K : α → Prop} (h : o = o') : okK o K = okK o' K := by rw [h]
@[congr] theorem opK_congr {op : AOp} {d : Option Nat} {st st' : St} {K : St → Prop} (h : st = st') : opK P op d st K = opK P op d st' K := by rw [h]
@[congr] theorem stepK_congr {o : AO} {st st' : St} {K : St → Prop} (h : st = st') : stepK P o st K = stepK P o st' K := by rw [h]
@[congr] theorem runK_congr {l : List AO} {st st' : St} {K : St → Prop} (h : st = st') : runK P l st K = runK P l st' K := by rw [h]
@[congr] theorem AWp_congr {cx : Cx} {c : AC} {Q : Exit → St → Prop} {st st' : St} (h : st = st') : AWp cx c Q st = AWp cx c Q st' := by rw [h]

@[simp] theorem runK_nil {st : St} : runK P [] st K ↔ K st := Iff.rfl
@[simp] theorem runK_cons {o : AO} {l : List AO} {st : St} : runK P (o :: l) st K ↔ stepK P o st fun st' => runK P l st' K := Iff.rfl
@[simp] theorem stepK_none {d : Option Nat} {op : AOp} {st : St} : stepK P ⟨d, none, op⟩ st K ↔ opK P op d st K := Iff.rfl
@[simp] theorem putE_none (e : Env) (x : AV) : putE e none x = e := rfl
@[simp] theorem putE_some (e : Env) (d : Nat) (x : AV) : putE e (some d) x = (d, x) :: e := rfl
@[simp] theorem ev_t (e : Nat → AV) (n : Nat) : ev e (.t n) = e n := rfl
@[simp] theorem ev_c (e : Nat → AV) (x : AV) : ev e (.c x) = x := rfl
@[simp] theorem thenK_normal {N : St → Prop} {Q : Exit → St → Prop} {st : St} : thenK N Q .normal st ↔ N st := Iff.rfl
@[simp] theorem thenK_exit {N : St → Prop} {Q : Exit → St → Prop} {st : St} {id : Nat} : thenK N Q (.exit id) st ↔ Q (.exit id) st := Iff.rfl
@[simp] theorem thenK_ret {N : St → Prop} {Q : Exit → St → Prop} {st : St} : thenK N Q .ret st ↔ Q .ret st := Iff.rfl
@[simp] theorem blockK_normal {id : Nat} {Q : Exit → St → Prop} {st : St} : blockK id Q .normal st ↔ Q .normal st := Iff.rfl
@[simp] theorem blockK_ret {id : Nat} {Q : Exit → St → Prop} {st : St} : blockK id Q .ret st ↔ Q .ret st := Iff.rfl
@[simp] theorem blockK_exit {id id' : Nat} {Q : Exit → St → Prop} {st : St} : blockK id Q (.exit id') st ↔ if id' = id then Q .normal st else Q (.exit id') st := Iff.rfl

/-- a guarded operation -/
theorem stepK_guard {d : Option Nat} {t : Nat} {want v : Bool} {op : AOp} {st : St} (h : st.env.get t = .b v) (h1 : v = want → opK P op d st K) (h2 : v = !want → K ⟨putE st.env d (.tup []), st.heap, st.clk⟩) : stepK P ⟨d, some (t, want), op⟩ st K := by
  simp only [stepK, h]
  split
  · exact h1 ‹_›
  · rename_i hne
    refine h2 ?_
    cases v <;> cases want <;> simp_all
def gK (P : Program) (x : AV) (want : Bool) (op : AOp) (d : Option Nat) (st : St) (K : St → Prop) : Prop :=
  match x with
  | .b v => if v = want then opK P op d st K else K ⟨putE st.env d (.tup []), st.heap, st.clk⟩
  | .tup _ => K ⟨putE st.env d (.tup []), st.heap, st.clk⟩
  | _ => False
@[congr] theorem gK_congr {x x' : AV} {want : Bool} {op : AOp} {d : Option Nat} {st : St} (h : x = x') : gK P x want op d st K = gK P x' want op d st K := by rw [h]
@[simp] theorem stepK_some {d : Option Nat} {op : AOp} {t : Nat} {want : Bool} {st : St} : stepK P ⟨d, some (t, want), op⟩ st K ↔ gK P (st.env.get t) want op d st K := by
  unfold stepK gK
  rfl
@[simp] theorem gK_b {v want : Bool} {op : AOp} {d : Option Nat} {st : St} : gK P (.b v) want op d st K ↔ if v = want then opK P op d st K else K ⟨putE st.env d (.tup []), st.heap, st.clk⟩ := Iff.rfl
@[simp] theorem gK_tup {vs : List AV} {want : Bool} {op : AOp} {d : Option Nat} {st : St} : gK P (.tup vs) want op d st K ↔ K ⟨putE st.env d (.tup []), st.heap, st.clk⟩ := Iff.rfl

theorem opK_call {f : FuncId} {args : List Opd} {d : Option Nat} {st : St} {ys : List AV} {post : AV → Prop} (hp : PCall P f ys post) (hy : (args.map (ev st.env.get)).mapM (frz1 st.heap) = some ys)
    (hk : ∀ r, post r → K ⟨putE st.env d r, if scalar r then st.heap else shareIds ((args.map (ev st.env.get)).flatMap refs) st.heap, st.clk⟩) : opK P (.call f args) d st K :=
  .inl ⟨ys, post, hy, hp, hk⟩
@[simp] theorem opK_bsl {z n : Nat} {zs : List AV} {ps : List (Nat × Opd)} {d : Option Nat} {st : St} : opK P (.bsl z zs n ps) d st K ↔ okK (bslAV z zs n st.heap (ps.map fun p => (p.1, ev st.env.get p.2))) fun q => K ⟨putE st.env d q.1, q.2, st.clk⟩ := Iff.rfl
@[simp] theorem opK_mov {x} {d : Option Nat} {st : St} : opK P (.mov x) d st K ↔ okK (stepQ (.mov x) st.env.get st.heap) fun x => K ⟨putE st.env d x, st.heap, st.clk⟩ := Iff.rfl
@[simp] theorem opK_pick {c a b} {d : Option Nat} {st : St} : opK P (.pick c a b) d st K ↔ okK (stepQ (.pick c a b) st.env.get st.heap) fun x => K ⟨putE st.env d x, st.heap, st.clk⟩ := Iff.rfl
@[simp] theorem opK_build {zs ps} {d : Option Nat} {st : St} : opK P (.build zs ps) d st K ↔ okK (stepQ (.build zs ps) st.env.get st.heap) fun x => K ⟨putE st.env d x, st.heap, st.clk⟩ := Iff.rfl
@[simp] theorem opK_load {n x} {d : Option Nat} {st : St} : opK P (.load n x) d st K ↔ okK (stepQ (.load n x) st.env.get st.heap) fun x => K ⟨putE st.env d x, st.heap, st.clk⟩ := Iff.rfl
@[simp] theorem opK_bin {o x y} {d : Option Nat} {st : St} : opK P (.bin o x y) d st K ↔ okK (stepQ (.bin o x y) st.env.get st.heap) fun x => K ⟨putE st.env d x, st.heap, st.clk⟩ := Iff.rfl
@[simp] theorem opK_eqs {g ls x y} {d : Option Nat} {st : St} : opK P (.eqs g ls x y) d st K ↔ okK (stepQ (.eqs g ls x y) st.env.get st.heap) fun x => K ⟨putE st.env d x, st.heap, st.clk⟩ := Iff.rfl
@[simp] theorem opK_eqnil {g x} {d : Option Nat} {st : St} : opK P (.eqnil g x) d st K ↔ okK (stepQ (.eqnil g x) st.env.get st.heap) fun x => K ⟨putE st.env d x, st.heap, st.clk⟩ := Iff.rfl
@[simp] theorem opK_eqb {g x y} {d : Option Nat} {st : St} : opK P (.eqb g x y) d st K ↔ okK (stepQ (.eqb g x y) st.env.get st.heap) fun x => K ⟨putE st.env d x, st.heap, st.clk⟩ := Iff.rfl
@[simp] theorem opK_un {o x} {d : Option Nat} {st : St} : opK P (.un o x) d st K ↔ okK (stepQ (.un o x) st.env.get st.heap) fun x => K ⟨putE st.env d x, st.heap, st.clk⟩ := Iff.rfl
@[simp] theorem opK_conv {k x} {d : Option Nat} {st : St} : opK P (.conv k x) d st K ↔ okK (stepQ (.conv k x) st.env.get st.heap) fun x => K ⟨putE st.env d x, st.heap, st.clk⟩ := Iff.rfl
@[simp] theorem opK_slc {z x lo hi mx} {d : Option Nat} {st : St} : opK P (.slc z x lo hi mx) d st K ↔ okK (stepQ (.slc z x lo hi mx) st.env.get st.heap) fun x => K ⟨putE st.env d x, st.heap, st.clk⟩ := Iff.rfl
@[simp] theorem opK_slstr {x lo hi} {d : Option Nat} {st : St} : opK P (.slstr x lo hi) d st K ↔ okK (stepQ (.slstr x lo hi) st.env.get st.heap) fun x => K ⟨putE st.env d x, st.heap, st.clk⟩ := Iff.rfl
@[simp] theorem opK_fad {n x} {d : Option Nat} {st : St} : opK P (.fad n x) d st K ↔ okK (stepQ (.fad n x) st.env.get st.heap) fun x => K ⟨putE st.env d x, st.heap, st.clk⟩ := Iff.rfl
@[simp] theorem opK_fld {o n x} {d : Option Nat} {st : St} : opK P (.fld o n x) d st K ↔ okK (stepQ (.fld o n x) st.env.get st.heap) fun x => K ⟨putE st.env d x, st.heap, st.clk⟩ := Iff.rfl
@[simp] theorem opK_iad {z x i} {d : Option Nat} {st : St} : opK P (.iad z x i) d st K ↔ okK (stepQ (.iad z x i) st.env.get st.heap) fun x => K ⟨putE st.env d x, st.heap, st.clk⟩ := Iff.rfl
@[simp] theorem opK_iaa {z n x i} {d : Option Nat} {st : St} : opK P (.iaa z n x i) d st K ↔ okK (stepQ (.iaa z n x i) st.env.get st.heap) fun x => K ⟨putE st.env d x, st.heap, st.clk⟩ := Iff.rfl
@[simp] theorem opK_ixs {x i} {d : Option Nat} {st : St} : opK P (.ixs x i) d st K ↔ okK (stepQ (.ixs x i) st.env.get st.heap) fun x => K ⟨putE st.env d x, st.heap, st.clk⟩ := Iff.rfl
@[simp] theorem opK_ixa {z l n x i} {d : Option Nat} {st : St} : opK P (.ixa z l n x i) d st K ↔ okK (stepQ (.ixa z l n x i) st.env.get st.heap) fun x => K ⟨putE st.env d x, st.heap, st.clk⟩ := Iff.rfl
@[simp] theorem opK_len {x} {d : Option Nat} {st : St} : opK P (.len x) d st K ↔ okK (stepQ (.len x) st.env.get st.heap) fun x => K ⟨putE st.env d x, st.heap, st.clk⟩ := Iff.rfl
@[simp] theorem opK_lens {x} {d : Option Nat} {st : St} : opK P (.lens x) d st K ↔ okK (stepQ (.lens x) st.env.get st.heap) fun x => K ⟨putE st.env d x, st.heap, st.clk⟩ := Iff.rfl
@[simp] theorem opK_lenc {n} {d : Option Nat} {st : St} : opK P (.lenc n) d st K ↔ okK (stepQ (.lenc n) st.env.get st.heap) fun x => K ⟨putE st.env d x, st.heap, st.clk⟩ := Iff.rfl
@[simp] theorem opK_mm {m xs} {d : Option Nat} {st : St} : opK P (.mm m xs) d st K ↔ okK (stepQ (.mm m xs) st.env.get st.heap) fun x => K ⟨putE st.env d x, st.heap, st.clk⟩ := Iff.rfl
@[simp] theorem opK_ext {x n} {d : Option Nat} {st : St} : opK P (.ext x n) d st K ↔ okK (stepQ (.ext x n) st.env.get st.heap) fun x => K ⟨putE st.env d x, st.heap, st.clk⟩ := Iff.rfl
@[simp] theorem opK_nilc {x} {d : Option Nat} {st : St} : opK P (.nilc x) d st K ↔ okK (stepQ (.nilc x) st.env.get st.heap) fun x => K ⟨putE st.env d x, st.heap, st.clk⟩ := Iff.rfl
@[simp] theorem opK_alloc {zs} {d : Option Nat} {st : St} : opK P (.alloc zs) d st K ↔ okK (stepW (.alloc zs) d st.env.get st.heap st.clk) fun q => K ⟨putE st.env d q.1, q.2.1, q.2.2⟩ := Iff.rfl
@[simp] theorem opK_store {n x v} {d : Option Nat} {st : St} : opK P (.store n x v) d st K ↔ okK (stepW (.store n x v) d st.env.get st.heap st.clk) fun q => K ⟨putE st.env d q.1, q.2.1, q.2.2⟩ := Iff.rfl
@[simp] theorem opK_mks {z zs l c} {d : Option Nat} {st : St} : opK P (.mks z zs l c) d st K ↔ okK (stepW (.mks z zs l c) d st.env.get st.heap st.clk) fun q => K ⟨putE st.env d q.1, q.2.1, q.2.2⟩ := Iff.rfl
@[simp] theorem opK_app {z x y} {d : Option Nat} {st : St} : opK P (.app z x y) d st K ↔ okK (stepW (.app z x y) d st.env.get st.heap st.clk) fun q => K ⟨putE st.env d q.1, q.2.1, q.2.2⟩ := Iff.rfl

attribute [simp] stepQ stepW pickAV lenAV lensAV mmAV mmL mm2 extAV unAV eqbAV eqnilAV nilcAV iadAV loadAV fadAV fldAV partL fillL cellsOf eqsAV eqL leafEq evO exitP resAV resV argEnv bslAV frzP fillS shareIds appAV rowOf rowZ refs frz frz1 frzC boxAt scalar scalar1 scalarC pureC noRef

@[simp] theorem okK_ite2 {c : Prop} [Decidable c] {x : Option α} {K : α → Prop} : okK (if c then none else x) K ↔ ¬c ∧ okK x K := by
  by_cases h : c <;> simp [h, okK]
@[simp] theorem binV_add {k : IntKind} {a b : Int} : binV .add (.i k a) (.i k b) = some (.i k (k.wrap (a + b))) := by simp [binV, binI]
@[simp] theorem binV_sub {k : IntKind} {a b : Int} : binV .sub (.i k a) (.i k b) = some (.i k (k.wrap (a - b))) := by simp [binV, binI]
@[simp] theorem binV_mul {k : IntKind} {a b : Int} : binV .mul (.i k a) (.i k b) = some (.i k (k.wrap (a * b))) := by simp [binV, binI]
@[simp] theorem binV_quo {k : IntKind} {a b : Int} : binV .quo (.i k a) (.i k b) = if b = 0 then none else some (.i k (k.wrap (a.tdiv b))) := by simp [binV, binI]
@[simp] theorem binV_rem {k : IntKind} {a b : Int} : binV .rem (.i k a) (.i k b) = if b = 0 then none else some (.i k (a.tmod b)) := by simp [binV, binI]
@[simp] theorem binV_eql {k : IntKind} {a b : Int} : binV .eql (.i k a) (.i k b) = some (.b (a == b)) := by simp [binV, binI]
@[simp] theorem binV_neq {k : IntKind} {a b : Int} : binV .neq (.i k a) (.i k b) = some (.b (a != b)) := by simp [binV, binI]
@[simp] theorem binV_lss {k : IntKind} {a b : Int} : binV .lss (.i k a) (.i k b) = some (.b (a < b)) := by simp [binV, binI]
@[simp] theorem binV_leq {k : IntKind} {a b : Int} : binV .leq (.i k a) (.i k b) = some (.b (a ≤ b)) := by simp [binV, binI]
@[simp] theorem binV_gtr {k : IntKind} {a b : Int} : binV .gtr (.i k a) (.i k b) = some (.b (a > b)) := by simp [binV, binI]
@[simp] theorem binV_geq {k : IntKind} {a b : Int} : binV .geq (.i k a) (.i k b) = some (.b (a ≥ b)) := by simp [binV, binI]
@[simp] theorem binV_eqls {a b : List UInt8} : binV .eql (.s a) (.s b) = some (.b (a == b)) := by simp [binV, binS]
@[simp] theorem binV_neqs {a b : List UInt8} : binV .neq (.s a) (.s b) = some (.b (!(a == b))) := by simp [binV, binS]
@[simp] theorem binV_adds {a b : List UInt8} : binV .add (.s a) (.s b) = if a.length + b.length ≤ 9223372036854775807 then some (.s (a ++ b)) else none := by simp [binV, binS]

theorem Sub_intro {st st' : St} (h1 : ∀ p ∈ st'.env, st.env.get p.1 = p.2) (h2 : ∀ p ∈ st'.heap, st.heap.lookup p.1 = some p.2) (h3 : st.clk ≤ st'.clk) : Sub st st' := by
  have key : ∀ {β γ : Type} [BEq β] [LawfulBEq β] (l : List (β × γ)) (b : β) (x : γ), l.lookup b = some x → (b, x) ∈ l := by
    intro β γ _ _ l b x h
    induction l with
    | nil => cases h
    | cons p l ih =>
      obtain ⟨p1, p2⟩ := p
      rw [List.lookup_cons] at h
      split at h
      · rename_i hb
        have := eq_of_beq hb
        subst this
        cases h
        exact List.mem_cons_self
      · exact List.mem_cons_of_mem _ (ih h)
  refine ⟨fun t x h => h1 _ (key _ _ _ h), fun b bx h => ⟨bx, h2 _ (key _ _ _ h), .inl rfl⟩, h3⟩

theorem wrap_i64 (n : Int) (h : -9223372036854775808 ≤ n ∧ n < 9223372036854775808) : IntKind.wrap .i64 n = n := by
  simp [IntKind.wrap, IntKind.signed, IntKind.bits] <;> (try split) <;> omega
end
end Go.Ab
