/-
  A field that holds an empty list, told as a row that has no block yet; a call that is lent boxes.
-/
import Derived.Test.YtoddiifgfjibfaaAb23
namespace Go.Ab
open Go.RowKit

section
variable {cx : Cx} {Q : Exit → St → Prop} {st : St} {c : AC} {P : Program} {K : St → Prop}

@[simp] theorem lookup_bid {β : Type} (b b' : BId) (x : β) (l : List (BId × β)) : List.lookup b ((b', x) :: l) = if b = b' then some x else List.lookup b l := by
  rw [List.lookup_cons]
  by_cases h : b = b'
  · subst h; simp
  · have : (b == b') = false := by simpa using h
    simp [this, h]
attribute [simp] liveP storeAV allocAV mksAV exitB

@[congr] theorem drawL_congr {l : List DO} {e e' : Env} {h h' : Heap} {k k' : Nat} {o o' : List Heap} (h1 : e = e') (h2 : h = h') (h3 : k = k') (h4 : o = o') : drawL P l e h k o K = drawL P l e' h' k' o' K := by rw [h1, h2, h3, h4]
@[simp] theorem drawK_eq {l : List DO} : drawK P l st K ↔ drawL P l st.env st.heap st.clk [] K := Iff.rfl
@[simp] theorem drawL_nil {e : Env} {h : Heap} {k : Nat} {o : List Heap} : drawL P [] e h k o K ↔ K ⟨e, h, k⟩ := Iff.rfl
def dK (P : Program) (wr : Bool) (o : DO) (r : List DO) (e : Env) (h : Heap) (clk : Nat) (older : List Heap) (K : St → Prop) : Prop :=
  match wr with
  | true => o.ao.guard = none ∧ okK (stepW o.ao.op o.ao.dst e.get h clk) fun q => drawL P r (putE e o.ao.dst q.1) q.2.1 q.2.2 (h :: older) K
  | false => qK P o.ao e h (older.take (older.length - o.lo)) fun e' => drawL P r e' h clk older K
@[congr] theorem dK_congr {wr wr' : Bool} {x : DO} {l : List DO} {e : Env} {h : Heap} {k : Nat} {o : List Heap} (h1 : wr = wr') : dK P wr x l e h k o K = dK P wr' x l e h k o K := by rw [h1]
@[congr] theorem qK_congr {x : AO} {e e' : Env} {h : Heap} {o : List Heap} {K : Env → Prop} (h1 : e = e') : qK P x e h o K = qK P x e' h o K := by rw [h1]
@[congr] theorem opQ_congr {op : AOp} {d : Option Nat} {e e' : Env} {h : Heap} {o : List Heap} {K : Env → Prop} (h1 : e = e') : opQ P op d e h o K = opQ P op d e' h o K := by rw [h1]
@[simp] theorem drawL_cons {x : DO} {l : List DO} {e : Env} {h : Heap} {k : Nat} {o : List Heap} : drawL P (x :: l) e h k o K ↔ dK P x.ao.op.writes x l e h k o K := by
  unfold dK
  rw [drawL]
  cases x.ao.op.writes <;> exact Iff.rfl
@[simp] theorem dK_true {x : DO} {l : List DO} {e : Env} {h : Heap} {k : Nat} {o : List Heap} : dK P true x l e h k o K ↔ x.ao.guard = none ∧ okK (stepW x.ao.op x.ao.dst e.get h k) fun q => drawL P l (putE e x.ao.dst q.1) q.2.1 q.2.2 (h :: o) K := Iff.rfl
@[simp] theorem dK_false {x : DO} {l : List DO} {e : Env} {h : Heap} {k : Nat} {o : List Heap} : dK P false x l e h k o K ↔ qK P x.ao e h (o.take (o.length - x.lo)) fun e' => drawL P l e' h k o K := Iff.rfl
@[simp] theorem qK_none {d : Option Nat} {op : AOp} {e : Env} {h : Heap} {o : List Heap} {K : Env → Prop} : qK P ⟨d, none, op⟩ e h o K ↔ opQ P op d e h o K := Iff.rfl
def qF (op : AOp) (x : AV) (o : List Heap) (e : Env) : Prop := match op.free with | true => True | false => ∀ h' ∈ o, stepQ op e.get h' = some x
@[simp] theorem qF_nil {op : AOp} {x : AV} {e : Env} : qF op x [] e ↔ True := by unfold qF; cases op.free <;> simp
@[simp] theorem qF_cons {op : AOp} {x : AV} {h : Heap} {o : List Heap} {e : Env} : qF op x (h :: o) e ↔ (match op.free with | true => True | false => stepQ op e.get h = some x) ∧ qF op x o e := by unfold qF; cases op.free <;> simp
@[simp] theorem opQ_bsl {z n : Nat} {zs : List AV} {ps : List (Nat × Opd)} {d : Option Nat} {e : Env} {h : Heap} {o : List Heap} {K : Env → Prop} : opQ P (.bsl z zs n ps) d e h o K ↔ ((ps.map fun p => (p.1, ev e.get p.2)).all fun p => noRef p.2) = true ∧ okK (bslAV z zs n [] (ps.map fun p => (p.1, ev e.get p.2))) fun q => K (putE e d q.1) := Iff.rfl
@[simp] theorem opQ_mov {x} {d : Option Nat} {e : Env} {h : Heap} {o : List Heap} {K : Env → Prop} : opQ P (.mov x) d e h o K ↔ okK (stepQ (.mov x) e.get h) fun r => qF (.mov x) r o e ∧ K (putE e d r) := Iff.rfl
@[simp] theorem opQ_pick {c a b} {d : Option Nat} {e : Env} {h : Heap} {o : List Heap} {K : Env → Prop} : opQ P (.pick c a b) d e h o K ↔ okK (stepQ (.pick c a b) e.get h) fun r => qF (.pick c a b) r o e ∧ K (putE e d r) := Iff.rfl
@[simp] theorem opQ_build {zs ps} {d : Option Nat} {e : Env} {h : Heap} {o : List Heap} {K : Env → Prop} : opQ P (.build zs ps) d e h o K ↔ okK (stepQ (.build zs ps) e.get h) fun r => qF (.build zs ps) r o e ∧ K (putE e d r) := Iff.rfl
@[simp] theorem opQ_load {n x} {d : Option Nat} {e : Env} {h : Heap} {o : List Heap} {K : Env → Prop} : opQ P (.load n x) d e h o K ↔ okK (stepQ (.load n x) e.get h) fun r => qF (.load n x) r o e ∧ K (putE e d r) := Iff.rfl
@[simp] theorem opQ_bin {u x y} {d : Option Nat} {e : Env} {h : Heap} {o : List Heap} {K : Env → Prop} : opQ P (.bin u x y) d e h o K ↔ okK (stepQ (.bin u x y) e.get h) fun r => qF (.bin u x y) r o e ∧ K (putE e d r) := Iff.rfl
@[simp] theorem opQ_eqs {g ls x y} {d : Option Nat} {e : Env} {h : Heap} {o : List Heap} {K : Env → Prop} : opQ P (.eqs g ls x y) d e h o K ↔ okK (stepQ (.eqs g ls x y) e.get h) fun r => qF (.eqs g ls x y) r o e ∧ K (putE e d r) := Iff.rfl
@[simp] theorem opQ_eqnil {g x} {d : Option Nat} {e : Env} {h : Heap} {o : List Heap} {K : Env → Prop} : opQ P (.eqnil g x) d e h o K ↔ okK (stepQ (.eqnil g x) e.get h) fun r => qF (.eqnil g x) r o e ∧ K (putE e d r) := Iff.rfl
@[simp] theorem opQ_eqb {g x y} {d : Option Nat} {e : Env} {h : Heap} {o : List Heap} {K : Env → Prop} : opQ P (.eqb g x y) d e h o K ↔ okK (stepQ (.eqb g x y) e.get h) fun r => qF (.eqb g x y) r o e ∧ K (putE e d r) := Iff.rfl
@[simp] theorem opQ_un {u x} {d : Option Nat} {e : Env} {h : Heap} {o : List Heap} {K : Env → Prop} : opQ P (.un u x) d e h o K ↔ okK (stepQ (.un u x) e.get h) fun r => qF (.un u x) r o e ∧ K (putE e d r) := Iff.rfl
@[simp] theorem opQ_conv {k x} {d : Option Nat} {e : Env} {h : Heap} {o : List Heap} {K : Env → Prop} : opQ P (.conv k x) d e h o K ↔ okK (stepQ (.conv k x) e.get h) fun r => qF (.conv k x) r o e ∧ K (putE e d r) := Iff.rfl
@[simp] theorem opQ_slc {z x lo hi mx} {d : Option Nat} {e : Env} {h : Heap} {o : List Heap} {K : Env → Prop} : opQ P (.slc z x lo hi mx) d e h o K ↔ okK (stepQ (.slc z x lo hi mx) e.get h) fun r => qF (.slc z x lo hi mx) r o e ∧ K (putE e d r) := Iff.rfl
@[simp] theorem opQ_slstr {x lo hi} {d : Option Nat} {e : Env} {h : Heap} {o : List Heap} {K : Env → Prop} : opQ P (.slstr x lo hi) d e h o K ↔ okK (stepQ (.slstr x lo hi) e.get h) fun r => qF (.slstr x lo hi) r o e ∧ K (putE e d r) := Iff.rfl
@[simp] theorem opQ_fad {n x} {d : Option Nat} {e : Env} {h : Heap} {o : List Heap} {K : Env → Prop} : opQ P (.fad n x) d e h o K ↔ okK (stepQ (.fad n x) e.get h) fun r => qF (.fad n x) r o e ∧ K (putE e d r) := Iff.rfl
@[simp] theorem opQ_fld {u n x} {d : Option Nat} {e : Env} {h : Heap} {o : List Heap} {K : Env → Prop} : opQ P (.fld u n x) d e h o K ↔ okK (stepQ (.fld u n x) e.get h) fun r => qF (.fld u n x) r o e ∧ K (putE e d r) := Iff.rfl
@[simp] theorem opQ_iad {z x i} {d : Option Nat} {e : Env} {h : Heap} {o : List Heap} {K : Env → Prop} : opQ P (.iad z x i) d e h o K ↔ okK (stepQ (.iad z x i) e.get h) fun r => qF (.iad z x i) r o e ∧ K (putE e d r) := Iff.rfl
@[simp] theorem opQ_iaa {z n x i} {d : Option Nat} {e : Env} {h : Heap} {o : List Heap} {K : Env → Prop} : opQ P (.iaa z n x i) d e h o K ↔ okK (stepQ (.iaa z n x i) e.get h) fun r => qF (.iaa z n x i) r o e ∧ K (putE e d r) := Iff.rfl
@[simp] theorem opQ_ixs {x i} {d : Option Nat} {e : Env} {h : Heap} {o : List Heap} {K : Env → Prop} : opQ P (.ixs x i) d e h o K ↔ okK (stepQ (.ixs x i) e.get h) fun r => qF (.ixs x i) r o e ∧ K (putE e d r) := Iff.rfl
@[simp] theorem opQ_ixa {z l n x i} {d : Option Nat} {e : Env} {h : Heap} {o : List Heap} {K : Env → Prop} : opQ P (.ixa z l n x i) d e h o K ↔ okK (stepQ (.ixa z l n x i) e.get h) fun r => qF (.ixa z l n x i) r o e ∧ K (putE e d r) := Iff.rfl
@[simp] theorem opQ_len {x} {d : Option Nat} {e : Env} {h : Heap} {o : List Heap} {K : Env → Prop} : opQ P (.len x) d e h o K ↔ okK (stepQ (.len x) e.get h) fun r => qF (.len x) r o e ∧ K (putE e d r) := Iff.rfl
@[simp] theorem opQ_lens {x} {d : Option Nat} {e : Env} {h : Heap} {o : List Heap} {K : Env → Prop} : opQ P (.lens x) d e h o K ↔ okK (stepQ (.lens x) e.get h) fun r => qF (.lens x) r o e ∧ K (putE e d r) := Iff.rfl
@[simp] theorem opQ_lenc {n} {d : Option Nat} {e : Env} {h : Heap} {o : List Heap} {K : Env → Prop} : opQ P (.lenc n) d e h o K ↔ okK (stepQ (.lenc n) e.get h) fun r => qF (.lenc n) r o e ∧ K (putE e d r) := Iff.rfl
@[simp] theorem opQ_mm {m xs} {d : Option Nat} {e : Env} {h : Heap} {o : List Heap} {K : Env → Prop} : opQ P (.mm m xs) d e h o K ↔ okK (stepQ (.mm m xs) e.get h) fun r => qF (.mm m xs) r o e ∧ K (putE e d r) := Iff.rfl
@[simp] theorem opQ_ext {x n} {d : Option Nat} {e : Env} {h : Heap} {o : List Heap} {K : Env → Prop} : opQ P (.ext x n) d e h o K ↔ okK (stepQ (.ext x n) e.get h) fun r => qF (.ext x n) r o e ∧ K (putE e d r) := Iff.rfl
@[simp] theorem opQ_nilc {x} {d : Option Nat} {e : Env} {h : Heap} {o : List Heap} {K : Env → Prop} : opQ P (.nilc x) d e h o K ↔ okK (stepQ (.nilc x) e.get h) fun r => qF (.nilc x) r o e ∧ K (putE e d r) := Iff.rfl
/-- What is behind two ways that meet is walked once. -/
theorem AWp_mid {α : Type} {x y : AC} (F : α → St) (I : α → Prop) (h1 : AWp cx x (thenK (fun st => ∃ a, I a ∧ Sub st (F a)) Q) st) (h2 : ∀ a, I a → AWp cx y Q (F a)) : AWp cx (.seq x y) Q st :=
  AWp_seq (h1.mono fun ex st' h => by
    cases ex with
    | normal => obtain ⟨a, ha, hs⟩ := h; exact (h2 a ha).sub hs
    | _ => exact h)
attribute [simp] AOp.writes AOp.free slcAV bndO bnd
/-- At the end a state may be told with less in it. -/
theorem AWp.weaken (h : AWp cx c (fun ex st => ∃ st', Sub st st' ∧ Q ex st') st) : AWp cx c Q st :=
  fun code hc hm a w hr => wp_mono (h code hc hm a w hr) fun _ _ _ ⟨_, ⟨st', hs, hq⟩, hr'⟩ => ⟨st', hq, hr'.sub hs⟩

theorem WRel.sub {S : Nat → Nat → Prop} {M : Map} {st st' : St} {w : World} (hs : Sub st st') (hr : WRel cx S M st.clk st.heap w) : ∃ Mb, WRel cx S Mb st'.clk st'.heap w ∧ Ext w S M st.clk w S Mb st'.clk := by
  classical
  generalize hMb : (fun g => if Live st'.heap g then M g else none : Map) = Mb
  have hMb1 : ∀ g m, Mb g = some m → Live st'.heap g ∧ M g = some m := by
    intro g m hm
    rw [← hMb] at hm
    simp only at hm
    split at hm
    · exact ⟨‹_›, hm⟩
    · cases hm
  have hMb2 : ∀ g, Live st'.heap g → Mb g = M g := by intro g hg; rw [← hMb]; simp [hg]
  have hx : Ext w S M st.clk w S Mb st'.clk := ⟨fun _ _ hs => hs, fun _ _ _ _ hc => hc, hs.clk, fun g m _ hm => (hMb1 g m hm).2, fun _ _ arr _ _ _ hb => ⟨arr, hb, rfl⟩⟩
  refine ⟨Mb, ⟨⟨fun b bx hb => ?_, fun g m hm => (hMb1 g m hm).1, fun b bx b' bx' h1 h2 hg => ?_, fun g g' k h1 h2 => hr.heap.inj _ _ _ (hMb1 _ _ h1).2 (hMb1 _ _ h2).2⟩, hr.ext.trans hx, hr.fr, hr.Snew, hr.Slt, fun g k hm => hr.Mnew g k (hMb1 _ _ hm).2⟩, hx⟩
  · obtain ⟨bx0, h0, h1⟩ := hs.heap b bx hb
    have hl : Live st'.heap bx.gen := ⟨b, bx, hb, rfl⟩
    have hbox := hr.heap.box b bx0 h0
    rcases h1 with rfl | ⟨hk, rfl⟩
    · exact hbox.mono hx (hMb2 _ hl) (fun _ _ => rfl) fun _ _ _ hs => hs
    · obtain ⟨b1, b2, m, hm, b3⟩ := hbox.mono hx (hMb2 bx0.gen hl) (fun _ _ => rfl) fun _ _ _ hs => hs
      refine ⟨b1, b2, m, hm, ?_⟩
      cases m with
      | none => exact ⟨b3.1, by simp⟩
      | some k =>
        obtain ⟨arr, e, hh, hsz, hc, ho, hlt⟩ := b3
        refine ⟨arr, e, hh, hsz, fun i r j c hi hj => ?_, fun hne => absurd rfl hne, hlt⟩
        obtain ⟨u, hu, h1, hC, hP⟩ := hc i r j c hi hj
        exact ⟨u, hu, h1, hC, fun _ => hP hk⟩
  · obtain ⟨bx0, h3, h4⟩ := hs.heap b bx h1
    obtain ⟨bx0', h5, h6⟩ := hs.heap b' bx' h2
    have e1 : bx.gen = bx0.gen := by rcases h4 with rfl | ⟨_, rfl⟩ <;> rfl
    have e2 : bx'.gen = bx0'.gen := by rcases h6 with rfl | ⟨_, rfl⟩ <;> rfl
    exact hr.heap.gens _ _ _ _ h3 h5 (by rw [← e1, ← e2, hg])

/-- At a call's end: its results, and boxes that may be told with less. -/
def exitC (rs : List RV) (post : AV → Heap → Nat → Prop) : Exit → St → Prop :=
  fun ex st => (ex = .normal ∨ ex = .ret) ∧ ∃ r, resAV st rs = some r ∧ ∃ h' c', Sub ⟨[], st.heap, st.clk⟩ ⟨[], h', c'⟩ ∧ post r h' c'

theorem acall_of' {f : FuncId} {af : AF} {args : List AV} {hb : Heap} {clk : Nat} {post : AV → Heap → Nat → Prop} (hf : resFn P f = some af) (hm : P.follows .mixedOrders = true) (hn : args.length = af.np)
    (h : ∀ cx : Cx, cx.P = P → cx.nt = af.nt → AWp cx af.body (exitC af.res post) ⟨argEnv args, hb, clk⟩) : ACall P f args hb clk post := by
  have hA : ACall P f args hb clk (fun r h c => ∃ h' c', Sub ⟨[], h, c⟩ ⟨[], h', c'⟩ ∧ post r h' c') := acall_of hf hm hn h
  refine ⟨hA.1, fun w S M cargs hl hC hh hS hM => (hA.2 w S M cargs hl hC hh hS hM).mono ?_⟩
  intro e w' ⟨v, r, h', S', M', clk', he, ⟨h2, c2, hs, hpost⟩, hCr, hw⟩
  obtain ⟨Mb, hw2, hx⟩ := WRel.sub hs (hw 0)
  exact ⟨v, r, h2, S', Mb, c2, he, hpost, hCr.mono hx, fun nt => ⟨hw2.heap, hw2.ext, hw2.fr, hw2.Snew, hw2.Slt, hw2.Mnew⟩⟩

theorem AWp.open_fld (b id : BId) (z i o : Nat) {bx : Box} {r : List AV} (hb : st.heap.lookup b = some bx) (hk : bx.kind = .str) (hi : bx.els[i]? = some r) (ho : r[o]? = some (.sl [] .nl)) (hid : st.heap.lookup id = none)
    (h : AWp cx c Q ⟨st.env, (b, { bx with els := bx.els.set i (r.set o (.bs id st.clk z 0 0)) }) :: (id, ⟨st.clk, .own, z, []⟩) :: st.heap, st.clk + 1⟩) : AWp cx c Q st := by
  intro code hc hm a w ⟨S, M, hr⟩
  refine h code hc hm a w ⟨S, setM M ((id, ⟨st.clk, .own, z, []⟩) :: st.heap) st.clk none, ?_⟩
  have h1 := hr.set (id := id) (bx' := ⟨st.clk, .own, z, []⟩) (k' := none) (touched := none) (clk' := st.clk + 1) (Nat.le_succ _) (.inl rfl) (fun hlt => absurd hlt (Nat.lt_irrefl _)) (Touch.of_below (Below.refl _ _)) (fun k hk => by cases hk)
    ⟨Nat.lt_succ_self _, fun r hr => by simp at hr, none, setM_self _ _ _ _, rfl, by simp⟩
  have hne : b ≠ id := fun he => by rw [he, hid] at hb; cases hb
  have hb1 : List.lookup b ((id, (⟨st.clk, .own, z, []⟩ : Box)) :: st.heap) = some bx := by rw [lookup_cons_ne _ _ hne]; exact hb
  have hw := h1.wr
  generalize hM' : setM M ((id, ⟨st.clk, .own, z, []⟩) :: st.heap) st.clk none = M' at *
  have hself : M' st.clk = some none := by rw [← hM']; exact setM_self _ _ _ _
  generalize hbx' : ({ bx with els := bx.els.set i (r.set o (.bs id st.clk z 0 0)) } : Box) = bx' at *
  have hgen : bx'.gen = bx.gen := by rw [← hbx']
  have hlen : bx'.els.length = bx.els.length := by rw [← hbx']; simp
  have hz : bx'.z = bx.z := by rw [← hbx']
  have hkk : bx'.kind = bx.kind := by rw [← hbx']
  have hbox : BoxOk w S M' (st.clk + 1) bx' := by
    obtain ⟨b1, b2, m, hm1, b3⟩ := hw.heap.box b bx hb1
    refine ⟨by rw [hgen]; exact b1, fun r' hr' => ?_, m, by rw [hgen]; exact hm1, ?_⟩
    · rw [← hbx'] at hr'
      simp only at hr'
      rcases List.mem_or_eq_of_mem_set hr' with h2 | h2
      · rw [hz]; exact b2 r' h2
      · rw [h2, List.length_set, hz]; exact b2 r (List.mem_of_getElem? hi)
    · cases m with
      | none =>
        rw [b3.1] at hi
        simp at hi
      | some k =>
        obtain ⟨arr, e, hh, hsz, hcc, hns, hlt⟩ := b3
        refine ⟨arr, e, hh, by rw [hlen, hz]; exact hsz, fun i' r' j c' hi' hj => ?_, by rw [hkk]; exact hns, by rw [hlen, hz]; exact hlt⟩
        rw [← hbx'] at hi'
        simp only [List.getElem?_set] at hi'
        rw [hz, hkk]
        split at hi'
        · rename_i hii
          subst hii
          split at hi'
          · cases hi'
            rw [List.getElem?_set] at hj
            split at hj
            · rename_i hjo
              subst hjo
              split at hj
              · cases hj
                obtain ⟨u, hu, hu1, hC, hP⟩ := hcc i r o _ hi ho
                refine ⟨u, hu, hu1, ?_, fun hne' => absurd hk hne'⟩
                have hv2 : u = .slice none 0 0 := by
                  rcases hC.inv_sl.inv_sl with ⟨_, b0, hv, _, hb2⟩ | ⟨_, _, _, _, _, _, hf, _⟩
                  · cases b0 with
                    | none => exact hv
                    | some a => rcases hb2 (by simp) with h1 | h1 <;> cases h1
                  · exact absurd rfl hf
                rw [hv2]
                refine .bs _ _ _ _ _ _ (Nat.lt_succ_self _) ?_ rfl
                unfold BsOk
                rw [hself]
                exact ⟨rfl, rfl, none, rfl, fun ad h => by cases h⟩
              · cases hj
            · exact hcc i r j c' hi hj
          · cases hi'
        · exact hcc i' r' j c' hi' hj
  have to : ∀ q x, List.lookup q ((b, bx') :: (id, (⟨st.clk, .own, z, []⟩ : Box)) :: st.heap) = some x → ∃ x0, List.lookup q ((id, (⟨st.clk, .own, z, []⟩ : Box)) :: st.heap) = some x0 ∧ x0.gen = x.gen := by
    intro q x hq
    by_cases hqb : q = b
    · subst hqb
      rw [lookup_cons_self] at hq
      cases hq
      exact ⟨bx, hb1, hgen.symm⟩
    · rw [lookup_cons_ne _ _ hqb] at hq
      exact ⟨x, hq, rfl⟩
  refine ⟨h1.size, h1.defers, h1.env, ⟨⟨fun q x hq => ?_, fun g m hm => ?_, fun q1 x1 q2 x2 hq1 hq2 hg => ?_, hw.heap.inj⟩, hw.ext, hw.fr, hw.Snew, hw.Slt, hw.Mnew⟩⟩
  · by_cases hqb : q = b
    · subst hqb
      rw [lookup_cons_self] at hq
      cases hq
      exact hbox
    · rw [lookup_cons_ne _ _ hqb] at hq
      exact hw.heap.box q x hq
  · obtain ⟨q, x, hq, hg⟩ := hw.heap.live g m hm
    by_cases hqb : q = b
    · subst hqb
      rw [hb1] at hq
      cases hq
      exact ⟨q, bx', lookup_cons_self _ _ _, by rw [hgen]; exact hg⟩
    · exact ⟨q, x, by rw [lookup_cons_ne _ _ hqb]; exact hq, hg⟩
  · obtain ⟨y1, hy1, e1⟩ := to q1 x1 hq1
    obtain ⟨y2, hy2, e2⟩ := to q2 x2 hq2
    exact hw.heap.gens _ _ _ _ hy1 hy2 (by rw [e1, e2, hg])

/-- a call that is lent the boxes 'hb'; 'hr': the others -/
theorem opK_callB {f : FuncId} {args : List Opd} {d : Option Nat} {hb hr : Heap} {xs : List AV} {post : AV → Heap → Nat → Prop} (hp : ACall P f xs hb st.clk post) (hx : args.map (ev st.env.get) = xs)
    (h1 : ∀ id, st.heap.lookup id = (hb ++ hr).lookup id) (h2 : ∀ p ∈ hb, hr.lookup p.1 = none)
    (hk : ∀ r hb' clk', st.clk ≤ clk' → post r hb' clk' → (∀ p ∈ hb', hr.lookup p.1 = none) ∧ refOk hb' r = true ∧ heapOk hb' = true ∧ K ⟨putE st.env d r, hb' ++ hr, clk'⟩) : opK P (.call f args) d st K := by
  have key : ∀ (l : Heap) (id : BId), (l.lookup id).isSome → ∃ p ∈ l, p.1 = id := by
    intro l id h
    induction l with
    | nil => cases h
    | cons p l ih =>
      obtain ⟨p1, p2⟩ := p
      by_cases hp : id = p1
      · exact ⟨_, List.mem_cons_self, hp.symm⟩
      · rw [lookup_cons_ne _ _ hp] at h
        obtain ⟨q, hq, he⟩ := ih h
        exact ⟨q, List.mem_cons_of_mem _ hq, he⟩
  refine .inr ⟨hb, hr, post, h1, fun id hid => ?_, hx ▸ hp, fun r hb' clk' hle hpo => ?_⟩
  · obtain ⟨p, hp, rfl⟩ := key _ _ hid
    exact h2 p hp
  · obtain ⟨k1, k2, k3, k4⟩ := hk r hb' clk' hle hpo
    refine ⟨fun id hid => ?_, k2, k3, k4⟩
    obtain ⟨p, hp, rfl⟩ := key _ _ hid
    exact k1 p hp
theorem exitC_intro {rs : List RV} {post : AV → Heap → Nat → Prop} {ex : Exit} {r : AV} (h' : Heap) (c' : Nat) (hx : ex = .normal ∨ ex = .ret) (hr : resAV st rs = some r) (h1 : ∀ p ∈ h', st.heap.lookup p.1 = some p.2) (h2 : st.clk ≤ c') (hp : post r h' c') : exitC rs post ex st :=
  ⟨hx, r, hr, h', c', Sub_intro (by simp) h1 h2, hp⟩
end
end Go.Ab
