/-
  A calculus of values, boxes and code, and what functions of the program compute, proved in it.
  Conditions: none beyond those that the theorems state. (Part 2.)
-/
import Derived.Test.YtdmkoclfdmgllaaGreatPart1
import Derived.Tactics
import Derived.Scope

set_option linter.unusedSectionVars false
set_option linter.unusedVariables false
set_option linter.unusedSimpArgs false
set_option linter.unnecessarySimpa false

namespace Go.Ab
section
open Go.RowKit
def okK{α:Type}(o:Option α)(K:α→Prop):Prop:=∃x,o=some x∧K x
def putE(e:Env)(d:Option Nat)(x:AV):Env:=
 match d with
 | none=>e
 | some d=>(d,x)::e
theorem zb7(e:Env)(d:Option Nat)(x:AV):(putE e d x).get=upd e.get d x:=by
 cases d with
 | none=>rfl
 | some d=>
  grind[putE,Env.get,upd]
def scalarC:AV→Bool
 | .i .. | .b _ | .s _=>true
 | _=>false
def scalar1:AV→Bool
 | .agg cs=>cs.all scalarC
 | x=>scalarC x
def scalar:AV→Bool
 | .tup vs=>vs.all scalar1
 | x=>scalar1 x
def callP(P:Program)(f:FuncId)(xs:List AV)(h:Heap)(K:AV→Heap→Prop):Prop:=
 ∃ys post,xs.mapM (frz1 h)=some ys∧PCall P f ys post∧∀r,post r→K r (if scalar r then h else shareIds (xs.flatMap refs) h)
def ACall(P:Program)(f:FuncId)(args:List AV)(hb:Heap)(clk:Nat)(post:AV→Heap→Nat→Prop):Prop:=
 Enters P f∧∀(w:World) (S:Nat→Nat→Prop) (M:Map) (cargs:Array Value),cargs.size=args.length →
  (∀(j:Nat) (v:Value) (c:AV),cargs[j]? = some v→args[j]? = some c→C w S M clk v c) →
  HeapRel w S M clk hb→(∀k o,S k o→k<w.heap.size)→(∀g k,M g=some (some k)→k<w.heap.size) →
  Calls P f cargs w fun e w'=>∃v r h' S' M' clk',e=.returned v∧post r h' clk'∧C w' S' M' clk' v r∧∀nt,WRel ⟨P,nt,w,S,M,clk⟩ S' M' clk' h' w'
def genAt(h:Heap)(id:BId)(g:Nat):Bool:=
 match h.lookup id with
 | some bx=>decide (bx.gen=g)
 | none=>false
def refOkC(h:Heap):AV→Bool
 | .bs id g z _ _=>(boxAt h id g z).isSome
 | .ptr id g z _ _=>(boxAt h id g z).isSome
 | .fnp _ id g _ _ _=>genAt h id g
 | .agg _ | .tup _ | .ifc .. => false
 | _=>true
def refOk1(h:Heap):AV→Bool
 | .agg cs=>cs.all (refOkC h)
 | x=>refOkC h x
def refOk(h:Heap):AV→Bool
 | .tup vs=>vs.all (refOk1 h)
 | x=>refOk1 h x
def heapOk(h:Heap):Bool:=h.all fun p=>match p.2.kind with
 | .str=>p.2.els.all fun r=>r.all (refOkC h)
 | _=>true
def callB0(P:Program)(f:FuncId)(xs:List AV)(h:Heap)(clk:Nat)(K:AV→Heap→Nat→Prop):Prop:=
 ∃hb hr post,((∀id bx,hb.lookup id=some bx→h.lookup id=some bx)∧∀id bx,hr.lookup id=some bx→h.lookup id=some bx)∧(∀id,(hb.lookup id).isSome→hr.lookup id=none)∧ACall P f xs hb clk post ∧
  ∀r hb' clk',clk≤clk'→post r hb' clk'→(∀id,(hb'.lookup id).isSome→hr.lookup id=none)∧refOk hb' r=true∧heapOk hb'=true∧K r (hb'++hr) clk'
def frzM(h:Heap):List Bool→List AV→Option (List AV)
 | _,[]=>some []
 | m::ms,x::xs=>(if m then some x else frz1 h x).bind fun y=>(frzM h ms xs).map fun ys=>y::ys
 | [],_::_=>none
def refsM:List Bool→List AV→List BId
 | m::ms,x::xs=>(if m then [] else refs x)++refsM ms xs
 | _,_=>[]
def callB(P:Program)(f:FuncId)(xs:List AV)(h:Heap)(clk:Nat)(K:AV→Heap→Nat→Prop):Prop:=
 ∃ms ys,frzM h ms xs=some ys∧callB0 P f ys (shareIds (refsM ms xs) h) clk K
def stepW(op:AOp)(d:Option Nat)(ρ:Nat→AV)(h:Heap)(clk:Nat):Option (AV×Heap×Nat):=
 match op with
 | .alloc zs=>allocAV zs d h clk
 | .store n x v=>(storeAV n h (ev ρ x) (ev ρ v)).map fun h'=>(.tup [],h',clk)
 | .mks z zs l c=>mksAV z zs d h clk (ev ρ l) (ev ρ c)
 | .app z x y=>appAV z d h clk (ev ρ x) (ev ρ y)
 | .xop k xs=>stepXV k (xs.map (ev ρ)) d h clk
 | _=>none
def opK(P:Program)(op:AOp)(d:Option Nat)(st:St)(K:St→Prop):Prop:=
 match op with
 | .call f args=>
  callP P f (args.map (ev st.env.get)) st.heap (fun r h=>K ⟨putE st.env d r,h,st.clk⟩) ∨
  callB P f (args.map (ev st.env.get)) st.heap st.clk (fun r h c=>K ⟨putE st.env d r,h,c⟩)
 | .inv nm _ u r args=>(u=0∧∃t y f,ev st.env.get r=.ifc t y∧methOf P t nm=some f ∧
  (callP P f (y::args.map (ev st.env.get)) st.heap (fun r h=>K ⟨putE st.env d r,h,st.clk⟩) ∨
  callB P f (y::args.map (ev st.env.get)) st.heap st.clk (fun r h c=>K ⟨putE st.env d r,h,c⟩))) ∨
  (u=1∧∃f x,ev st.env.get r=.fnv f x ∧
  (callP P f (x::args.map (ev st.env.get)) st.heap (fun r h=>K ⟨putE st.env d r,h,st.clk⟩) ∨
  callB P f (x::args.map (ev st.env.get)) st.heap st.clk (fun r h c=>K ⟨putE st.env d r,h,c⟩))) ∨
  (u=1∧∃f id g z i o,ev st.env.get r=.fnp f id g z i o∧f≠0 ∧
  (callP P f (args.map (ev st.env.get)++[.ptr id g z i o]) st.heap (fun r h=>K ⟨putE st.env d r,h,st.clk⟩) ∨
  callB P f (args.map (ev st.env.get)++[.ptr id g z i o]) st.heap st.clk (fun r h c=>K ⟨putE st.env d r,h,c⟩)))
 | .alloc .. | .store .. | .mks .. | .app .. | .xop .. => okK (stepW op d st.env.get st.heap st.clk) fun q=>K ⟨putE st.env d q.1,q.2.1,q.2.2⟩
 | .bsl z zs len ps=>okK (bslAV z zs len st.heap (ps.map fun p=>(p.1,ev st.env.get p.2))) fun q=>K ⟨putE st.env d q.1,q.2,st.clk⟩
 | op=>okK (stepQ op st.env.get st.heap) fun x=>K ⟨putE st.env d x,st.heap,st.clk⟩
def stepK(P:Program)(o:AO)(st:St)(K:St→Prop):Prop:=
 match o.guard with
 | none=>opK P o.op o.dst st K
 | some (t,want)=>
  match st.env.get t with
  | .b v=>if v=want then opK P o.op o.dst st K else K ⟨putE st.env o.dst (.tup []),st.heap,st.clk⟩
  | .tup _=>K ⟨putE st.env o.dst (.tup []),st.heap,st.clk⟩
  | _=>False
def runK(P:Program):List AO→St→(St→Prop)→Prop
 | [],st,K=>K st
 | o::r,st,K=>stepK P o st fun st'=>runK P r st' K
section
variable{P:Program}{cx:Cx}{w w':World}{S S':Nat→Nat→Prop}{M:Map}{clk:Nat}{h:Heap}{ρ:Nat→AV}{a:Act}
theorem Rel.put{st:St}{d:Option Nat}{v:Value}{x:AV}{h':Heap}{clk':Nat}(hr:RelF cx S M clk' h' st.env.get a w)(hd:∀e,d=some e→e<cx.nt)(hC:C w S M clk' v x):Rel cx ⟨putE st.env d x,h',clk'⟩ (a.put d v) w:=by
 refine⟨S,M,?_⟩
 rw[zb7]
 exact hr.put hd hC
theorem zjc{v:Value}{x:AV}{S1 S2:Nat→Nat→Prop}(h:CP w S1 v x)(hx:scalarC x=true):CP w S2 v x:=by
 cases h<;>first | (cases hx;done) | exact .i _ _ | exact .b _ | exact .s _
theorem zjd{v:Value}{x:AV}{S1 S2:Nat→Nat→Prop}(h:CP w S1 v x)(hx:scalar1 x=true):CP w S2 v x:=by
 cases x
 case agg cs=>
  cases h with
  | agg vs cs hl h1 h=>
   exact .agg vs cs hl h1 fun j v c hv hc=>zjc (h j v c hv hc) (List.all_eq_true.1 hx c (List.mem_of_getElem? hc))
 all_goals exact zjc h hx
theorem zsu{v:Value}{x:AV}{S1 S2:Nat→Nat→Prop}(h:CP w S1 v x)(hx:scalar x=true):CP w S2 v x:=by
 cases x
 case tup cs=>
  cases h with
  | tup vs cs hl h=>
   exact .tup vs cs hl fun j v c hv hc=>zjd (h j v c hv hc) (List.all_eq_true.1 hx c (List.mem_of_getElem? hc))
 all_goals exact zjd h hx
theorem z6b{xs ys:List AV}(hm:xs.mapM (frz1 h)=some ys)(hh:HeapRel w S M clk h){vs:List Value}(hl:vs.length=xs.length)(hc:∀(j:Nat) (v:Value) (c:AV),vs[j]? = some v→xs[j]? = some c→C w S M clk v c) :
  vs.length=ys.length∧∀(j:Nat) (v:Value) (c:AV),vs[j]? = some v→ys[j]? = some c→CP w (cellsS h M (xs.flatMap refs) S) v c:=by
 grind[zbi,zf1]
theorem zha{x y:AV}(hf:frz1 h x=some y):frz h x=some y:=by
 cases x<;>first | exact hf | (simp[frz1,frzC]at hf)
theorem zsv{xs ys:List AV}(hm:xs.mapM (frz1 h)=some ys):∀id bx,id∈xs.flatMap refs→h.lookup id=some bx→bx.kind≠.str∧bx.kind≠.mp:=by
 obtain⟨h1,h2⟩:=zbi _ _ hm
 intro id bx hid hb
 obtain⟨x,hx,hid⟩:=List.mem_flatMap.1 hid
 obtain⟨j,hj⟩:=List.getElem?_of_mem hx
 have hjl:j<ys.length:=by grind
 exact zdo (zha (h2 j x _ hj (List.getElem?_eq_getElem hjl))) id bx hid hb
theorem zkf(ids:List BId):Ext w S M clk w (cellsS h M ids S) M clk:=
 ⟨fun _ _ hs=>.inl hs,fun _ _ _ _ hc=>hc,Nat.le_refl _,fun _ _ _ hm=>hm,fun _ _ arr _ _ _ hb=>⟨arr,hb,rfl⟩⟩
theorem RelF.share(hr:RelF cx S M clk h ρ a w)(ids:List BId)(hk:∀id bx,id∈ids→h.lookup id=some bx→bx.kind≠.str∧bx.kind≠.mp):RelF cx (cellsS h M ids S) M clk (shareIds ids h) ρ a w:=
 ⟨hr.size,hr.defers,fun t=>(hr.env t).mono (zkf ids),hr.wr.share ids hk⟩
theorem zc2{f:FuncId}{xs:List AV}{cargs:Array Value}{K:AV→Heap→Prop}(hr:RelF cx S M clk h ρ a w)(hc:callP P f xs h K)(hl:cargs.size=xs.length)(hC:∀(j:Nat) (v:Value) (c:AV),cargs[j]? = some v→xs[j]? = some c→C w S M clk v c) :
  Enters P f∧Calls P f cargs w fun e w'=>∃v r h' S' M',e=.returned v∧K r h'∧RelF cx S' M' clk h' ρ a w'∧C w' S' M' clk v r:=by
 obtain⟨ys,post,hm,hp,hK⟩:=hc
 obtain⟨h1,h2⟩:=z6b hm hr.wr.heap (vs:=cargs.toList) (by omega) (fun j v c hv hx=>hC j v c (by grind) hx)
 have hr1:=hr.share (xs.flatMap refs) (zsv hm)
 refine⟨hp.1,(hp.2 w _ cargs (by omega) (fun j v c hv hx=>h2 j v c (by grind) hx) hr1.wr.Slt).mono fun e w' ⟨v,r,he,hpr,hb,hC⟩=>?_⟩
 have hk:=hK r hpr
 by_cases hsc:scalar r=true
 ·rw[if_pos hsc]at hk
  exact⟨v,r,h,_,M,he,hk,hr.below hb,.p (zsu hC hsc)⟩
 ·rw[if_neg hsc]at hk
  exact⟨v,r,_,_,M,he,hk,hr1.below hb,.p hC⟩
theorem zsw{M':Map}{v:Value}{x:AV}(hv:C w S M clk v x)(hx:refOkC h x=true)(ha:∀id bx,h.lookup id=some bx→M' bx.gen=M bx.gen):C w S M' clk v x:=by
 cases x<;>simp only[refOkC]at hx<;>try (exact .p (hv.pureC rfl))
 case bs id g z off n=>
  obtain⟨bx,hb⟩:=Option.isSome_iff_exists.1 hx
  obtain⟨h1,h2,h3⟩:=hv.inv_bs
  exact .bs _ _ _ _ _ _ h1 (by obtain⟨hl,hg,_⟩:=zav hb;rw[←hg,ha id bx hl,hg];exact h2) h3
 case ptr id g z i o=>
  obtain⟨bx,hb⟩:=Option.isSome_iff_exists.1 hx
  obtain⟨h1,h2,h3⟩:=hv.inv_ptr
  exact .ptr _ _ _ _ _ _ h1 (by obtain⟨hl,hg,_⟩:=zav hb;rw[←hg,ha id bx hl,hg];exact h2) h3
 case fnp f id g z i o=>
  obtain⟨u,rfl,h1,h2,h3⟩:=hv.inv_fnp
  refine .fnp _ _ _ _ _ _ _ h1 ?_ h3
  unfold genAt at hx
  split at hx
  ·rename_i bx hl
   have hg:bx.gen=g:=by simpa using hx
   rw[←hg,ha id bx hl,hg];exact h2
  ·cases hx
 all_goals grind
theorem z0e{M':Map}{v:Value}{x:AV}(hv:C w S M clk v x)(hx:refOk1 h x=true)(ha:∀id bx,h.lookup id=some bx→M' bx.gen=M bx.gen):C w S M' clk v x:=by
 cases x
 case agg cs=>
  obtain⟨vs,rfl,hl,h1,hc⟩:=hv.inv_agg
  exact .agg vs cs hl h1 fun j v c hv hc'=>zsw (hc j v c hv hc') (List.all_eq_true.1 hx c (List.mem_of_getElem? hc')) ha
 all_goals exact zsw hv hx ha
theorem zade{M':Map}{v:Value}{x:AV}(hv:C w S M clk v x)(hx:refOk h x=true)(ha:∀id bx,h.lookup id=some bx→M' bx.gen=M bx.gen):C w S M' clk v x:=by
 cases x
 case tup cs=>
  obtain⟨vs,rfl,hl,hc⟩:=hv.inv_tup
  exact .tup vs cs hl fun j v c hv hc'=>z0e (hc j v c hv hc') (List.all_eq_true.1 hx c (List.mem_of_getElem? hc')) ha
 all_goals exact z0e hv hx ha
theorem zcs(hb hr:Heap)(id:BId):(hb++hr).lookup id=(hb.lookup id).or (hr.lookup id):=by
 grind
theorem zlg{f:FuncId}{xs:List AV}{cargs:Array Value}{K:AV→Heap→Nat→Prop}(hr:RelF cx S M clk h ρ a w)(hc:callB0 P f xs h clk K)(hl:cargs.size=xs.length)(hC:∀(j:Nat) (v:Value) (c:AV),cargs[j]? = some v→xs[j]? = some c→C w S M clk v c) :
  Enters P f∧Calls P f cargs w fun e w'=>∃v r h' S' M' clk',e=.returned v∧K r h' clk'∧RelF cx S' M' clk' h' ρ a w'∧C w' S' M' clk' v r:=by
 obtain⟨hb,hs,post,hsplit,hdis,hp,hK⟩:=hc
 obtain⟨hlb,hls⟩:=hsplit
 have hno:∀g,Live hb g→Live hs g→False:=by
  intro g ⟨b,bx,h1,h2⟩ ⟨b',bx',h3,h4⟩
  have:=hr.wr.heap.gens _ _ _ _ (hlb _ _ h1) (hls _ _ h3) (h2.trans h4.symm)
  grind
 classical
 generalize hMb:(fun g=>if Live hb g then M g else none:Map)=Mb
 have hMb1:∀g m,Mb g=some m→Live hb g∧M g=some m:=by
  grind
 have hMb2:∀g,Live hb g→Mb g=M g:=by grind
 have hxb:Ext w S M clk w S Mb clk:=⟨fun _ _ hs=>hs,fun _ _ _ _ hc=>hc,Nat.le_refl _,fun g m _ hm=>(hMb1 g m hm).2,fun _ _ arr _ _ _ hb=>⟨arr,hb,rfl⟩⟩
 have hheap:HeapRel w S Mb clk hb:=by
  refine⟨fun b bx hx=>?_,fun g m hm=>(hMb1 g m hm).1,fun b bx b' bx' h1 h2 hg=>hr.wr.heap.gens _ _ _ _ (hlb _ _ h1) (hlb _ _ h2) hg,fun g g' k h1 h2=>hr.wr.heap.inj _ _ _ (hMb1 _ _ h1).2 (hMb1 _ _ h2).2⟩
  exact(hr.wr.heap.box b bx (hlb _ _ hx)).mono hxb (hMb2 _ ⟨b,bx,hx,rfl⟩) (fun _ _=>rfl) fun _ _ _ hs=>hs
 refine⟨hp.1,(hp.2 w S Mb cargs hl (fun j v c hv hc=>(hC j v c hv hc).mono hxb) hheap hr.wr.Slt fun g k hm=>(hr.wr.Mnew g k (hMb1 g _ hm).2).1).mono ?_⟩
 intro e w' ⟨v,r,h',S',M',clk',he,hpr,hCr,hw⟩
 have hw:=hw 0
 have hclk:=hw.ext.hclk
 obtain⟨hdis',hro,hho,hk⟩:=hK r h' clk' hclk hpr
 generalize hMM:(fun g=>if Live hs g then M g else M' g:Map)=MM
 have hMM1:∀g,Live hs g→MM g=M g:=by grind
 have hMM2:∀g,¬ Live hs g→MM g=M' g:=by grind
 have hgs:∀g,Live hs g→g<clk:=by intro g ⟨b,bx,h1,h2⟩;rw[←h2];exact(hr.wr.heap.box b bx (hls _ _ h1)).1
 have hM's:∀g m,Live hs g→M' g=some m→False:=by
  intro g m hg hm
  have:=hw.ext.hM g m (hgs g hg) hm
  grind
 have hbrw:∀g k,Live hs g→M g=some (some k)→¬ (⟨P,0,w,S,Mb,clk⟩:Cx).brw k:=by
  intro g k hg hm ⟨g2,h2⟩
  obtain⟨h3,h4⟩:=hMb1 _ _ h2
  have:=hr.wr.heap.inj _ _ _ hm h4
  grind
 have hsame:∀g k,Live hs g→M g=some (some k)→w'.heap[k]? = w.heap[k]? := fun g k hg hm=>hw.fr.block k (hr.wr.Mnew g k hm).1 (hbrw g k hg hm)
 have hx:Ext w S M clk w' S' MM clk':=by
  refine⟨hw.ext.hS,hw.ext.hcell,hclk,fun g m hg hm=>?_,fun g k arr e hg hm hbk=>?_⟩
  ·by_cases hl:Live hs g
   ·grind
   ·rw[hMM2 g hl]at hm;exact(hMb1 g m (hw.ext.hM g m hg hm)).2
  ·by_cases hl:Live hs g
   ·grind
   ·rw[hMM2 g hl]at hm
    exact hw.ext.hblk g k arr e hg hm hbk
 have hagree:∀id bx,h'.lookup id=some bx→MM bx.gen=M' bx.gen:=by
  intro id bx hlk
  obtain⟨_,_,m,hm,_⟩:=hw.heap.box id bx hlk
  grind
 have hSs:∀g k o,Live hs g→M g=some (some k)→S' k o→S k o:=by
  intro g k o hl hm hs'
  rcases hw.Snew k o hs' with h1 | h1 | h1
  ·omega
  ·have:=(hr.wr.Mnew g k hm).1;grind
  grind
 refine⟨v,r,h'++hs,S',MM,clk',he,hk,⟨hr.size,hr.defers,fun t=>(hr.env t).mono hx,?_⟩,zade hCr hro hagree⟩
 have hlook:∀id bx,(h'++hs).lookup id=some bx→h'.lookup id=some bx∨(h'.lookup id=none∧hs.lookup id=some bx):=by
  intro id bx hb
  rw[zcs]at hb
  simp_all
 refine⟨⟨fun b bx hb=>?_,fun g m hm=>?_,fun b bx b' bx' h1 h2 hg=>?_,fun g g' k h1 h2=>?_⟩,hr.wr.ext.trans hx,?_,fun k o hs'=>?_,hw.Slt,fun g k hm=>?_⟩
 ·rcases hlook b bx hb with h1 | ⟨_,h1⟩
  ·obtain⟨b1,b2,m,hm,b3⟩:=hw.heap.box b bx h1
   refine⟨b1,b2,m,by grind,?_⟩
   cases m with
   | none=>omega
   | some k=>
    by_cases hmp:bx.kind=.mp
    ·exact ckP hmp (ckP' hmp b3)
    obtain⟨arr,e,hh,hsz,hc,ho,hl⟩:=ck' hmp b3
    refine ck hmp ⟨arr,e,hh,hsz,fun i r j c hi hj=>?_,ho,hl⟩
    obtain⟨u,hu,hone,hC,hP⟩:=hc i r j c hi hj
    refine⟨u,hu,hone,?_,hP⟩
    by_cases hkd:bx.kind=.str
    ·have hmem:(b,bx)∈h':=by
      induction h' with
      | nil=>grind
      | cons p l ih=>
       obtain⟨b',bx'⟩:=p
       simp only[List.lookup_cons]at h1
       split at h1
       ·grind
       ·exact List.mem_cons_of_mem _ (by
         have:∀(l:Heap),l.lookup b=some bx→(b,bx)∈l:=by
          intro l
          induction l with
          | nil=>grind
          | cons q l ih2=>
           grind
         grind)
     have h5:=List.all_eq_true.1 hho _ hmem
     simp only[hkd]at h5
     have h6:=List.all_eq_true.1 (List.all_eq_true.1 h5 r (List.mem_of_getElem? hi)) c (List.mem_of_getElem? hj)
     exact zsw hC h6 hagree
    ·exact .p (hP hkd)
  ·have hl:Live hs bx.gen:=⟨b,bx,h1,rfl⟩
   exact(hr.wr.heap.box b bx (hls _ _ h1)).mono hx (hMM1 _ hl) (fun k hm=>hsame _ k hl hm) fun k o hm hs'=>hSs _ k o hl hm hs'
 ·by_cases hl:Live hs g
  ·obtain⟨b,bx,h1,h2⟩:=hl
   grind
  ·rw[hMM2 g hl]at hm
   obtain⟨b,bx,h1,h2⟩:=hw.heap.live g m hm
   grind
 ·have mix:∀b bx b' bx',h'.lookup b=some bx→hs.lookup b'=some bx'→bx.gen=bx'.gen→False:=by
   intro b bx b' bx' h1 h2 hg
   obtain⟨_,_,m,hm,_⟩:=hw.heap.box b bx h1
   exact hM's bx'.gen m ⟨b',bx',h2,rfl⟩ (by grind)
  rcases hlook b bx h1 with h1 | ⟨_,h1⟩<;>rcases hlook b' bx' h2 with h2 | ⟨_,h2⟩
  ·exact hw.heap.gens _ _ _ _ h1 h2 hg
  ·grind
  ·grind
  ·exact hr.wr.heap.gens _ _ _ _ (hls _ _ h1) (hls _ _ h2) hg
 ·have mix:∀g1 g2,Live hs g1→M g1=some (some k)→M' g2=some (some k)→False:=by
   intro g1 g2 hl hm1 hm2
   rcases(hw.Mnew g2 k hm2).2 with h3 | h3
   ·have:=(hr.wr.Mnew g1 k hm1).1;grind
   grind
  by_cases l1:Live hs g<;>by_cases l2:Live hs g'
  ·rw[hMM1 _ l1]at h1;rw[hMM1 _ l2]at h2;exact hr.wr.heap.inj _ _ _ h1 h2
  ·grind
  ·grind
  ·rw[hMM2 _ l1]at h1;rw[hMM2 _ l2]at h2;exact hw.heap.inj _ _ _ h1 h2
 ·refine⟨hw.fr.os.trans hr.wr.fr.os,hw.fr.tape.trans hr.wr.fr.tape,hw.fr.output.trans hr.wr.fr.output,Nat.le_trans hr.wr.fr.size hw.fr.size,fun k hk hn=>?_⟩
  have:=hr.wr.fr.size
  rw[hw.fr.block k (by grind) fun⟨g,hm⟩=>?_]
  ·exact hr.wr.fr.block k hk hn
  ·rcases(hr.wr.Mnew g k (hMb1 g _ hm).2).2 with h3 | h3
   all_goals grind
 ·have hsz:=hr.wr.fr.size
  rcases hw.Snew k o hs' with h1 | h1 | ⟨g,h1⟩
  ·exact hr.wr.Snew k o h1
  ·grind
  ·rcases(hr.wr.Mnew g k (hMb1 g _ h1).2).2 with h3 | h3
   all_goals grind
 ·have hsz:=hr.wr.fr.size
  by_cases hl:Live hs g
  ·rw[hMM1 g hl]at hm
   exact⟨Nat.lt_of_lt_of_le (hr.wr.Mnew g k hm).1 hw.fr.size,(hr.wr.Mnew g k hm).2⟩
  ·rw[hMM2 g hl]at hm
   obtain⟨h1,h2⟩:=hw.Mnew g k hm
   refine⟨h1,?_⟩
   rcases h2 with h2 | ⟨g2,h2⟩
   ·grind
   ·exact(hr.wr.Mnew g2 k (hMb1 g2 _ h2).2).2
theorem zsx{x y:AV}(hf:frz1 h x=some y):∀id bx,id∈refs x→h.lookup id=some bx→bx.kind≠.str∧bx.kind≠.mp:=zdo (zha hf)
theorem z0f(hh:HeapRel w S M clk h):∀(ms:List Bool) (xs ys:List AV),frzM h ms xs=some ys →
  ys.length=xs.length∧(∀id bx,id∈refsM ms xs→h.lookup id=some bx→bx.kind≠.str∧bx.kind≠.mp) ∧
  ∀(ids:List BId),(∀id,id∈refsM ms xs→id∈ids)→∀(j:Nat) (v:Value) (x y:AV),xs[j]? = some x→ys[j]? = some y→C w S M clk v x→C w (cellsS h M ids S) M clk v y
 | ms,[],ys,hm=>by
  have:ys=[]:=by cases ms<;>(simp[frzM]at hm;exact hm)
  subst this
  exact⟨rfl,fun id bx hid=>by cases ms<;>simp[refsM]at hid,fun ids _ j v x y hx=>by simp at hx⟩
 | [],x::xs,ys,hm=>by simp[frzM]at hm
 | m::ms,x::xs,ys,hm=>by
  obtain⟨y,hy,hm2⟩:=bind_some hm
  obtain⟨zs,hz,rfl⟩:=map_some hm2
  obtain⟨h1,h2,h3⟩:=z0f hh ms xs zs hz
  refine⟨by simp[h1],fun id bx hid hb=>?_,fun ids hids j v x' y' hx hy' hC=>?_⟩
  ·simp only[refsM,List.mem_append]at hid
   rcases hid with hid | hid
   ·cases m with
    | true=>simp at hid
    | false=>exact zsx (by simpa using hy) id bx (by simpa using hid) hb
   ·exact h2 id bx hid hb
  ·simp only[refsM,List.mem_append]at hids
   cases j with
   | zero=>
    simp at hx hy'
    subst hx
    subst hy'
    cases m with
    | true=>
     simp at hy
     subst hy
     exact hC.mono (zkf ids)
    | false=>exact .p (zf1 hh hC (by simpa using hy) fun id hid=>hids id (.inl (by simpa using hid)))
   | succ j=>exact h3 ids (fun id hid=>hids id (.inr hid)) j v x' y' (by simpa using hx) (by simpa using hy') hC
theorem zc3{f:FuncId}{xs:List AV}{cargs:Array Value}{K:AV→Heap→Nat→Prop}(hr:RelF cx S M clk h ρ a w)(hc:callB P f xs h clk K)(hl:cargs.size=xs.length)(hC:∀(j:Nat) (v:Value) (c:AV),cargs[j]? = some v→xs[j]? = some c→C w S M clk v c) :
  Enters P f∧Calls P f cargs w fun e w'=>∃v r h' S' M' clk',e=.returned v∧K r h' clk'∧RelF cx S' M' clk' h' ρ a w'∧C w' S' M' clk' v r:=by
 obtain⟨ms,ys,hm,hc0⟩:=hc
 obtain⟨h1,h2,h3⟩:=z0f hr.wr.heap ms xs ys hm
 refine zlg (hr.share (refsM ms xs) h2) hc0 (by omega) fun j v c hv hy=>?_
 grind
end
end
section
open Go.RowKit
section
variable{P:Program}{cx:Cx}{w w':World}{S S':Nat→Nat→Prop}{M:Map}{clk:Nat}{h:Heap}{ρ:Nat→AV}{a:Act}
theorem ze3(he:EnvOk w S M clk ρ a):∀(l:List (Nat×Operand)) (ps:List (Nat×Opd)),resPartsS l=some ps →
  (l.map fun p=>(p.1,a.eval p.2)).map (·.1)=(ps.map fun p=>(p.1,ev ρ p.2)).map (·.1) ∧
  ∀(j:Nat) v x,(l.map fun p=>(p.1,a.eval p.2))[j]? = some v→(ps.map fun p=>(p.1,ev ρ p.2))[j]? = some x→C w S M clk v.2 x.2
 | [],ps,hr=>by simp only[resPartsS,Option.some.injEq]at hr;subst hr;exact⟨rfl,fun j v x hv=>by simp at hv⟩
 | (i,x)::l,ps,hr=>by
  obtain⟨p,hp,hr2⟩:=bind_some hr
  obtain⟨qs,hq,rfl⟩:=map_some hr2
  obtain⟨h1,h2⟩:=ze3 he l qs hq
  refine⟨by simpa using h1,fun j v y hv hy=>?_⟩
  cases j with
  | zero=>simp at hv hy;subst hv;subst hy;exact ev_C he hp
  | succ j=>exact h2 j v y (by simpa using hv) (by simpa using hy)
theorem zc4{o:Oper}{next:Act→World→Prop}{Q:Exit→Act→World→Prop}{v:Value}(hrun:(execOp a.eval o).run P w=.ok (.value v) w')(hn:next (a.put o.dst v) w'):o.wp P a w next Q:=by
 grind[Oper.wp,Oper.upon_value]
theorem zgs{s:Sem Value}{v:Value}(hs:s.run P w=.ok v w'):(do pure (Next.value (←s)):Sem Next).run P w=.ok (.value v) w':=by
 simp_all
def AOp.makes:AOp→Bool
 | .alloc .. | .store .. | .mks .. | .bsl .. => true
 | _=>false
theorem zje{c:Call}{op:AOp}(hop:resOp P (.call c)=some op):op.makes=false:=by
 replace hop:=zaz hop
 rcases hop with hop | ⟨k,xs,rfl,_⟩
 rotate_left
 ·rfl
 obtain⟨callee,args,ats⟩:=c
 cases callee with
 | invoke r m=>
  obtain⟨p,hp,hr1⟩:=bind_some hop
  obtain⟨l,hl,rfl⟩:=map_some hr1
  rfl
 | builtin b=>
  simp only[resOp0]at hop
  revert hop
  repeat' split
  all_goals (intro hop;simp[Option.bind_eq_some_iff]at hop)
  all_goals first
   | (obtain⟨_,_,rfl⟩:=hop;rfl)
   | (subst hop;rfl)
   | (obtain⟨_,_,_,rfl⟩:=hop;rfl)
   | (obtain⟨_,_,_,_,rfl⟩:=hop;rfl)
   | (obtain⟨_,_,_,_,_,_,rfl⟩:=hop;rfl)
   | (obtain⟨_,_,_,_,_,rfl⟩:=hop;rfl)
   | (obtain⟨_,_,_,_,_,_,_,rfl⟩:=hop;rfl)
 | value fv=>
  cases fv<;>simp only[resOp0]at hop<;>try (cases hop;done)
  all_goals
   obtain⟨l,hl,rfl⟩:=map_some hop
   rfl
theorem zqp{o:Op}{k:XOp}{xs:List Opd}(hop:resOp0 P o=some (.xop k xs)):False:=by
 cases o<;>simp only[resOp0]at hop<;>try (cases hop;done)
 all_goals
  revert hop
  repeat' split
  all_goals simp[Option.bind_eq_some_iff]
theorem zcd{o:Oper}{op:AOp}{x:AV}{h':Heap}{clk':Nat}(hop:resOp P o.op=some op)(hr:RelF cx S M clk h ρ a w)(hs:stepW op o.dst ρ h clk=some (x,h',clk')) :
  ∃v w' S' M',((execOp a.eval o).run P w=.ok (.value v) w'∨((execOp a.eval o).run P w=.ok .skip w'∧v=undef))∧RelF cx S' M' clk' h' ρ a w'∧C w' S' M' clk' v x:=by
 obtain⟨dst,oop,type,pos,after,guard⟩:=o
 have hcall:∀c,oop=.call c→op.makes=false:=fun c hc=>zje (by rw[←hc];exact hop)
 have hop':=zaz hop
 clear hop
 rcases hop' with hop | ⟨k,xs,he,hx⟩
 rotate_left
 ·subst he
  rcases hx with hx | ⟨rfl,rfl⟩
  ·exact zn7 (o:=⟨dst,oop,type,pos,after,guard⟩) hx hr hs
  ·simp[stepW,stepXV]at hs
 cases op<;>simp only[stepW]at hs<;>try (cases hs;done)
 case xop k xs=>exact(zqp hop).elim
 case alloc zs=>
  obtain⟨t,hz,rfl⟩:∃t,zeros P t=some zs∧oop=.alloc t:=by
   cases oop<;>(try simp only[resOp0]at hop)
   case alloc t=>
    simp_all
   case call c=>exact absurd (hcall c rfl) (by simp[AOp.makes])
   all_goals
    exfalso
    revert hop
    repeat' split
    all_goals simp[Option.bind_eq_some_iff]
  obtain⟨v',w',S',M',h1,h2,h3⟩:=zno hr hz hs
  exact⟨v',w',S',M',.inl (zgs h1),h2,h3⟩
 case store n px pv=>
  obtain⟨t,y,v,hsz,hp,hq,rfl⟩:∃t y v,sizeT P t=some n∧resOpd y=some px∧resOpd v=some pv∧oop=.store t y v:=by
   cases oop<;>(try simp only[resOp0]at hop)
   case store t y v=>
    obtain⟨n',hn,hop1⟩:=bind_some hop
    obtain⟨p,hp,hop2⟩:=bind_some hop1
    obtain⟨q,hq,he⟩:=map_some hop2
    grind
   case call c=>exact absurd (hcall c rfl) (by simp[AOp.makes])
   all_goals
    exfalso
    revert hop
    repeat' split
    all_goals simp[Option.bind_eq_some_iff]
  obtain⟨h1',hs1,he⟩:=map_some hs
  cases he
  obtain⟨w',S',M',h1,h2⟩:=znp hr hsz (ev_C hr.env hp) (ev_C hr.env hq) hs1
  refine⟨undef,w',S',M',.inr ⟨?_,rfl⟩,h2,.p (.tup #[] [] rfl fun j v c hv=>by grind)⟩
  grind[execOp,Sem.run_bind,Result.andThen_ok,Sem.run_pure]
 case mks z zs pl pc=>
  obtain⟨t,l,c,e,inf,ht,hi,hby,hzs,hzl,hp,hq,hz,rfl⟩:∃t l c e inf,P.underlying t=some (.slice e)∧P.info? e=some inf∧inf.bytes≤32768∧zeros P e=some zs∧zs.length=inf.size∧resOpd l=some pl∧resOpd c=some pc∧inf.size=z∧oop=.makeSlice t l c:=by
   cases oop<;>(try simp only[resOp0]at hop)
   case makeSlice t l c=>
    split at hop
    ·split at hop
     ·split at hop
      ·obtain⟨zs',hzs,hop1⟩:=bind_some hop
       split at hop1
       ·obtain⟨p,hp,hop2⟩:=bind_some hop1
        obtain⟨q,hq,he⟩:=map_some hop2
        grind
       grind
      grind
     grind
    grind
   case call c=>exact absurd (hcall c rfl) (by simp[AOp.makes])
   all_goals
    exfalso
    revert hop
    repeat' split
    all_goals simp[Option.bind_eq_some_iff]
  subst hz
  obtain⟨v',w',S',M',h1,h2,h3⟩:=zss hr ht hi hby hzs hzl (ev_C hr.env hp) (ev_C hr.env hq) hs
  exact⟨v',w',S',M',.inl (zgs h1),h2,h3⟩
 case app z px py=>
  cases oop<;>simp only[resOp0]at hop
  case call c=>
   obtain⟨callee,cargs,ats⟩:=c
   cases callee with
   | invoke r m=>
    obtain⟨p,hp,hr1⟩:=bind_some hop
    simp_all
   | value fv=>
    cases fv<;>simp only at hop<;>try simp_all
    all_goals simp_all
   | builtin b=>
    simp only at hop
    split at hop
    ·revert hop
     repeat' split
     all_goals simp
    ·obtain⟨l,_,hop1⟩:=bind_some hop;grind
    ·obtain⟨l,_,hop1⟩:=bind_some hop;grind
    ·rename_i y1 y2 t u hargs hts
     split at hop
     ·rename_i htu
      split at hop
      ·rename_i e ht
       split at hop
       ·rename_i inf hi
        split at hop
        ·rename_i hcond
         obtain⟨h0,hby,hzs⟩:=hcond
         obtain⟨p,hp,hop1⟩:=bind_some hop
         obtain⟨q,hq,he⟩:=map_some hop1
         cases he
         obtain⟨zv,hzv,hzc⟩:∃zv,inf.zero=some zv∧zv.cells.size=inf.size:=by
          cases hzz:inf.zero with
          | none=>grind
          | some zv=>grind
         obtain⟨v',w',S',M',h1,h2,h3⟩:=zsq (P:=P) (ty:=type) hr ht hi h0 hby hzv hzc rfl (ev_C hr.env hp) (ev_C hr.env hq) hs
         have ha:cargs=#[y1,y2]:=by grind
         have hat:ats=#[t,t]:=by grind
         subst ha
         subst hat
         exact⟨v',w',S',M',.inl (by simp[execOp,resolve,invoke,builtin,h1]),h2,h3⟩
        grind
       grind
      grind
     grind
    ·split at hop
     ·split at hop
      ·obtain⟨z,_,hop0⟩:=bind_some hop
       split at hop0
       ·obtain⟨p,_,hop1⟩:=bind_some hop0
        simp_all
       grind
      grind
     grind
    grind
  all_goals
   exfalso
   revert hop
   repeat' split
   all_goals simp[Option.bind_eq_some_iff]
theorem zjf{dst:Option Nat}{type:TypeId}{pos:_}{after:_}{guard:_}{cargs:Array Operand}{ats:Array TypeId}{rr:Operand}{nm:String}{t f:Nat}{v:Value}(hv:a.eval rr=.iface t v)(hm:methOf P t nm=some f)(hent:Enters P f) :
  (execOp a.eval { dst:=dst,op:=.call { callee:=.invoke rr nm,args:=cargs,argTypes:=ats },type:=type,pos:=pos,after:=after,guard:=guard }).run P w=.ok (.enter f (#[v]++cargs.map a.eval)) w:=by
 have e1:(#[Value.iface t v]++cargs.map a.eval)[0]? = some (.iface t v):=by grind
 have e2:(#[Value.iface t v]++cargs.map a.eval).extract 1 (#[Value.iface t v]++cargs.map a.eval).size=cargs.map a.eval:=by simp
 simp only[execOp,resolve,Sem.run_bind,Sem.run_pure,Result.andThen_ok,invoke,hv,e1,e2]
 rw[zq0 hm]
 exact hent _ _
theorem zw8{dst:Option Nat}{type:TypeId}{pos:_}{after:_}{guard:_}{cargs:Array Operand}{ats:Array TypeId}{t f:Nat}{v:Value}(hv:a.tmps.getD t undef=.func (.func f) #[] #[v])(hent:Enters P f) :
  (execOp a.eval { dst:=dst,op:=.call { callee:=.value (.tmp t),args:=cargs,argTypes:=ats },type:=type,pos:=pos,after:=after,guard:=guard }).run P w=.ok (.enter f (cargs.map a.eval ++ #[v])) w:=by
 have hv':a.eval (.tmp t)=.func (.func f) #[] #[v]:=hv
 simp only[execOp,resolve,hv',Deferred.ofValue,Sem.run_bind,Sem.run_pure,Result.andThen_ok,invoke]
 have:=hent (cargs.map a.eval ++ #[v]) w
 grind
theorem zsy{dst:Option Nat}{type:TypeId}{pos:_}{after:_}{guard:_}{cargs:Array Operand}{ats:Array TypeId}{t f:Nat}{v:Value}(hv:a.tmps.getD t undef=.func (.func f) #[v] #[])(hent:Enters P f) :
  (execOp a.eval { dst:=dst,op:=.call { callee:=.value (.tmp t),args:=cargs,argTypes:=ats },type:=type,pos:=pos,after:=after,guard:=guard }).run P w=.ok (.enter f (#[v]++cargs.map a.eval)) w:=by
 have hv':a.eval (.tmp t)=.func (.func f) #[v] #[]:=hv
 simp only[execOp,resolve,hv',Deferred.ofValue,Sem.run_bind,Sem.run_pure,Result.andThen_ok,invoke]
 have:=hent (#[v]++cargs.map a.eval) w
 grind
theorem zlh{st:St}{o:Oper}{op:AOp}{K:St→Prop}{next:Act→World→Prop}{Q:Exit→Act→World→Prop}(hop:resOp P o.op=some op)(hd:∀e,o.dst=some e→e<cx.nt)
  (hr:RelF cx S M st.clk st.heap st.env.get a w) (hk:opK P op o.dst st K) (hn:∀st' a' w',K st'→Rel cx st' a' w'→next a' w'):o.wp P a w next Q:=by
 have quiet:okK (stepQ op st.env.get st.heap) (fun x=>K ⟨putE st.env o.dst x,st.heap,st.clk⟩)→o.wp P a w next Q:=by
  intro ⟨x,hx,hK⟩
  obtain⟨v,hv,hC⟩:=zhr (P:=P) hop hr.env hr.wr.heap hx
  exact zc4 hv (hn _ _ _ hK (Rel.put hr hd hC))
 have wr:okK (stepW op o.dst st.env.get st.heap st.clk) (fun q=>K ⟨putE st.env o.dst q.1,q.2.1,q.2.2⟩)→o.wp P a w next Q:=by
  intro ⟨⟨x,h',c'⟩,hs,hK⟩
  obtain⟨v,w',S',M',h1,h2,h3⟩:=zcd hop hr hs
  rcases h1 with h1 | ⟨h1,rfl⟩
  ·exact zc4 h1 (hn _ _ _ hK (Rel.put h2 hd h3))
  ·unfold Oper.wp
   rw[h1,Oper.upon_skip]
   exact hn _ _ _ hK (Rel.put h2 hd h3)
 have call:∀f args,op=.call f args→o.wp P a w next Q:=by
  intro f args he
  subst he
  obtain⟨dst,oop,type,pos,after,guard⟩:=o
  obtain⟨cargs,ats,hcall,hl⟩:=zcx hop
  subst hcall
  obtain⟨h1,h2⟩:=zbu hr.env _ _ hl
  have hsz:(cargs.map a.eval).size=(args.map (ev st.env.get)).length:=by grind
  have hC:∀(j:Nat) (v:Value) (c:AV),(cargs.map a.eval)[j]? = some v→(args.map (ev st.env.get))[j]? = some c→C w S M st.clk v c:=
   fun j v c hv hc=>h2 j v c (by grind) hc
  have hexec:Enters P f→(execOp a.eval { dst:=dst,op:=.call { callee:=.value (.func f),args:=cargs,argTypes:=ats },type:=type,pos:=pos,after:=after,guard:=guard }).run P w=.ok (.enter f (cargs.map a.eval)) w:=by
   intro hent
   simp only[execOp,resolve,Act.eval,Deferred.ofValue,Sem.run_bind,Sem.run_pure,Result.andThen_ok,invoke]
   have:=hent (cargs.map a.eval) w
   grind
  rcases hk with hk | hk
  ·obtain⟨hent,hc⟩:=zc2 hr hk hsz hC
   unfold Oper.wp
   rw[hexec hent,Oper.upon_enter]
   refine hc.mono fun e w' ⟨v,r,h',S',M',he,hK,hr',hC'⟩=>?_
   subst he
   exact hn _ _ _ hK (Rel.put hr' hd hC')
  ·obtain⟨hent,hc⟩:=zc3 hr hk hsz hC
   unfold Oper.wp
   rw[hexec hent,Oper.upon_enter]
   refine hc.mono fun e w' ⟨v,r,h',S',M',clk',he,hK,hr',hC'⟩=>?_
   subst he
   exact hn _ _ _ hK (Rel.put hr' hd hC')
 obtain⟨dst,oop,type,pos,after,guard⟩:=o
 have hop':=zaz hop
 clear hop
 rcases hop' with hop | ⟨k,xs,he,hx⟩
 rotate_left
 ·subst he
  exact wr hk
 cases oop<;>simp only[resOp0]at hop<;>try (cases hop;done)
 case alloc t=>
  obtain⟨zs,hz,rfl⟩:=map_some hop
  exact wr hk
 case makeInterface t y=>
  split at hop
  ·split at hop
   ·grind
   ·obtain⟨p,hp,rfl⟩:=map_some hop
    exact quiet hk
  grind
 case buildSlice t len parts=>
  split at hop
  ·rename_i e ht
   obtain⟨z,hz,hop1⟩:=bind_some hop
   split at hop1
   ·rename_i hlim
    obtain⟨zs,hzs,hop2⟩:=bind_some hop1
    split at hop2
    ·rename_i hzl
     obtain⟨ps,hps,rfl⟩:=map_some hop2
     obtain⟨⟨r,h'⟩,hs,hK⟩:=hk
     obtain⟨h1,h2⟩:=ze3 hr.env _ _ hps
     obtain⟨v',w',S',M',h3,h4,h5⟩:=zlf (parts:=Array.map (fun(x:Nat×Operand)=>(x.fst,a.eval x.snd)) parts) hr ht hz hlim.1 hlim.2 hzs hzl (by simp_all) (fun j v x hv hx=>h2 j v x (by grind) hx) hs
     exact zc4 (w':=w') (zgs h3) (hn _ _ _ hK (Rel.put h4 hd h5))
    grind
   grind
  grind
 case store t y v=>
  obtain⟨n,hsz,hop1⟩:=bind_some hop
  obtain⟨p,hp,hop2⟩:=bind_some hop1
  obtain⟨q,hq,rfl⟩:=map_some hop2
  exact wr hk
 case makeSlice t l c=>
  split at hop
  ·split at hop
   ·split at hop
    ·obtain⟨zs,hzs,hop1⟩:=bind_some hop
     split at hop1
     ·obtain⟨p,hp,hop2⟩:=bind_some hop1
      obtain⟨q,hq,rfl⟩:=map_some hop2
      exact wr hk
     grind
    grind
   grind
  grind
 case call c=>
  obtain⟨callee,cargs,ats⟩:=c
  cases callee with
  | invoke r m=>
   obtain⟨p,hp,hr1⟩:=bind_some hop
   obtain⟨l,hl,rfl⟩:=map_some hr1
   rcases hk with ⟨_,hk⟩ | ⟨h0,_⟩ | ⟨h0,_⟩
   rotate_left
   ·omega
   ·omega
   obtain⟨t,y,f,hy,hm,hk⟩:=hk
   have hCr:=ev_C hr.env hp
   rw[hy]at hCr
   obtain⟨v,hv,hCy⟩:=hCr.inv_ifc
   obtain⟨h1,h2⟩:=zbu hr.env _ _ hl
   have hsz:(#[v]++cargs.map a.eval).size=(y::l.map (ev st.env.get)).length:=by
    grind
   have hC:∀(j:Nat) (u:Value) (c:AV),(#[v]++cargs.map a.eval)[j]? = some u→(y::l.map (ev st.env.get))[j]? = some c→C w S M st.clk u c:=by
    grind
   have hexec:=zjf (P:=P) (w:=w) (dst:=dst) (type:=type) (pos:=pos) (after:=after) (guard:=guard) (ats:=ats) (cargs:=cargs) hv hm
   rcases hk with hk | hk
   ·obtain⟨hent,hc⟩:=zc2 hr hk hsz hC
    unfold Oper.wp
    rw[hexec hent,Oper.upon_enter]
    refine hc.mono fun e w' ⟨v,r,h',S',M',he,hK,hr',hC'⟩=>?_
    subst he
    exact hn _ _ _ hK (Rel.put hr' hd hC')
   ·obtain⟨hent,hc⟩:=zc3 hr hk hsz hC
    unfold Oper.wp
    rw[hexec hent,Oper.upon_enter]
    refine hc.mono fun e w' ⟨v,r,h',S',M',clk',he,hK,hr',hC'⟩=>?_
    subst he
    exact hn _ _ _ hK (Rel.put hr' hd hC')
  | value fv=>
   cases fv<;>simp only at hop<;>try (cases hop;done)
   case func f=>obtain⟨l,hl,rfl⟩:=map_some hop;grind
   case tmp tt=>
    obtain⟨l,hl,rfl⟩:=map_some hop
    rcases hk with ⟨h0,_⟩ | ⟨_,hk⟩ | ⟨_,hk⟩
    ·omega
    ·obtain⟨f,y,hy,hk⟩:=hk
     have hCr:=hr.env tt
     rw[show st.env.get tt=_ from hy]at hCr
     obtain⟨v,hv,hCy⟩:=hCr.inv_fnv
     obtain⟨h1,h2⟩:=zbu hr.env _ _ hl
     have hsz:(#[v]++cargs.map a.eval).size=(y::l.map (ev st.env.get)).length:=by
      grind
     have hC:∀(j:Nat) (u:Value) (c:AV),(#[v]++cargs.map a.eval)[j]? = some u→(y::l.map (ev st.env.get))[j]? = some c→C w S M st.clk u c:=by
      intro j u c hu hc
      cases j with
      | zero=>
       rw[Array.getElem?_append_left (by simp)]at hu
       cases hu
       cases hc
       exact .p hCy
      | succ j=>
       grind
     have hexec:=zsy (P:=P) (a:=a) (w:=w) (dst:=dst) (type:=type) (pos:=pos) (after:=after) (guard:=guard) (ats:=ats) (cargs:=cargs) hv
     rcases hk with hk | hk
     ·obtain⟨hent,hc⟩:=zc2 hr hk hsz hC
      unfold Oper.wp
      rw[hexec hent,Oper.upon_enter]
      refine hc.mono fun e w' ⟨v,r,h',S',M',he,hK,hr',hC'⟩=>?_
      subst he
      exact hn _ _ _ hK (Rel.put hr' hd hC')
     ·obtain⟨hent,hc⟩:=zc3 hr hk hsz hC
      unfold Oper.wp
      rw[hexec hent,Oper.upon_enter]
      refine hc.mono fun e w' ⟨v,r,h',S',M',clk',he,hK,hr',hC'⟩=>?_
      subst he
      exact hn _ _ _ hK (Rel.put hr' hd hC')
    obtain⟨f,id,g,z,i,oo,hy,hf0,hk⟩:=hk
    have hCr:=hr.env tt
    rw[show st.env.get tt=_ from hy]at hCr
    obtain⟨v,hv,hg,hpo,h1v⟩:=hCr.inv_fnp
    rw[znl hf0]at hv
    obtain⟨h1,h2⟩:=zbu hr.env _ _ hl
    have hsz:(cargs.map a.eval ++ #[v]).size=(l.map (ev st.env.get)++[AV.ptr id g z i oo]).length:=by
     grind
    have hC:∀(j:Nat) (u:Value) (c:AV),(cargs.map a.eval ++ #[v])[j]? = some u→(l.map (ev st.env.get)++[AV.ptr id g z i oo])[j]? = some c→C w S M st.clk u c:=by
     intro j u c hu hc
     have hs:cargs.size=l.length:=by omega
     rcases Nat.lt_or_ge j l.length with hj | hj
     ·grind
     ·rw[Array.getElem?_append_right (by grind)]at hu
      rw[List.getElem?_append_right (by grind)]at hc
      simp only[Array.size_map,List.length_map,hs]at hu hc
      cases hq:j-l.length with
      | succ q=>grind
      | zero=>
       rw[hq]at hu hc
       simp at hu hc
       subst hu
       subst hc
       exact .ptr _ _ _ _ _ _ hg hpo h1v
    have hexec:=zw8 (P:=P) (a:=a) (w:=w) (dst:=dst) (type:=type) (pos:=pos) (after:=after) (guard:=guard) (ats:=ats) (cargs:=cargs) hv
    rcases hk with hk | hk
    ·obtain⟨hent,hc⟩:=zc2 hr hk hsz hC
     unfold Oper.wp
     rw[hexec hent,Oper.upon_enter]
     refine hc.mono fun e w' ⟨v,r,h',S',M',he,hK,hr',hC'⟩=>?_
     subst he
     exact hn _ _ _ hK (Rel.put hr' hd hC')
    ·obtain⟨hent,hc⟩:=zc3 hr hk hsz hC
     unfold Oper.wp
     rw[hexec hent,Oper.upon_enter]
     refine hc.mono fun e w' ⟨v,r,h',S',M',clk',he,hK,hr',hC'⟩=>?_
     subst he
     exact hn _ _ _ hK (Rel.put hr' hd hC')
  | builtin b=>
   simp only at hop
   split at hop
   ·split at hop
    ·obtain⟨p,_,rfl⟩:=map_some hop;exact quiet hk
    ·obtain⟨p,_,rfl⟩:=map_some hop;exact quiet hk
    ·cases hop;exact quiet hk
    grind
   ·obtain⟨l,_,hop1⟩:=bind_some hop;split at hop1<;>cases hop1;exact quiet hk
   ·obtain⟨l,_,hop1⟩:=bind_some hop;split at hop1<;>cases hop1;exact quiet hk
   ·split at hop
    ·rename_i htu
     split at hop
     ·split at hop
      ·split at hop
       ·obtain⟨p,hp,hop1⟩:=bind_some hop
        obtain⟨q,hq,rfl⟩:=map_some hop1
        exact wr hk
       grind
      grind
     grind
    grind
   ·split at hop
    ·split at hop
     ·obtain⟨z,_,hop0⟩:=bind_some hop
      split at hop0
      ·obtain⟨p,_,hop1⟩:=bind_some hop0
       obtain⟨q,_,rfl⟩:=map_some hop1
       exact quiet hk
      grind
     grind
    grind
   grind
 case convert s d y=>
  split at hop
  ·obtain⟨p,hp,rfl⟩:=map_some hop;exact quiet hk
  ·split at hop
   ·obtain⟨p,hp,rfl⟩:=map_some hop;exact quiet hk
   grind
  grind
 case move y=>obtain⟨p,hp,rfl⟩:=map_some hop;exact quiet hk
 case assign y=>obtain⟨p,hp,rfl⟩:=map_some hop;exact quiet hk
 case pick c u v=>
  obtain⟨c',hc,hop1⟩:=bind_some hop
  obtain⟨u',hu,hop2⟩:=bind_some hop1
  obtain⟨v',hv,rfl⟩:=map_some hop2
  exact quiet hk
 case build t parts=>
  split at hop
  ·split at hop
   ·obtain⟨zs,hz,hop1⟩:=bind_some hop
    obtain⟨ps,hp,rfl⟩:=map_some hop1
    exact quiet hk
   grind
  ·obtain⟨n,_,hop0⟩:=bind_some hop
   obtain⟨zs,hz,hop1⟩:=bind_some hop0
   obtain⟨ps,hp,rfl⟩:=map_some hop1
   exact quiet hk
  grind
 case load t y=>
  obtain⟨n,hn',hop1⟩:=bind_some hop
  obtain⟨p,hp,rfl⟩:=map_some hop1
  exact quiet hk
 case nilCheck y=>obtain⟨p,hp,rfl⟩:=map_some hop;exact quiet hk
 case binOp op' t y z _=>
  obtain⟨p,hp,hop1⟩:=bind_some hop
  obtain⟨q,hq,hop2⟩:=bind_some hop1
  split at hop2
  ·cases hop2;exact quiet hk
  ·cases hop2;exact quiet hk
  ·cases op'<;>cases hop2<;>exact quiet hk
  ·split at hop2
   ·cases op'<;>try cases hop2
    ·obtain⟨ls,hl,rfl⟩:=map_some hop2;exact quiet hk
    ·obtain⟨ls,hl,rfl⟩:=map_some hop2;exact quiet hk
   grind
  ·split at hop2
   ·cases op'<;>cases hop2<;>exact quiet hk
   grind
  grind
 case unOp op' t y=>obtain⟨p,hp,rfl⟩:=map_some hop;exact quiet hk
 case slice t y lo hi mx=>
  split at hop
  ·obtain⟨z,hz,hop1⟩:=bind_some hop
   obtain⟨p,hp,hop2⟩:=bind_some hop1
   obtain⟨lo',hlo,hop3⟩:=bind_some hop2
   obtain⟨hi',hhi,hop4⟩:=bind_some hop3
   obtain⟨mx',hmx,hop5⟩:=bind_some hop4
   split at hop5<;>cases hop5
   exact quiet hk
  ·split at hop
   ·obtain⟨p,hp,hop2⟩:=bind_some hop
    obtain⟨lo',hlo,hop3⟩:=bind_some hop2
    obtain⟨hi',hhi,rfl⟩:=map_some hop3
    exact quiet hk
   grind
  grind
 case fieldAddr t y i=>
  split at hop
  ·split at hop
   ·obtain⟨n,hn',hop1⟩:=bind_some hop
    split at hop1
    ·grind
    ·obtain⟨p,hp,rfl⟩:=map_some hop1
     exact quiet hk
   grind
  grind
 case field t y i=>
  split at hop
  ·split at hop
   ·obtain⟨n,hn',hop1⟩:=bind_some hop
    obtain⟨p,hp,rfl⟩:=map_some hop1
    exact quiet hk
   grind
  grind
 case indexAddr t y i=>
  split at hop
  ·obtain⟨z,hz,hop1⟩:=bind_some hop
   obtain⟨p,hp,hop2⟩:=bind_some hop1
   obtain⟨q,hq,rfl⟩:=map_some hop2
   exact quiet hk
  ·obtain⟨z,hz,hop1⟩:=bind_some hop
   obtain⟨p,hp,hop2⟩:=bind_some hop1
   obtain⟨q,hq,rfl⟩:=map_some hop2
   exact quiet hk
  grind
 case index t y i=>
  split at hop
  ·obtain⟨p,hp,hop2⟩:=bind_some hop
   obtain⟨q,hq,rfl⟩:=map_some hop2
   exact quiet hk
  ·obtain⟨z,hz,hop1⟩:=bind_some hop
   obtain⟨k,hk',hop3⟩:=bind_some hop1
   obtain⟨p,hp,hop2⟩:=bind_some hop3
   obtain⟨q,hq,rfl⟩:=map_some hop2
   exact quiet hk
  grind
 case extract y i=>obtain⟨p,hp,rfl⟩:=map_some hop;exact quiet hk
 case lookup t y i ok=>
  split at hop
  ·obtain⟨k,_,hr1⟩:=bind_some hop
   obtain⟨zv,_,hr2⟩:=bind_some hr1
   obtain⟨p,_,hr3⟩:=bind_some hr2
   obtain⟨q,_,rfl⟩:=map_some hr3
   exact quiet hk
  ·cases hop
end
end
section
open Go.RowKit
def opQ(P:Program)(op:AOp)(e:Env)(h:Heap)(older:List Heap)(K:AV→Prop):Prop:=
 match op with
 | .call f args=>∃ys,(frzRL h (args.map (ev e.get))=some ys∧((args.map (ev e.get)).all noRef=false→∀h'∈older,frzRL h' (args.map (ev e.get))=some ys))∧∃r,PCall P f ys (·=r)∧K r
 | .inv nm _ u r args=>u=0∧∃t y f,ev e.get r=.ifc t y∧methOf P t nm=some f∧((drp1 y::args.map (ev e.get)).all noRef=true)∧∃x,PCall P f (drp1 y::args.map (ev e.get)) (·=x)∧K x
 | .bsl z zs len ps=>((ps.map fun p=>(p.1,ev e.get p.2)).all fun p=>noRef p.2)=true∧okK (bslAV z zs len [] (ps.map fun p=>(p.1,ev e.get p.2))) fun q=>K q.1
 | .app z (.c (.sl [] .nl)) y=>okK (cpnAV z (ev e.get y)) K
 | op=>okK (stepQ op e.get h) fun x=>(match op.free with | true=>True | false=>∀h'∈older,stepQ op e.get h'=some x)∧K x
def qK(P:Program)(o:AO)(e:Env)(h:Heap)(older:List Heap)(K:AV→Prop):Prop:=
 match o.guard with
 | none=>opQ P o.op e h older K
 | some (t,want)=>
  match e.get t with
  | .b v=>if v=want then opQ P o.op e h older K else K (.tup [])
  | .tup []=>K (.tup [])
  | _=>False
abbrev Pend:=List (Nat×(Heap→Prop))
def drawL(P:Program):List DO→Env→Heap→Nat→List Heap→Pend→(St→Prop)→Prop
 | [],e,h,clk,_,_,K=>K ⟨e,h,clk⟩
 | o::r,e,h,clk,older,pend,K=>
  match o.ao.op.writes with
  | true=>o.ao.guard=none∧okK (stepW o.ao.op o.ao.dst e.get h clk) fun q=>(∀p∈pend,0<p.1→p.2 q.2.1)∧drawL P r (putE e o.ao.dst q.1) q.2.1 q.2.2 (h::older) (pend.map fun p=>(p.1-1,p.2)) K
  | false=>qK P o.ao e h (older.take (older.length-o.lo)) fun x=>drawL P r (putE e o.ao.dst x) h clk older ((o.hi-older.length,fun h'=>QF P h' o.ao e.get x)::pend) K
def drawK(P:Program)(l:List DO)(st:St)(K:St→Prop):Prop:=drawL P l st.env st.heap st.clk [] [] K
section
variable{P:Program}{cx:Cx}{w w':World}{S S':Nat→Nat→Prop}{M:Map}{clk:Nat}{h:Heap}{ρ:Nat→AV}{a:Act}
theorem zag{nt:Nat}{ops:Array Oper}{o:Oper}{ao:AO}(hao:resOper P nt ops o=some ao):∃op g,resOp P o.op=some op∧resGuard ops o.guard=some g∧ao=⟨o.dst,g,op⟩∧∀e,o.dst=some e→e<nt:=by
 obtain⟨op,hop,hao1⟩:=bind_some hao
 obtain⟨g,hg,hao2⟩:=bind_some hao1
 grind
theorem zbm{ops:Array Oper}{o:Oper}(hg:resGuard ops o.guard=some none)(a:Act):Region.wanted o (yielded ops a.tmps)=true:=by
 have hgn:o.guard=none:=by
  unfold resGuard at hg
  split at hg
  ·omega
  ·obtain⟨d,_,hd⟩:=map_some hg;grind
 unfold Region.wanted
 grind
theorem znq{ops:Array Oper}{o:Oper}{t:Nat}{want v:Bool}{x:AV}(hg:resGuard ops o.guard=some (some (t,want)))(hC:C w S M clk (a.tmps.getD t undef) x)(hx:x=.b v):Region.wanted o (yielded ops a.tmps)=(v == want):=by
 obtain⟨j,hgj,hjd⟩:∃j,o.guard=some (j,want)∧(ops[j]?).bind (·.dst)=some t:=by
  unfold resGuard at hg
  split at hg
  ·grind
  ·obtain⟨d,hd,he⟩:=map_some hg
   grind
 subst hx
 have hv:=hC.inv_b
 unfold Region.wanted
 simp only[yielded]
 cases hq:a.tmps[t]? with
 | none=>simp[hq,undef]at hv
 | some u=>
  simp_all
theorem zli{ops:Array Oper}{o:Oper}{t:Nat}{want:Bool}{x:AV}{vs:List AV}(hg:resGuard ops o.guard=some (some (t,want)))(hC:C w S M clk (a.tmps.getD t undef) x)(hx:x=.tup vs):Region.wanted o (yielded ops a.tmps)=false:=by
 obtain⟨j,hgj,hjd⟩:∃j,o.guard=some (j,want)∧(ops[j]?).bind (·.dst)=some t:=by
  unfold resGuard at hg
  split at hg
  ·grind
  ·obtain⟨d,hd,he⟩:=map_some hg
   grind
 subst hx
 obtain⟨us,hv,_⟩:=hC.inv_tup
 unfold Region.wanted
 simp only[yielded]
 cases hq:a.tmps[t]? with
 | none=>grind
 | some u=>
  simp_all
theorem zsz:C w S M clk undef (.tup []):=.p (.tup #[] [] rfl fun j v c hv=>by grind)
theorem zcy{nt:Nat}{ops:Array Oper}{Q:Exit→Act→World→Prop}(hnt:nt=cx.nt):∀(l:List Oper) (aos:List AO) (st:St) (K:St→Prop) (a:Act) (w:World),resOpers P nt ops l=some aos→runK P aos st K→Rel cx st a w →
  (∀st' a' w',K st'→Rel cx st' a' w'→Q .normal a' w')→wpList P ops Q l a w
 | [],aos,st,K,a,w,hres,hk,hr,hQ=>by
  simp only[resOpers,Option.some.injEq]at hres
  subst hres
  exact hQ st a w hk hr
 | o::l,aos,st,K,a,w,hres,hk,hr,hQ=>by
  obtain⟨ao,hao,hres1⟩:=bind_some hres
  obtain⟨rest,hrest,rfl⟩:=map_some hres1
  obtain⟨op,g,hop,hg,rfl,hd⟩:=zag hao
  subst hnt
  simp only[runK,stepK]at hk
  refine wpList_step fun N hN=>?_
  have next:∀st' a' w',runK P rest st' K→Rel cx st' a' w'→N a' w':=fun st' a' w' h1 h2=>hN a' w' (zcy rfl l rest st' K a' w' hrest h1 h2 hQ)
  obtain⟨S,M,hrf⟩:=hr
  have skip:runK P rest ⟨putE st.env o.dst (.tup []),st.heap,st.clk⟩ K→N (a.put o.dst undef) w:=fun h1=>next _ _ _ h1 (Rel.put hrf hd zsz)
  cases g with
  | none=>
   grind[zbm,zlh]
  | some tw=>
   obtain⟨t,want⟩:=tw
   have hC:=hrf.env t
   grind[znq,zlh,zli]
theorem zs0{o:Op}{nm:String}{k u:Nat}{r:Opd}{args:List Opd}(hop:resOp P o=some (.inv nm k u r args))(hu:u=0) :
  ∃rr cargs ats,o=.call { callee:=.invoke rr nm,args:=cargs,argTypes:=ats }∧resOpd rr=some r∧resList cargs.toList=some args:=by
 replace hop:=zaz hop
 rcases hop with hop | ⟨k,xs,he,_⟩
 rotate_left
 ·grind
 cases o<;>simp only[resOp0]at hop
 case call c=>
  obtain⟨callee,cargs,ats⟩:=c
  cases callee with
  | invoke rr m=>
   obtain⟨p,hp,hr1⟩:=bind_some hop
   obtain⟨l,hl,he⟩:=map_some hr1
   injection he with h1 h2 h3 h4 h5
   subst h1 h4 h5
   grind
  | builtin b=>
   exfalso
   revert hop
   simp only
   repeat' split
   all_goals simp[Option.bind_eq_some_iff]
  | value fv=>
   cases fv<;>simp only at hop<;>try simp_all
   all_goals simp_all
 all_goals
  exfalso
  revert hop
  repeat' split
  all_goals simp[Option.bind_eq_some_iff]
theorem RelF.heap_congr{cx:Cx}{h h2:Heap}{ρ:Nat→AV}{a:Act}(he:∀id,h2.lookup id=h.lookup id)(hr:RelF cx S M clk h ρ a w):RelF cx S M clk h2 ρ a w:=
 ⟨hr.size,hr.defers,hr.env,⟨⟨fun b bx hb=>hr.wr.heap.box b bx (by grind),fun g m hm=>by
   obtain⟨b,bx,h1,h2⟩:=hr.wr.heap.live g m hm
   grind,fun b bx b' bx' h1 h2 hg=>hr.wr.heap.gens b bx b' bx' (by grind) (by grind) hg,hr.wr.heap.inj⟩,hr.wr.ext,hr.wr.fr,hr.wr.Snew,hr.wr.Slt,hr.wr.Mnew⟩⟩
theorem zqq{ids:List BId}(hk:∀id bx,id∈ids→h.lookup id=some bx→bx.kind=.sh)(b:BId):h.lookup b=(shareIds ids h).lookup b:=by
 rw[zd5]
 cases hb:h.lookup b with
 | none=>rfl
 | some bx=>
  split
  ·rename_i hc
   cases bx
   grind
  ·rfl
theorem zw9{x:AV}(hx:shR h x=true):∀id bx,id∈refs x→h.lookup id=some bx→bx.kind=.sh:=by
 intro id bx hid hb
 have:=List.all_eq_true.1 hx id hid
 grind
theorem z1i{vs:List Value}:∀{xs ys:List AV},frzRL h xs=some ys→vs.length=xs.length→HeapRel w S M clk h→(∀(j:Nat) (v:Value) (c:AV),vs[j]? = some v→xs[j]? = some c→C w S M clk v c) →
  ∃ids:List BId,(∀id bx,id∈ids→h.lookup id=some bx→bx.kind=.sh)∧vs.length=ys.length∧∀(j:Nat) (v:Value) (c:AV),vs[j]? = some v→ys[j]? = some c→CP w (cellsS h M ids S) v c:=by
 intro xs ys hf hl hh hc
 refine⟨(xs.filter fun x=>!noRef x).flatMap refs,fun id bx hid hb=>?_,?_⟩
 ·obtain⟨x,hx,hix⟩:=List.mem_flatMap.1 hid
  clear hc hl hid
  induction xs generalizing ys with
  | nil=>grind
  | cons x0 xs ih=>
   obtain⟨y,hy,hf1⟩:=bind_some hf
   obtain⟨ys',hys,_⟩:=map_some hf1
   grind[frzR,zw9]
 ·have key:∀(xs ys:List AV),frzRL h xs=some ys→xs.length=ys.length∧∀(j:Nat) (x y:AV),xs[j]? = some x→ys[j]? = some y→frzR h x=some y:=by
   intro xs
   induction xs with
   | nil=>grind[frzRL]
   | cons x0 xs ih=>
    intro ys h0
    obtain⟨y,hy,hf1⟩:=bind_some h0
    obtain⟨ys',hys,rfl⟩:=map_some hf1
    grind
  obtain⟨k1,k2⟩:=key xs ys hf
  refine⟨by omega,fun j v y hv hy=>?_⟩
  have hj:j<xs.length:=by grind
  have hx:xs[j]? = some (xs[j]'hj):=List.getElem?_eq_getElem hj
  have hC:=hc j v _ hv hx
  have hfj:=k2 j _ _ hx hy
  unfold frzR at hfj
  split at hfj
  ·rename_i hn
   cases hfj
   exact(hC.mono (zkf _)).noRef hn
  grind[zf1]
theorem za6{nt:Nat}{ops:Array Oper}{Q':Exit→Act→World→Prop}{i:Nat}{o:Oper}{ao:AO}{x:AV}{K:Act→World→Prop}(ho:ops[i]? = some o)(hnt:nt=cx.nt)
  (hao:resOper P nt ops o=some ao) (hq:QF P h ao ρ x) (hr:RelR cx clk h ρ a w) (hK:∀a' w',RelR cx clk h (upd ρ o.dst x) a' w'→K a' w'):wpOp P ops Q' i K a w:=by
 subst hnt
 obtain⟨S,M,hr⟩:=hr
 obtain⟨op,g,hop,hg,rfl,hd⟩:=zag hao
 unfold wpOp
 simp only[ho]
 have skip:x=.tup []→Region.wanted o (yielded ops a.tmps)=false→if Region.wanted o (yielded ops a.tmps)=true then o.wp P a w K Q'∨o.asks P a w∧LetsOut Q' else K (a.put o.dst undef) w:=by
  intro hx hw
  rw[hw]
  subst hx
  exact hK _ _ ⟨S,M,hr.put hd zsz⟩
 have run:Region.wanted o (yielded ops a.tmps)=true→QOp P op ρ h x→if Region.wanted o (yielded ops a.tmps)=true then o.wp P a w K Q'∨o.asks P a w∧LetsOut Q' else K (a.put o.dst undef) w:=by
  intro hw hqo
  rw[hw]
  refine .inl ?_
  have quiet:stepQ op ρ h=some x→o.wp P a w K Q':=by
   intro hs
   obtain⟨v,hv,hC⟩:=zhr (P:=P) hop hr.env hr.wr.heap hs
   exact zc4 hv (hK _ _ ⟨S,M,hr.put hd hC⟩)
  cases op with
  | call f args=>
   obtain⟨ys,hfr,hent1,hp⟩:=hqo
   obtain⟨dst,oop,type,pos,after,guard⟩:=o
   obtain⟨cargs,ats,hcall,hl⟩:=zcx hop
   subst hcall
   obtain⟨r1,r2⟩:=zbu hr.env _ _ hl
   obtain⟨ids,hk,h1,h2⟩:=z1i (vs:=cargs.toList.map a.eval) hfr (by grind) hr.wr.heap (fun j v c hv hc=>r2 j v c hv hc)
   replace hr:=(hr.share ids fun id bx hid hb=>by grind).heap_congr (h2:=h) (zqq hk)
   have hc:=hp w _ (cargs.map a.eval) (by grind) (fun j v c hv hc=>h2 j v c (by grind) hc) hr.wr.Slt
   unfold Oper.wp
   have hrun:(execOp a.eval { dst:=dst,op:=.call { callee:=.value (.func f),args:=cargs,argTypes:=ats },type:=type,pos:=pos,after:=after,guard:=guard }).run P w=.ok (.enter f (cargs.map a.eval)) w:=by
    simp only[execOp,resolve,Act.eval,Deferred.ofValue,Sem.run_bind,Sem.run_pure,Result.andThen_ok,invoke]
    have:=hent1 (cargs.map a.eval) w
    grind
   rw[hrun,Oper.upon_enter]
   refine hc.mono fun e w' ⟨v,r,he,hpr,hb,hC⟩=>?_
   subst he
   subst hpr
   exact hK _ _ ⟨_,M,(hr.below hb).put hd (.p hC)⟩
  | inv nm k u r args=>
   obtain⟨hu0,t,y,f,hy,hm,hn,hent1,hp⟩:=hqo
   obtain⟨dst,oop,type,pos,after,guard⟩:=o
   obtain⟨rr,cargs,ats,rfl,hrr,hl⟩:=zs0 hop hu0
   have hCr:=ev_C hr.env hrr
   rw[hy]at hCr
   obtain⟨v,hv,hCy⟩:=hCr.inv_ifc
   obtain⟨h1,h2⟩:=zbu hr.env _ _ hl
   have hsz:(#[v]++cargs.map a.eval).size=(drp1 y::args.map (ev ρ)).length:=by
    grind
   have hC:∀(j:Nat) (u:Value) (c:AV),(#[v]++cargs.map a.eval)[j]? = some u→(drp1 y::args.map (ev ρ))[j]? = some c→CP w S u c:=by
    intro j u c hu hc
    have hnr:=List.all_eq_true.1 hn c (List.mem_of_getElem? hc)
    cases j with
    | zero=>
     rw[Array.getElem?_append_left (by simp)]at hu
     cases hu
     cases hc
     exact hCy.drp1.noRef hnr
    | succ j=>
     exact(h2 j u c (by grind) (by grind)).noRef hnr
   have hc:=hp w S (#[v]++cargs.map a.eval) hsz hC hr.wr.Slt
   unfold Oper.wp
   rw[zjf hv hm hent1,Oper.upon_enter]
   refine hc.mono fun e w' ⟨v,r,he,hpr,hb,hC⟩=>?_
   subst he
   subst hpr
   exact hK _ _ ⟨_,M,(hr.below hb).put hd (.p hC)⟩
  | bsl z zs len ps=>
   obtain⟨hn,h0,hb⟩:=hqo
   obtain⟨dst,oop,type,pos,after,guard⟩:=o
   obtain⟨t,parts,e,ht,hz,hlim,hzs,hzl,hps,rfl⟩:∃t parts e,P.underlying t=some (.slice e)∧sizeT P e=some z∧(len*z≤16777216∧z≠0)∧zeros P e=some zs∧zs.length=z∧resPartsS parts.toList=some ps∧oop=.buildSlice t len parts:=by
    have hcall:∀c,oop=.call c→(AOp.bsl z zs len ps).makes=false:=fun c hc=>zje (P:=P) (by rw[←hc];omega)
    have hop':=zaz hop
    clear hop
    rcases hop' with hop | ⟨k,xs,he,_⟩
    rotate_left
    ·grind
    cases oop<;>simp only[resOp0]at hop
    case buildSlice t len' parts=>
     split at hop
     ·obtain⟨z',hz,hop1⟩:=bind_some hop
      split at hop1
      ·obtain⟨zs',hzs,hop2⟩:=bind_some hop1
       split at hop2
       ·obtain⟨ps',hps,he⟩:=map_some hop2
        grind
       grind
      grind
     grind
    case call c=>exact absurd (hcall c rfl) (by simp[AOp.makes])
    all_goals
     exfalso
     revert hop
     repeat' split
     all_goals simp[Option.bind_eq_some_iff]
   obtain⟨h1,h2⟩:=ze3 hr.env _ _ hps
   -- parts without boxes are the same,whatever boxes there are
   have pure1:∀x:AV,noRef x=true→frz1 h x=frz1 [] x∧refs x=[]:=by
    intro x hx
    have hc:∀c:AV,pureC c=true→frzC h c=frzC [] c:=by intro c hc;cases c<;>first | rfl | cases hc
    cases x<;>try (exact⟨rfl,rfl⟩)
    case agg cs=>
     simp only[noRef,List.all_eq_true]at hx
     refine⟨?_,?_⟩
     ·simp only[frz1]
      have:cs.mapM (frzC h)=cs.mapM (frzC []):=by
       induction cs with
       | nil=>rfl
       | cons c cs ih=>grind
      grind
     ·simp only[refs,List.flatMap_eq_nil_iff]
      intro c hcm
      have:=hx c hcm
      cases c<;>first | rfl | cases this
    all_goals cases hx
   have hq:∀qs:List (Nat×AV),(qs.all fun p=>noRef p.2)=true→frzP h qs=frzP [] qs∧(qs.flatMap fun p=>refs p.2)=[]:=by
    intro qs
    induction qs with
    | nil=>intro _;exact⟨rfl,rfl⟩
    | cons q qs ih=>
     intro hall
     obtain⟨i,y⟩:=q
     simp only[List.all_cons,Bool.and_eq_true]at hall
     obtain⟨e1,e2⟩:=ih hall.2
     obtain⟨e3,e4⟩:=pure1 y hall.1
     exact⟨by simp only[frzP,e1,e3],by grind⟩
   obtain⟨e1,e2⟩:=hq _ hn
   have hb':bslAV z zs len h (ps.map fun p=>(p.1,ev ρ p.2))=some (x,h):=by
    unfold bslAV at hb ⊢
    obtain⟨qs,hqs,hb1⟩:=bind_some hb
    obtain⟨els,hels,he⟩:=map_some hb1
    grind[shareIds]
   obtain⟨v',w',S',M',h3,h4,h5⟩:=zlf (parts:=Array.map (fun(x:Nat×Operand)=>(x.fst,a.eval x.snd)) parts) hr ht hz hlim.1 hlim.2 hzs hzl (by simp_all) (fun j v x hv hx=>h2 j v x (by grind) hx) hb'
   exact zc4 (w':=w') (zgs h3) (hK _ _ ⟨S',M',h4.put hd h5⟩)
  | app z px py=>
   by_cases hx:px=.c (.sl [] .nl)
   ·subst hx
    have hs:cpnAV z (ev ρ py)=some x:=hqo
    obtain⟨dst,oop,type,pos,after,guard⟩:=o
    have hop':=zaz hop
    clear hop
    rcases hop' with hop | ⟨k,xs,he,_⟩
    rotate_left
    ·grind
    cases oop<;>simp only[resOp0]at hop
    case call c=>
     obtain⟨callee,cargs,ats⟩:=c
     cases callee with
     | invoke r m=>
      obtain⟨p,hp,hr1⟩:=bind_some hop
      simp_all
     | value fv=>
      cases fv<;>simp only at hop<;>try simp_all
      all_goals simp_all
     | builtin b=>
      simp only at hop
      split at hop
      ·revert hop
       repeat' split
       all_goals simp
      ·obtain⟨l,_,hop1⟩:=bind_some hop;grind
      ·obtain⟨l,_,hop1⟩:=bind_some hop;grind
      ·rename_i y1 y2 t u hargs hts
       split at hop
       ·rename_i htu
        split at hop
        ·rename_i e ht
         split at hop
         ·rename_i inf hi
          split at hop
          ·rename_i hcond
           obtain⟨h0,hby,hzs⟩:=hcond
           obtain⟨p,hp,hop1⟩:=bind_some hop
           obtain⟨q,hq,he⟩:=map_some hop1
           cases he
           obtain⟨zv,hzv,hzc⟩:∃zv,inf.zero=some zv∧zv.cells.size=inf.size:=by
            cases hzz:inf.zero with
            | none=>grind
            | some zv=>grind
           obtain⟨v',w',S',M',h1,h2,h3⟩:=zst (P:=P) (ty:=type) hr ht hi h0 hby hzv hzc rfl (ev_C hr.env hp) (ev_C hr.env hq) hs
           have ha:cargs=#[y1,y2]:=by grind
           have hat:ats=#[t,t]:=by grind
           subst ha
           subst hat
           exact zc4 (w':=w') (by simp[execOp,resolve,invoke,builtin,h1]) (hK _ _ ⟨S',M',h2.put hd h3⟩)
          grind
         grind
        grind
       grind
      ·split at hop
       ·split at hop
        ·obtain⟨z,_,hop0⟩:=bind_some hop
         split at hop0
         ·obtain⟨p,_,hop1⟩:=bind_some hop0
          simp_all
         grind
        grind
       grind
      grind
    all_goals
     exfalso
     revert hop
     repeat' split
     all_goals simp[Option.bind_eq_some_iff]
   ·exact((zto hx).1 hqo).elim
  | _=>exact quiet hqo
 unfold QF at hq
 cases g with
 | none=>exact run (zbm hg a) hq
 | some tw=>
  obtain⟨t,want⟩:=tw
  rcases hq with ⟨hb,hqo⟩ | ⟨hb,hx⟩
  ·exact run (by rw[znq hg (hr.env t) hb];simp) hqo
  ·refine skip hx ?_
   rcases hb with hb | hb
   ·rw[znq hg (hr.env t) hb];grind
   ·exact zli hg (hr.env t) hb
end
end
section
open Go.RowKit
section
variable{P:Program}{ops:Array Oper}
theorem zew{md:Region.Mode}:∀(n k:Nat) (listed:Array Bool),Region.lexFrom md ops n k listed=true→(∀i,listed.getD i false=true→i<k)→∀i o,k≤i→i<k+n→ops[i]? = some o→∀e∈o.after,Region.binds md e=true→e.on<i
 | 0,k,listed,_,_,i,o,h1,h2,_,_,_,_=>by omega
 | n+1,k,listed,hB,hl,i,o,h1,h2,ho,e,he,hb=>by
  simp only[Region.lexFrom,Bool.and_eq_true]at hB
  obtain⟨⟨hr,_⟩,hB'⟩:=hB
  by_cases hik:i=k
  ·grind[mem_ready]
  ·refine zew n (k+1) _ hB' (fun j hj=>?_) i o (by omega) (by omega) ho e he hb
   by_cases hjk:k=j
   ·omega
   ·rw[getD_set_ne false hjk]at hj
    grind
theorem zlj(hB:Region.lexB .any ops=true):∀(i:Nat) (o:Oper),ops[i]? = some o→∀e∈o.after,Region.binds .any e=true→e.on<i:=by
 simp only[Region.lexB,Bool.and_eq_true]at hB
 intro i o ho
 have hi:i<ops.size:=(Array.getElem?_eq_some_iff.1 ho).1
 grind[zew,getD_replicate_false]
theorem zf2{listed:Array Bool}(hB:Region.lexB .any ops=true)(hr:Region.ready .any ops listed=[])(hsz:listed.size=ops.size):∀i,i<ops.size→listed.getD i false=true:=by
 intro i
 induction i using Nat.strongRecOn with
 | _ i ih=>
  intro hi
  cases hl:listed.getD i false with
  | true=>rfl
  | false=>
   have ho:ops[i]? = some (ops[i]'hi):=Array.getElem?_eq_getElem hi
   have:i∈Region.ready .any ops listed:=mem_ready.2 ⟨getD_in (by omega) hl,_,ho,fun e he hb=>by
    grind[zlj]⟩
   grind
theorem za0{listed:Array Bool}(hc:Clo .any ops listed):∀(n v i:Nat),(listed.getD i false=true∨i∈Region.ready .any ops listed)→precedes ops n v i=true→listed.getD v false=true
 | 0,_,_,_,h=>by cases h
 | n+1,v,i,hi,h=>by
  simp only[precedes]at h
  split at h
  ·cases h
  ·rename_i o ho
   obtain⟨e,he,hb⟩:=Array.any_eq_true'.1 h
   simp only[Bool.and_eq_true,Bool.or_eq_true,beq_iff_eq]at hb
   have hl:listed.getD e.on false=true:=by
    rcases hi with hi | hi
    ·exact hc.closed i o ho hi e he hb.1
    ·obtain⟨_,o',ho',hall⟩:=mem_ready.1 hi
     rw[ho]at ho'
     cases ho'
     exact hall e he hb.1
   rcases hb.2 with hb2 | hb2
   ·rw[←hb2];exact hl
   ·exact za0 hc n v e.on (.inl hl) hb2
theorem zcl:∀(ws:List Nat) (m a b:Nat),chained ops ws=true→ws[m]? = some a→ws[m+1]? = some b→∃o,ops[b]? = some o∧∃e∈o.after,Region.binds .any e=true∧e.on=a
 | [],_,_,_,_,h,_=>by simp at h
 | [x],m,_,_,_,_,h=>by cases m<;>simp at h
 | x::y::r,m,a,b,hc,h1,h2=>by
  simp only[chained,Bool.and_eq_true]at hc
  cases m with
  | zero=>
   simp at h1 h2
   subst h1
   subst h2
   have h3:=hc.1
   split at h3
   ·rename_i o ho
    obtain⟨e,he,hb⟩:=Array.any_eq_true'.1 h3
    simp only[Bool.and_eq_true,beq_iff_eq]at hb
    exact⟨o,ho,e,he,hb.1,hb.2⟩
   ·cases h3
  | succ m=>exact zcl (y::r) m a b hc.2 (by simpa using h1) (by simpa using h2)
theorem zb4{ws:List Nat}{listed:Array Bool}(hch:chained ops ws=true)(hc:Clo .any ops listed):∀(d p v u:Nat),ws[p]? = some v→ws[p+d]? = some u→listed.getD u false=true→listed.getD v false=true
 | 0,p,v,u,h1,h2,hl=>by rw[Nat.add_zero,h1]at h2;cases h2;exact hl
 | d+1,p,v,u,h1,h2,hl=>by
  have hlt:p+d<ws.length:=by have:=zb6 h2;omega
  have hx:ws[p+d]? = some (ws[p+d]'hlt):=List.getElem?_eq_getElem hlt
  obtain⟨o,ho,e,he,hb,hon⟩:=zcl ws (p+d) _ u hch hx h2
  have:=hc.closed u o ho hl e he hb
  rw[hon]at this
  exact zb4 hch hc d p v _ h1 hx this
theorem zbb{ws:List Nat}{f:Nat→Bool}:∀(p:Nat),p≤ws.length→(∀m v,ws[m]? = some v→(f v=true↔m<p))→(ws.filter f).length=p:=by
 induction ws with
 | nil=>grind
 | cons x ws ih=>
  intro p hp h
  have h0:=h 0 x rfl
  cases p with
  | zero=>
   have hx:f x=false:=by grind
   simp only[List.filter_cons,hx,Bool.false_eq_true,if_false]
   exact ih 0 (Nat.zero_le _) fun m v hv=>by
    have:=h (m+1) v (by grind)
    grind
  | succ p=>
   have hx:f x=true:=h0.2 (Nat.succ_pos _)
   simp only[List.filter_cons,hx,if_true,List.length_cons]
   rw[ih p (by grind) fun m v hv=>by
    have:=h (m+1) v (by grind)
    grind]
theorem zby(l:List AO)(k:Nat):k∈writersOf l↔∃ao,l[k]? = some ao∧ao.op.writes=true:=by
 unfold writersOf
 simp only[List.mem_map,List.mem_filter]
 constructor
 ·grind
 ·rintro⟨ao,h1,h2⟩
  exact⟨(ao,k),⟨by grind,h2⟩,rfl⟩
theorem zdg(l:List AO):(writersOf l).Pairwise (· < ·):=by
 unfold writersOf
 rw[List.pairwise_map]
 have key:∀(l:List AO) (k:Nat),(l.zipIdx k).Pairwise (fun a b=>a.2<b.2):=by
  intro l
  induction l with
  | nil=>simp_all
  | cons x l ih=>
   grind[List.zipIdx_cons,List.pairwise_cons]
 grind
theorem zbn{ws:List Nat}(hs:ws.Pairwise (· < ·)){p q a b:Nat}(h1:ws[p]? = some a)(h2:ws[q]? = some b)(hpq:p<q):a<b:=by
 grind[List.pairwise_iff_getElem]
theorem zkg{o:AO}{ρ:Nat→AV}{x:AV}(hf:o.op.freeE ρ=true)(h1 h2:Heap)(hq:QF P h1 o ρ x):QF P h2 o ρ x:=by
 grind[QF,zxv]
theorem zqr{o:AO}{e:Env}{h:Heap}{older:List Heap}{K:AV→Prop}(hw:o.op.writes=false)(hk:qK P o e h older K):∃x,QF P h o e.get x∧(o.op.freeE e.get=false→∀h'∈older,QF P h' o e.get x)∧K x:=by
 obtain⟨dst,guard,op⟩:=o
 have one:opQ P op e h older K→∃x,QOp P op e.get h x∧(op.freeE e.get=false→∀h'∈older,QOp P op e.get h' x)∧K x:=by
  intro hk
  by_cases hap:∃z x0 y,op=.app z x0 y
  ·obtain⟨z,x0,y,rfl⟩:=hap
   by_cases hx:x0=.c (.sl [] .nl)
   ·subst hx
    obtain⟨x,h1,h2⟩:=hk
    exact⟨x,h1,fun hf=>(by cases hf),h2⟩
   grind[zqm]
  cases op
  case app=>grind
  case call f args=>
   obtain⟨ys,⟨h1,h2⟩,r,h3,h4⟩:=hk
   exact⟨r,⟨ys,h1,h3⟩,fun hf h' hh=>⟨ys,h2 hf h' hh,h3⟩,h4⟩
  all_goals first
   | (obtain⟨h1,r,h2,h3⟩:=hk;exact⟨r,⟨h1,h2⟩,fun hf=>(by cases hf),h3⟩)
   | (obtain⟨h0,t,y,f,h1,h2,h3,r,h4,h5⟩:=hk;exact⟨r,⟨h0,t,y,f,h1,h2,h3,h4⟩,fun hf=>(by cases hf),h5⟩)
   | (obtain⟨h1,⟨r,h'⟩,h2,h3⟩:=hk;exact⟨r,⟨h1,h',h2⟩,fun hf=>(by cases hf),h3⟩)
   | (obtain⟨x,hx,h2,hK⟩:=hk;exact⟨x,hx,fun hf=>(by simp only[AOp.freeE]at hf;simp only[hf]at h2;exact h2),hK⟩)
 unfold qK at hk
 unfold QF
 cases guard with
 | none=>grind
 | some tw=>
  obtain⟨t,want⟩:=tw
  simp only at hk ⊢
  split at hk
  ·rename_i v hv
   by_cases hvw:v=want
   ·grind
   ·have:e.get t=.b (!want):=by
     cases v<;>cases want<;>simp_all
    grind
  all_goals grind
def FD(P:Program)(ops:Array Oper)(aos:List AO)(H:Nat→Heap)(C:Nat→Nat)(i:Nat)(ρ:Nat→AV)(x:AV):Prop:=
 ∃ao,aos[i]? = some ao ∧
  match ao.op.writes with
  | true=>ao.guard=none∧∃p,(writersOf aos)[p]? = some i∧stepW ao.op ao.dst ρ (H p) (C p)=some (x,H (p+1),C (p+1))
  | false=>∀j,lowOf ops (writersOf aos) i≤j→j≤highOf ops (writersOf aos) i→QF P (H j) ao ρ x
theorem znr{aos:List AO}{K:St→Prop}(hok:drawOk ops aos=true)(hdst:∀(i:Nat) (o:Oper),ops[i]? = some o→∃ao:AO,aos[i]? = some ao∧ao.dst=o.dst) :
  ∀(l:List Oper) (k:Nat) (rest:List AO) (e:Env) (h:Heap) (clk:Nat) (older:List Heap) (oc:List Nat) (pend:Pend),(∀i,l[i]? = ops[k+i]?)→(∀i,rest[i]? = aos[k+i]?)→l.length=rest.length→oc.length=older.length →
   older.length≤(writersOf aos).length→(∀m v,(writersOf aos)[m]? = some v→(v<k↔m<older.length)) →
   drawL P ((rest.zipIdx k).map fun p=>⟨p.1,lowOf ops (writersOf aos) p.2,highOf ops (writersOf aos) p.2⟩) e h clk older pend K →
   ∃(H:Nat→Heap) (C:Nat→Nat),(∀m x,older.reverse[m]? = some x→H m=x)∧(∀m x,oc.reverse[m]? = some x→C m=x)∧H older.length=h∧C older.length=clk∧(∀p∈pend,∀j,older.length<j→j≤older.length+p.1→j≤(writersOf aos).length→p.2 (H j)) ∧
    lexE ops (FD P ops aos H C) (fun ρ=>∃e,ρ=Env.get e∧K ⟨e,H (writersOf aos).length,C (writersOf aos).length⟩) l k e.get
 | [],k,rest,e,h,clk,older,oc,pend,hl,hr,hlen,hoc,hle,hws,hk=>by
  have:rest=[]:=by grind
  subst this
  simp only[List.zipIdx_nil,List.map_nil,drawL]at hk
  have hfull:older.length=(writersOf aos).length:=by
   rcases Nat.lt_or_ge older.length (writersOf aos).length with hlt | hge
   ·have hx:(writersOf aos)[older.length]? = some ((writersOf aos)[older.length]'hlt):=List.getElem?_eq_getElem hlt
    have h1:=(hws _ _ hx)
    have hmem:((writersOf aos)[older.length]'hlt)∈writersOf aos:=List.getElem_mem _
    obtain⟨ao,h2,_⟩:=(zby aos _).1 hmem
    have h4:=hr (((writersOf aos)[older.length]'hlt)-k)
    grind
   omega
  refine⟨fun m=>if m=older.length then h else (older.reverse[m]?).getD [],fun m=>if m=older.length then clk else (oc.reverse[m]?).getD 0,fun m x hx=>?_,fun m x hx=>?_,by simp,by simp,fun p _ j h1 _ h3=>by omega,⟨e,rfl,?_⟩⟩
  all_goals grind
 | o::l,k,rest,e,h,clk,older,oc,pend,hl,hr,hlen,hoc,hle,hws,hk=>by
  cases rest with
  | nil=>grind
  | cons ao rest=>
   have ho:ops[k]? = some o:=by simpa using (hl 0).symm
   have hao:aos[k]? = some ao:=by simpa using (hr 0).symm
   obtain⟨ao',h1,hd⟩:=hdst k o ho
   rw[hao]at h1
   cases h1
   have hl':∀i,l[i]? = ops[(k+1)+i]? := fun i=>by have:=hl (i+1);grind
   have hr':∀i,rest[i]? = aos[(k+1)+i]? := fun i=>by have:=hr (i+1);grind
   have hlen':l.length=rest.length:=by grind
   simp only[List.zipIdx_cons,List.map_cons,drawL]at hk
   have hsort:=zdg aos
   unfold drawOk at hok
   cases hwr:ao.op.writes with
   | true=>
    rw[hwr]at hk
    simp only at hk
    obtain⟨hgn,⟨x,h',clk'⟩,hst,hpd,hk2⟩:=hk
    have hkm:k∈writersOf aos:=(zby aos k).2 ⟨ao,hao,hwr⟩
    obtain⟨m,hm⟩:=List.getElem?_of_mem hkm
    have hmo:m=older.length:=by
     have h1:=hws m k hm
     have h2:¬ m<older.length:=fun hh=>Nat.lt_irrefl k (h1.2 hh)
     rcases Nat.lt_or_ge older.length m with h3 | h3
     ·have hlt:older.length<(writersOf aos).length:=by grind
      have hx:(writersOf aos)[older.length]? = some ((writersOf aos)[older.length]'hlt):=List.getElem?_eq_getElem hlt
      grind[zbn]
     omega
    subst hmo
    obtain⟨H,C,hH,hC,hHe,hCe,hPe,hlex⟩:=znr (K:=K) (by grind[drawOk]) hdst l (k+1) rest (putE e ao.dst x) h' clk' (h::older) (clk::oc) (pend.map fun p=>(p.1-1,p.2)) hl' hr' hlen' (by grind) (by grind) (fun m v hv=>by
     grind[zbn]) hk2
    refine⟨H,C,fun m x hx=>hH m x ?_,fun m x hx=>hC m x ?_,?_,?_,fun p hp j h1 h2 h3=>?_,?_⟩
    ·grind
    ·grind
    ·exact hH older.length h (by simp)
    ·grind
    ·simp only[List.length_cons]at hHe hPe
     rcases Nat.lt_or_ge (older.length+1) j with h4 | h4
     ·exact hPe (p.1-1,p.2) (List.mem_map.2 ⟨p,hp,rfl⟩) j h4 (by omega) h3
     grind
    ·refine⟨x,⟨ao,hao,?_⟩,?_⟩
     ·simp only[hwr]
      refine⟨hgn,older.length,hm,?_⟩
      have e1:H older.length=h:=hH older.length h (by simp)
      grind
     grind[zb7]
   | false=>
    rw[hwr]at hk
    obtain⟨x,hq1,hq2,hk2⟩:=zqr hwr hk
    have hkm:k∉writersOf aos:=fun hmem=>by
     grind[zby]
    obtain⟨H,C,hH,hC,hHe,hCe,hPe,hlex⟩:=znr (K:=K) (by grind[drawOk]) hdst l (k+1) rest (putE e ao.dst x) h clk older oc ((highOf ops (writersOf aos) k-older.length,fun h'=>QF P h' ao e.get x)::pend) hl' hr' hlen' hoc hle (fun m v hv=>by
     grind) hk2
    refine⟨H,C,hH,hC,hHe,hCe,fun p hp=>hPe p (List.mem_cons_of_mem _ hp),x,⟨ao,hao,?_⟩,?_⟩
    ·simp only[hwr]
     intro j hlo hhi
     cases hfr:ao.op.freeE e.get with
     | true=>exact zkg hfr h _ hq1
     | false=>
      rcases Nat.lt_or_ge j older.length with hj | hj
      ·have hx:older.reverse[j]? = some (older.reverse[j]'(by grind)):=List.getElem?_eq_getElem _
       rw[hH j _ hx]
       have hx2:(older.take (older.length-lowOf ops (writersOf aos) k))[older.length-1-j]? = some (older[older.length-1-j]'(by omega)):=by
        grind
       grind
      ·rcases Nat.lt_or_ge older.length j with hj2 | hj2
       ·grind[highOf,List.mem_cons_self]
       grind
    ·rw[←hd,←zb7]
     omega
end
end
section
open Go.RowKit
section
variable{P:Program}{ops:Array Oper}{cx:Cx}{w:World}{a:Act}
theorem za3{nt:Nat}{ops:Array Oper}:∀(l:List Oper) (aos:List AO),resOpers P nt ops l=some aos→∀(i:Nat) (o:Oper),l[i]? = some o→∃ao,aos[i]? = some ao∧resOper P nt ops o=some ao
 | [],aos,_,i,o,h=>by simp at h
 | o'::l,aos,hres,i,o,h=>by
  obtain⟨ao,hao,hres1⟩:=bind_some hres
  obtain⟨rest,hrest,rfl⟩:=map_some hres1
  cases i with
  | zero=>simp at h;subst h;exact⟨ao,rfl,hao⟩
  | succ i=>exact za3 l rest hrest i o (by simpa using h)
theorem za4{nt:Nat}{ops:Array Oper}:∀(l:List Oper) (m:List AO),resOpers P nt ops l=some m→l.length=m.length
 | [],m,h=>by simp only[resOpers,Option.some.injEq]at h;subst h;rfl
 | o::l,m,h=>by
  obtain⟨ao,_,h1⟩:=bind_some h
  obtain⟨rest,hr,rfl⟩:=map_some h1
  simp[za4 l rest hr]
theorem zbz{o:Oper}{op:AOp}{ρ ρ':Nat→AV}{d:Option Nat}{h:Heap}{clk:Nat}(hop:resOp P o.op=some op)(hρ:∀t,Operand.tmp t∈o.op.operands.toList→ρ t=ρ' t):stepW op d ρ h clk=stepW op d ρ' h clk:=by
 obtain⟨dst,oop,type,pos,after,guard⟩:=o
 have hop':=zaz hop
 clear hop
 rcases hop' with hop | ⟨k,xs,he,hx⟩
 rotate_left
 ·subst he
  rcases hx with hx | ⟨rfl,rfl⟩
  ·have e1:xs.map (ev ρ)=xs.map (ev ρ'):=List.map_congr_left fun y hy=>by
    cases y with
    | t t=>exact hρ t (zpi hx t hy)
    | c v=>rfl
   simp only[stepW,e1]
  ·rfl
 cases oop<;>simp only[resOp0]at hop<;>try (cases hop;done)
 case alloc t=>obtain⟨zs,_,rfl⟩:=map_some hop;rfl
 case store t y v=>
  obtain⟨n,hn,hop1⟩:=bind_some hop
  obtain⟨p,hp,hop2⟩:=bind_some hop1
  obtain⟨q,hq,rfl⟩:=map_some hop2
  grind[stepW,zam,Op.operands]
 case makeSlice t l c=>
  split at hop
  ·split at hop
   ·split at hop
    ·obtain⟨zs,_,hop1⟩:=bind_some hop
     split at hop1
     ·obtain⟨p,hp,hop2⟩:=bind_some hop1
      obtain⟨q,hq,rfl⟩:=map_some hop2
      grind[stepW,zam,Op.operands]
     grind
    grind
   grind
  grind
 case call c=>
  obtain⟨callee,cargs,ats⟩:=c
  cases callee with
  | invoke r m=>
   obtain⟨p,hp,hr1⟩:=bind_some hop
   obtain⟨l,hl,rfl⟩:=map_some hr1
   rfl
  | value fv=>
   cases fv<;>simp only at hop<;>try (cases hop;done)
   all_goals
    obtain⟨l,hl,rfl⟩:=map_some hop
    rfl
  | builtin b=>
   simp only at hop
   split at hop
   ·split at hop
    ·obtain⟨p,_,rfl⟩:=map_some hop;rfl
    ·obtain⟨p,_,rfl⟩:=map_some hop;rfl
    ·cases hop;rfl
    grind
   ·obtain⟨l,_,hop1⟩:=bind_some hop;split at hop1<;>cases hop1;rfl
   ·obtain⟨l,_,hop1⟩:=bind_some hop;split at hop1<;>cases hop1;rfl
   ·split at hop
    ·split at hop
     ·split at hop
      ·split at hop
       ·obtain⟨p,hp,hop1⟩:=bind_some hop
        obtain⟨q,hq,rfl⟩:=map_some hop1
        grind[stepW,zam,Op.operands,Call.operands]
       grind
      grind
     grind
    grind
   ·split at hop
    ·split at hop
     ·obtain⟨z,_,hop0⟩:=bind_some hop
      split at hop0
      ·obtain⟨p,_,hop1⟩:=bind_some hop0
       obtain⟨q,_,rfl⟩:=map_some hop1
       rfl
      grind
     grind
    grind
   grind
 all_goals
  have:stepW op d ρ h clk=none∧stepW op d ρ' h clk=none:=by
   revert hop
   repeat' split
   all_goals (intro hop;simp[Option.bind_eq_some_iff]at hop)
   all_goals first
    | (subst hop;exact⟨rfl,rfl⟩)
    | (obtain⟨_,_,rfl⟩:=hop;exact⟨rfl,rfl⟩)
    | (obtain⟨_,_,_,rfl⟩:=hop;exact⟨rfl,rfl⟩)
    | (obtain⟨_,_,_,_,rfl⟩:=hop;exact⟨rfl,rfl⟩)
    | (obtain⟨_,_,_,_,_,rfl⟩:=hop;exact⟨rfl,rfl⟩)
    | (obtain⟨_,_,_,_,_,_,rfl⟩:=hop;exact⟨rfl,rfl⟩)
    | (obtain⟨_,_,_,_,_,_,_,rfl⟩:=hop;exact⟨rfl,rfl⟩)
    | (obtain⟨_,_,_,_,_,_,_,_,rfl⟩:=hop;exact⟨rfl,rfl⟩)
    | (obtain⟨_,_,_,_,_,_,_,_,_,rfl⟩:=hop;exact⟨rfl,rfl⟩)
    | (obtain⟨_,_,_,_,_,_,_,_,_,_,_,rfl⟩:=hop;exact⟨rfl,rfl⟩)
  rw[this.1,this.2]
def cnt(ws:List Nat)(listed:Array Bool):Nat:=(ws.filter fun v=>listed.getD v false).length
theorem zcm{f g:Nat→Bool}:∀(ws:List Nat),(∀v∈ws,f v=true→g v=true)→(ws.filter f).length≤(ws.filter g).length
 | [],_=>Nat.le_refl _
 | x::ws,h=>by
  have ih:=zcm ws fun v hv=>h v (by grind)
  grind
theorem zns{nt id:Nat}{aos:List AO}{st:St}{K:St→Prop}{Q:Exit→Act→World→Prop}(hnt:nt=cx.nt)(hm:P.follows .mixedOrders=true)(hB:drawOk ops aos=true)
  (hres:resOpers P nt ops ops.toList=some aos) (hk:drawK P (drawOf ops aos) st K) (hr:Rel cx st a w) (hQ:∀st' a' w',K st'→Rel cx st' a' w'→Q .normal a' w'):(Code.region id ops true).wp P Q a w:=by
 have hget':∀i o,ops[i]? = some o→∃ao,aos[i]? = some ao∧resOper P nt ops o=some ao:=fun i o ho=>za3 ops.toList aos hres i o (by grind)
 have hlen:=za4 ops.toList aos hres
 obtain⟨S,M,hrf⟩:=hr
 have hok:=hB
 unfold drawOk at hB
 simp only[Bool.and_eq_true,List.all_eq_true]at hB
 obtain⟨⟨hlexB,hch⟩,hall⟩:=hB
 obtain⟨H,C,_,_,hH0,hC0,_,hlex⟩:=znr (P:=P) (ops:=ops) (aos:=aos) (K:=K) hok (fun i o ho=>by
  grind[zag]) ops.toList 0 aos st.env st.heap st.clk [] [] [] (fun i=>by simp) (fun i=>by simp) hlen rfl (Nat.zero_le _) (fun m v _=>by simp) hk
 simp only[List.length_nil]at hH0 hC0
 generalize hws:writersOf aos=ws at *
 -- the writers that are done are the first ones
 have prefixOf:∀(listed:Array Bool),Clo .any ops listed→∀(p i:Nat),ws[p]? = some i→(i∈Region.ready .any ops listed)→∀m v,ws[m]? = some v→(listed.getD v false=true↔m<p):=by
  intro listed hc p i hp hi m v hv
  have hun:=(mem_ready.1 hi).1
  constructor
  ·intro hl
   rcases Nat.lt_or_ge m p with h | h
   ·exact h
   ·have hp':ws[p+(m-p)]? = some v:=by grind
    have:=zb4 hch hc (m-p) p i v hp hp' hl
    grind
  ·intro hmp
   have hp1:ws[(p-1)+1]? = some i:=by grind
   have hx:ws[p-1]? = some (ws[p-1]'(by grind)):=List.getElem?_eq_getElem _
   obtain⟨o,ho,e,he,hb,hon⟩:=zcl ws (p-1) _ i hch hx hp1
   obtain⟨_,o',ho',hall'⟩:=mem_ready.1 hi
   rw[ho]at ho'
   cases ho'
   have hl:=hall' e he hb
   rw[hon]at hl
   have hx':ws[m+(p-1-m)]? = some (ws[p-1]'(by grind)):=by grind
   exact zb4 hch hc (p-1-m) m v _ hv hx' hl
 refine zc1 (F:=FD P ops aos H C) (R:=fun listed ρ a w=>RelR cx (C (cnt ws listed)) (H (cnt ws listed)) ρ a w) (Q:=fun ρ=>∃e,ρ=Env.get e∧K ⟨e,H ws.length,C ws.length⟩) (ρ:=st.env.get) hm hlexB ?_ ?_ ?_ ?_ hlex
 ·-- each value hangs on what the operation looks at
  intro i o ho ρ ρ' hρ x ⟨ao,hao,hq⟩
  obtain⟨ao',h1,h2⟩:=hget' i o ho
  rw[hao]at h1
  cases h1
  refine⟨ao,hao,?_⟩
  obtain⟨op,g,hop,hg,rfl,_⟩:=zag h2
  have hops:∀t,Operand.tmp t∈o.op.operands.toList→ρ t=ρ' t:=fun t ht=>hρ t (by
   grind[Oper.looksAt])
  have quiet:∀h,QF P h ⟨o.dst,g,op⟩ ρ x→QF P h ⟨o.dst,g,op⟩ ρ' x:=by
   intro h hq
   unfold QF at hq ⊢
   cases g with
   | none=>exact(zbv hop hops).1 hq
   | some tw=>
    grind[resGuard,map_some,Oper.looksAt,zbv]
  cases hwr:op.writes with
  | true=>
   simp only[hwr]at hq ⊢
   obtain⟨h3,p,h4,h5⟩:=hq
   exact⟨h3,p,h4,by rw[←zbz hop hops];omega⟩
  | false=>
   grind
 ·intro i o ho listed ρ x a w K' hc hi ⟨ao,hao,hq⟩ hr hK'
  obtain⟨ao',h1,h2⟩:=hget' i o ho
  rw[hao]at h1
  cases h1
  have hun:=(mem_ready.1 hi).1
  have hisz:i<listed.size:=by grind
  cases hwr:ao.op.writes with
  | true=>
   simp only[hwr]at hq
   obtain⟨hgn,p,hp,hst⟩:=hq
   rw[hws]at hp
   have hpre:=prefixOf listed hc p i hp hi
   have hple:=zb6 hp
   have hcnt:cnt ws listed=p:=zbb p (by omega) fun m v hv=>hpre m v hv
   have hcnt':cnt ws (listed.setIfInBounds i true)=p+1:=zbb (p+1) (by omega) fun m v hv=>by
    by_cases hvi:i=v
    ·have hmp:m=p:=by
      grind
     simp_all
    ·rw[getD_set_ne false hvi,hpre m v hv]
     constructor
     all_goals grind
   rw[hcnt]at hr
   obtain⟨S,M,hr⟩:=hr
   subst hnt
   obtain⟨op,g,hop,hg,rfl,hd⟩:=zag h2
   simp only at hgn hst
   subst hgn
   obtain⟨v,w',S',M',h3,h4,h5⟩:=zcd hop hr hst
   have hfin:K' (a.put o.dst v) w':=hK' _ _ (by
    rw[hcnt']
    exact⟨S',M',h4.put hd h5⟩)
   unfold wpOp
   simp only[ho,zbm hg a,if_true]
   grind[zc4,Oper.wp,Oper.upon_skip]
  | false=>
   simp only[hwr]at hq
   rw[hws]at hq
   have hnm:i∉ws:=fun hmem=>by
    grind[zby]
   have hlo:lowOf ops ws i≤cnt ws listed:=zcm ws fun v _ hv=>za0 hc _ v i (.inr hi) hv
   have hhi:cnt ws listed≤highOf ops ws i:=zcm ws fun v _ hv=>by
    grind[za0]
   have hcnt':cnt ws (listed.setIfInBounds i true)=cnt ws listed:=by
    unfold cnt
    congr 1
    refine List.filter_congr fun v hv=>?_
    have:i≠v:=fun he=>hnm (by grind)
    simp_all
   refine za6 ho hnt h2 (hq _ hlo hhi) hr fun a' w' hr'=>hK' a' w' ?_
   grind
 ·intro listed ρ a w hc hready hr ⟨e,he,hK⟩
  subst he
  have hfull:cnt ws listed=ws.length:=zbb ws.length (Nat.le_refl _) fun m v hv=>by
   have hvm:v∈writersOf aos:=by grind
   obtain⟨ao,h1,_⟩:=(zby aos v).1 hvm
   have hvl:v<ops.size:=by grind
   have:=zf2 hlexB hready hc.size v hvl
   grind
  rw[hfull]at hr
  obtain⟨S,M,hr⟩:=hr
  exact hQ _ a w hK ⟨S,M,hr⟩
 ·have h0:cnt ws (Array.replicate ops.size false)=0:=zbb 0 (Nat.zero_le _) fun m v hv=>by
   rw[getD_replicate_false];simp
  rw[h0,hH0,hC0]
  exact RelR.drawn ⟨S,M,hrf⟩
end
end
section
open Go.RowKit
def drawTL(P:Program)(tl:List AO):List AO→Env→Heap→Nat→(St→Prop)→Prop
 | [],e,h,clk,K=>runK P tl ⟨e,h,clk⟩ K
 | o::r,e,h,clk,K=>qK P o e h [] fun x=>drawTL P tl r (putE e o.dst x) h clk K
section
variable{P:Program}{ops:Array Oper}{md:Region.Mode}{F:Nat→(Nat→AV)→AV→Prop}
def anyEL(md:Region.Mode)(ops:Array Oper)(F:Nat→(Nat→AV)→AV→Prop)(n:Nat)(L:Array Bool→(Nat→AV)→Prop):Nat→Array Bool→(Nat→AV)→Prop
 | 0,listed,ρ=>L listed ρ
 | f+1,listed,ρ=>
  Region.ready md ops listed≠[]∧∀i∈Region.ready md ops listed,i<n∧fOp ops F i (anyEL md ops F n L f (listed.setIfInBounds i true)) ρ
theorem zhc(hL:Local ops F){n i:Nat}{oi:Oper}{v:AV}{L:Array Bool→(Nat→AV)→Prop}(hi:ops[i]? = some oi)
  (hs:Region.sinkB md ops n=true) (hc:Region.chainB md ops n=true) (hn:n<ops.size) (hin:i<n)
  (hdone:∀listed ρ,L listed ρ→∀j∈Region.ready md ops listed,n≤j) :
  ∀(f:Nat) (listed:Array Bool) (ρ:Nat→AV),HeadInv md ops n listed →
   (∀j oj,ops[j]? = some oj→j≠i→listed.getD j true=false→(∀e∈oj.after,Region.binds md e=true→e.on≠i)→oi.apart ops oj=true) →
   i∈Region.ready md ops listed→F i ρ v →
   anyEL md ops F n L f (listed.setIfInBounds i true) (upd ρ oi.dst v)→anyEL md ops F n L (f+1) listed ρ:=by
 have take:∀{ρ:Nat→AV} {K:(Nat→AV)→Prop},F i ρ v→K (upd ρ oi.dst v)→fOp ops F i K ρ:=by
  grind[fOp]
 intro f
 induction f with
 | zero=>
  intro listed ρ inv _ hr hy H
  have hun:=(mem_ready.1 hr).1
  refine⟨fun h=>(by grind),fun j hj=>?_⟩
  have hjn:j<n:=by
   rcases Nat.lt_or_ge j n with h | h
   ·exact h
   ·exact absurd hj (tail_waits hs hc hn inv _ i rfl hin hun j h)
  by_cases hji:j=i
  ·grind
  ·have:=hdone _ _ H j (ready_mono hj hji)
   omega
 | succ f ih=>
  intro listed ρ inv hfree hr hy H
  have hun:=(mem_ready.1 hr).1
  refine⟨fun h=>(by grind),fun j hj=>?_⟩
  have hjn:j<n:=by
   rcases Nat.lt_or_ge j n with h | h
   ·exact h
   ·exact absurd hj (tail_waits hs hc hn inv _ i rfl hin hun j h)
  refine⟨hjn,?_⟩
  by_cases hji:j=i
  ·grind
  ·have h1:=(H.2 j (ready_mono hj hji)).2
   obtain⟨hjun,oj,hoj,hall⟩:=mem_ready.1 hj
   have hnot:∀e∈oj.after,Region.binds md e=true→e.on≠i:=fun e he hb heq=>by
    grind
   have h2:=zsn hL hi hoj (hfree j oj hoj hji hjun hnot) hy h1
   have hfree':∀k ok,ops[k]? = some ok→k≠i→(listed.setIfInBounds j true).getD k true=false →
     (∀e∈ok.after,Region.binds md e=true→e.on≠i)→oi.apart ops ok=true:=fun k ok hk hki hun hno=>by
    refine hfree k ok hk hki ?_ hno
    by_cases hjk:j=k
    ·grind
    simp_all
   refine zo0 (fun ρ' h3=>ih (listed.setIfInBounds j true) ρ' (inv.set hj hjn) hfree' (ready_mono hr (Ne.symm hji)) h3.1 ?_) h2
   grind[Array.setIfInBounds_comm]
theorem zlk(hL:Local ops F){n g:Nat}{Lq:(Nat→AV)→Prop}(hs:Region.sinkB md ops n=true)(hc:Region.chainB md ops n=true)(hn:n<ops.size) :
  ∀(l:List Oper) (k:Nat) (listed:Array Bool) (ρ:Nat→AV),(∀j,j<l.length→l[j]? = ops[k+j]?)→k+l.length=n→HeadInv md ops n listed →
  Region.lexHead md ops g l.length k listed=true→lexE ops F Lq l k ρ →
  anyEL md ops F n (fun listed' ρ'=>Region.seqB md ops g n listed'=true∧Lq ρ') l.length listed ρ
 | [],k,listed,ρ,_,hk,_,hB,h=>by
  have:k=n:=by simpa using hk
  subst this
  exact⟨by simpa[Region.lexHead]using hB,h⟩
 | o::l,k,listed,ρ,hl,hk,inv,hB,h=>by
  have h0:ops[k]? = some o:=by simpa using (hl 0 (by simp)).symm
  simp only[List.length_cons,Region.lexHead,Bool.and_eq_true]at hB
  obtain⟨⟨hr,hf⟩,hB'⟩:=hB
  have hkn:k<n:=by simp only[List.length_cons]at hk;omega
  have hr':k∈Region.ready md ops listed:=by simpa using hr
  obtain⟨v,hy,hK⟩:=h
  exact zhc hL h0 hs hc hn hkn (fun listed' a' hL=>seqB_ready hL.1) l.length listed ρ inv (Region.free_spec h0 hf) hr' hy
   (zlk hL hs hc hn l (k+1) _ _ (fun j hj=>by have:=hl (j+1) (by simp;omega);simpa[Nat.add_assoc,Nat.add_comm 1 j]using this) (by simp only[List.length_cons]at hk;omega) (inv.set hr' hkn) hB' hK)
theorem zex{n g:Nat}{L:Array Bool→(Nat→AV)→Prop}{R:(Nat→AV)→Act→World→Prop}{Q':Exit→Act→World→Prop}
  (hs:∀i o,i<n→ops[i]? = some o→∀ρ x a w (K:Act→World→Prop),F i ρ x→R ρ a w→(∀a' w',R (upd ρ o.dst x) a' w'→K a' w')→wpOp P ops Q' i K a w)
  (hQ:∀listed ρ a w,L listed ρ→R ρ a w→wpAny P md ops Q' g listed a w):∀(f:Nat) (listed:Array Bool) (ρ:Nat→AV) (a:Act) (w:World),R ρ a w →
  anyEL md ops F n L f listed ρ→wpAny P md ops Q' (f+g) listed a w
 | 0,_,_,_,_,hr,h=>by rw[Nat.zero_add];exact hQ _ _ _ _ h hr
 | f+1,listed,ρ,a,w,hr,h=>by
  rw[show f+1+g=(f+g)+1 by omega]
  refine⟨fun h0=>absurd h0 h.1,fun i hi=>?_⟩
  obtain⟨hin,h2⟩:=h.2 i hi
  obtain⟨_,o,ho,_⟩:=mem_ready.1 hi
  unfold fOp at h2
  simp only[ho]at h2
  obtain⟨x,hx,hK⟩:=h2
  exact hs i o hin ho ρ x a w _ hx hr fun a' w' hr'=>zex hs hQ f _ _ a' w' hr' hK
end
section
variable{P:Program}{ops:Array Oper}{cx:Cx}{w:World}{a:Act}
theorem zhd{l:List AO}{n:Nat}(h:tailOf ops l=some n):(∀ao∈l.take n,ao.op.writes=false)∧Region.lexTailB .any ops n=true:=by
 have:=List.find?_some h
 grind
def FT(P:Program)(aos:List AO)(n:Nat)(h:Heap)(i:Nat)(ρ:Nat→AV)(x:AV):Prop:=
 i<n∧∃ao,aos[i]? = some ao∧QF P h ao ρ x
theorem zll{aos tl:List AO}{n:Nat}{h:Heap}{clk:Nat}{K:St→Prop}(hw:∀ao∈aos.take n,ao.op.writes=false)(hdst:∀(i:Nat) (o:Oper),ops[i]? = some o→∃ao:AO,aos[i]? = some ao∧ao.dst=o.dst) :
  ∀(l:List Oper) (k:Nat) (rest:List AO) (e:Env),(∀j,j<l.length→l[j]? = ops[k+j]?)→(∀j,j<rest.length→rest[j]? = aos[k+j]?)→l.length=rest.length→k+l.length=n →
   drawTL P tl rest e h clk K→lexE ops (FT P aos n h) (fun ρ=>∃e,ρ=Env.get e∧runK P tl ⟨e,h,clk⟩ K) l k e.get
 | [],k,rest,e,_,_,hlen,_,hk=>by
  have:rest=[]:=List.eq_nil_of_length_eq_zero (by simpa using hlen.symm)
  subst this
  exact⟨e,rfl,hk⟩
 | o::l,k,rest,e,hl,hr,hlen,hkn,hk=>by
  cases rest with
  | nil=>simp at hlen
  | cons ao rest=>
   have h0:ops[k]? = some o:=by simpa using (hl 0 (by simp)).symm
   have h1:aos[k]? = some ao:=by simpa using (hr 0 (by simp)).symm
   obtain⟨ao',h2,hd⟩:=hdst k o h0
   rw[h1]at h2
   cases h2
   simp only[List.length_cons]at hkn
   have hwr:ao.op.writes=false:=hw ao (List.mem_of_getElem? (i:=k) (by rw[List.getElem?_take,if_pos (by omega)];exact h1))
   obtain⟨x,hq1,_,hk2⟩:=zqr hwr hk
   refine⟨x,⟨by omega,ao,h1,hq1⟩,?_⟩
   rw[←hd,←zb7]
   exact zll hw hdst l (k+1) rest _ (fun j hj=>by have:=hl (j+1) (by simp;omega);simpa[Nat.add_assoc,Nat.add_comm 1 j]using this) (fun j hj=>by have:=hr (j+1) (by simp;omega);simpa[Nat.add_assoc,Nat.add_comm 1 j]using this) (by simpa using hlen) (by omega) hk2
theorem zb8{nt:Nat}{ops:Array Oper}:∀(n:Nat) (l:List Oper) (aos:List AO),resOpers P nt ops l=some aos→resOpers P nt ops (l.drop n)=some (aos.drop n)
 | 0,l,aos,h=>h
 | n+1,[],aos,h=>by
  simp only[resOpers,Option.some.injEq]at h
  subst h
  rfl
 | n+1,o::l,aos,h=>by
  obtain⟨ao,_,h1⟩:=bind_some h
  obtain⟨rest,hr,rfl⟩:=map_some h1
  exact zb8 n l rest hr
theorem znt{nt id n:Nat}{aos:List AO}{st:St}{K:St→Prop}{Q:Exit→Act→World→Prop}(hnt:nt=cx.nt)(hm:P.follows .mixedOrders=true)(hB:tailOf ops aos=some n)
  (hres:resOpers P nt ops ops.toList=some aos) (hk:drawTL P (aos.drop n) (aos.take n) st.env st.heap st.clk K) (hr:Rel cx st a w) (hQ:∀st' a' w',K st'→Rel cx st' a' w'→Q .normal a' w'):(Code.region id ops true).wp P Q a w:=by
 obtain⟨hw,hT⟩:=zhd hB
 simp only[Region.lexTailB,Bool.and_eq_true,decide_eq_true_eq]at hT
 obtain⟨⟨⟨⟨_,hn⟩,hs⟩,hc⟩,hlex⟩:=hT
 have hget':∀i o,ops[i]? = some o→∃ao,aos[i]? = some ao∧resOper P nt ops o=some ao:=fun i o ho=>za3 ops.toList aos hres i o (by grind)
 have hlen:=za4 ops.toList aos hres
 have htl:(ops.toList.take n).length=n:=by grind
 have hdl:(ops.toList.drop n).length=ops.size-n:=by simp
 have inv0:HeadInv .any ops n (Array.replicate ops.size false):=
  ⟨by simp,fun j oj _ hl=>(by rw[getD_replicate_false]at hl;grind),fun t _ ht=>getD_in (by grind) (getD_replicate_false _ _)⟩
 have hloc:Local ops (FT P aos n st.heap):=by
  intro i o ho ρ ρ' hρ x ⟨hin,ao,hao,hq⟩
  obtain⟨ao',h1,h2⟩:=hget' i o ho
  rw[hao]at h1
  refine⟨hin,ao,hao,?_⟩
  obtain⟨op,g,hop,hg,rfl,_⟩:=zag h2
  grind[Oper.looksAt,QF,zbv,resGuard,map_some]
 obtain⟨S,M,hrf⟩:=hr
 have hlx:=zll (P:=P) (ops:=ops) (aos:=aos) (tl:=aos.drop n) (n:=n) (h:=st.heap) (clk:=st.clk) (K:=K) hw (fun i o ho=>by
  grind[zag]) (ops.toList.take n) 0 (aos.take n) st.env (fun j hj=>by
   grind) (fun j hj=>by
   grind) (by grind) (by omega) hk
 have H:=zlk (md:=.any) (g:=ops.size-n) hloc hs hc hn (ops.toList.take n) 0 _ st.env.get (fun j hj=>by
  grind) (by omega) inv0 (by grind) hlx
 refine wp_region_any hm ?_
 have:=zex (P:=P) (md:=.any) (Q':=Q) (g:=ops.size-n) (F:=FT P aos n st.heap) (R:=fun ρ a w=>RelR cx st.clk st.heap ρ a w) (fun i o hin ho ρ x a w K' ⟨_,ao,hao,hq⟩ hr hK'=>by
  grind[za6]) (fun listed ρ a' w' hL hr'=>by
  obtain⟨hseq,e,rfl,hrun⟩:=hL
  have hwl:wpList P ops Q (ops.toList.drop n) a' w':=zcy hnt _ _ ⟨e,st.heap,st.clk⟩ K a' w' (zb8 n _ _ hres) hrun hr' hQ
  grind[wpAny_of_seq]) _ _ _ a { w with drawn:=w.drawn+1 } (RelR.drawn ⟨S,M,hrf⟩) H
 grind
end
end
section
open Go.RowKit
mutual
def gnA:AV→List Nat
 | .sl _ _=>[]
 | .agg cs=>gnR cs
 | .tup cs=>gnR cs
 | .i _ _=>[]
 | .b _=>[]
 | .s _=>[]
 | .raw _=>[]
 | .ep _ _=>[]
 | .bs _ g _ _ _=>[g]
 | .ptr _ g _ _ _=>[g]
 | .fnp _ _ g _ _ _=>[g]
 | .fnv .. => []
 | .ifc _ x=>gnA x
 | .dead=>[]
def gnR:List AV→List Nat
 | []=>[]
 | c::r=>gnA c++gnR r
end
theorem zhe{g:Nat}:∀(cs:List AV),g∈gnR cs↔∃c∈cs,g∈gnA c
 | []=>by simp[gnR]
 | c::r=>by simp[gnR,zhe r]
section
variable{w w':World}{S S':Nat→Nat→Prop}{M M':Map}{clk clk':Nat}
theorem zs1{vs:Array Value}{cs:List AV}(hl:vs.size=cs.length){c:AV}(hc:c∈cs):∃(j:Nat) (v:Value),vs[j]? = some v∧cs[j]? = some c:=by
 obtain⟨j,hj⟩:=List.getElem?_of_mem hc
 have hlt:j<vs.size:=by grind
 exact⟨j,vs[j],Array.getElem?_eq_getElem hlt,hj⟩
theorem CP.gn{v:Value}{x:AV}(h:CP w S v x):gnA x=[]:=by
 have key:∀(vs:Array Value) (cs:List AV),vs.size=cs.length→(∀(j:Nat) (v:Value) (c:AV),vs[j]? = some v→cs[j]? = some c→gnA c=[])→gnR cs=[]:=by
  intro vs cs hl ih
  rw[List.eq_nil_iff_forall_not_mem]
  grind[zhe,zs1]
 induction h with
 | agg vs cs hl h1 _ ih=>simp only[gnA];grind
 | tup vs cs hl _ ih=>simp only[gnA];grind
 | _=>simp only[gnA]
theorem C.gn{v:Value}{x:AV}(h:C w S M clk v x):∀g∈gnA x,g<clk:=by
 have key:∀(vs:Array Value) (cs:List AV),vs.size=cs.length→(∀(j:Nat) (v:Value) (c:AV),vs[j]? = some v→cs[j]? = some c→∀g∈gnA c,g<clk)→∀g∈gnR cs,g<clk:=by
  grind[zhe,zs1]
 induction h with
 | p h=>rw[h.gn];grind
 | bs id g z off n v hg _ _=>grind[gnA]
 | ptr id g z i o v hg _ _=>grind[gnA]
 | fnp f id g z i o v hg _ _=>grind[gnA]
 | agg vs cs hl h1 _ ih=>simp only[gnA];grind
 | tup vs cs hl _ ih=>simp only[gnA];grind
 | ifc t v x _ ih=>simp only[gnA];omega
theorem C.remap{v:Value}{x:AV}(h:C w S M clk v x)(hg:∀g∈gnA x,M' g=M g∧g<clk'):C w S M' clk' v x:=by
 induction h with
 | p h=>exact .p h
 | bs id g z off n v hg' h h1=>
  obtain⟨h2,h3⟩:=hg g (by simp[gnA])
  exact .bs id g z off n v h3 (by grind) h1
 | ptr id g z i o v hg' h h1=>
  obtain⟨h2,h3⟩:=hg g (by simp[gnA])
  exact .ptr id g z i o v h3 (by grind) h1
 | fnp f id g z i o v hg' h h1=>
  obtain⟨h2,h3⟩:=hg g (by simp[gnA])
  exact .fnp f id g z i o v h3 (by grind) h1
 | agg vs cs hl h1 _ ih=>
  refine .agg vs cs hl h1 fun j v c hv hc=>ih j v c hv hc fun g hgc=>hg g ?_
  grind[gnA,zhe]
 | tup vs cs hl _ ih=>
  refine .tup vs cs hl fun j v c hv hc=>ih j v c hv hc fun g hgc=>hg g ?_
  grind[gnA,zhe]
 | ifc t v x _ ih=>exact .ifc t v x (ih fun g hgx=>hg g (by simp only[gnA];omega))
inductive MkF (i:BId):(Nat→AV)→Nat→Prop
 | ptr (z:Nat):MkF i (fun g=>.ptr i g z 0 0) z
 | bs (z n:Nat):MkF i (fun g=>.bs i g z 0 n) z
def boxGn(bx:Box)(g:Nat):Prop:=bx.kind=.str∧∃r∈bx.els,∃x∈r,g∈gnA x
theorem BoxOk.remap{bx:Box}(hb:BoxOk w S M clk bx)(h1:M' bx.gen=M bx.gen)(h2:bx.gen<clk')(h3:∀g,boxGn bx g→M' g=M g∧g<clk'):BoxOk w S M' clk' bx:=by
 obtain⟨_,b2,m,hm,b3⟩:=hb
 refine⟨h2,b2,m,by grind,?_⟩
 cases m with
 | none=>omega
 | some k=>
  by_cases hmp:bx.kind=.mp
  ·exact ckP hmp (ckP' hmp b3)
  obtain⟨arr,e,hh,hsz,hc,ho,hl⟩:=ck' hmp b3
  refine ck hmp ⟨arr,e,hh,hsz,fun i r j c hi hj=>?_,ho,hl⟩
  obtain⟨u,hu,hone,hC,hP⟩:=hc i r j c hi hj
  refine⟨u,hu,hone,?_,hP⟩
  by_cases hk:bx.kind=.str
  ·exact hC.remap fun g hg=>h3 g ⟨hk,r,List.mem_of_getElem? hi,c,List.mem_of_getElem? hj,hg⟩
  ·exact .p (hP hk)
theorem BoxOk.gn{bx:Box}(hb:BoxOk w S M clk bx):bx.gen<clk∧∀g,boxGn bx g→g<clk:=by
 obtain⟨b1,_,m,hm,b3⟩:=hb
 refine⟨b1,fun g ⟨hk,r,hr,x,hx,hg⟩=>?_⟩
 obtain⟨i,hi⟩:=List.getElem?_of_mem hr
 obtain⟨j,hj⟩:=List.getElem?_of_mem hx
 cases m with
 | none=>grind
 | some k=>
  obtain⟨arr,e,hh,hsz,hc,ho,hl⟩:=ck' (by rw[hk];simp) b3
  obtain⟨u,hu,hone,hC,hP⟩:=hc i r j x hi hj
  exact hC.gn g hg
theorem RelF.regen{cx:Cx}{h:Heap}{ρ:Nat→AV}{a:Act}{w:World}{S:Nat→Nat→Prop}{M:Map}{d c g z:Nat}{k:Kind}{els:List (List AV)}{f:Nat→AV}{i0:BId}(hf:MkF i0 f z)
  (hr:RelF cx S M (c+1) ((i0,⟨c,k,z,els⟩)::h) (upd ρ (some d) (f c)) a w) (hgc:g<c) (hcx:cx.clk0≤g) (hnew:h.lookup i0=none)
  (henv:∀t,∀q∈gnA (ρ t),q≠g∧q<c) (hbox:∀id bx,h.lookup id=some bx→bx.gen≠g∧bx.gen<c∧∀q,boxGn bx q→q≠g∧q<c)
  (hels:∀q,boxGn ⟨c,k,z,els⟩ q→q≠g∧q<c) :
  RelF cx S (fun q=>if q=g then M c else if q=c then none else M q) c ((i0,⟨g,k,z,els⟩)::h) (upd ρ (some d) (f g)) a w:=by
 generalize hM2:(fun q=>if q=g then M c else if q=c then none else M q:Map)=M2
 have m2:∀q,q≠g→q<c→M2 q=M q:=by grind
 have m3:∀q m,M2 q=some m→(q=g∧M c=some m)∨(q≠g∧q≠c∧M q=some m):=by
  grind
 have look:∀(b:BId) (bx:Box) (x:Box),((i0,x)::h).lookup b=some bx→(b=i0∧bx=x)∨(b≠i0∧h.lookup b=some bx):=by
  grind
 have lookS:∀(x:Box),((i0,x)::h).lookup i0=some x:=by grind
 have hw:=hr.wr
 refine⟨hr.size,hr.defers,fun t=>?_,⟨⟨fun b bx hb=>?_,fun q m hq=>?_,fun b bx b' bx' hb hb' he=>?_,fun q q' k' h1 h2=>?_⟩,⟨hw.ext.hS,hw.ext.hcell,by omega,fun q m hq hm=>?_,fun q k' arr e hq hm hb=>?_⟩,hw.fr,hw.Snew,hw.Slt,fun q k' hm=>?_⟩⟩
 ·have hC:=hr.env t
  simp only[upd]at hC ⊢
  by_cases ht:t=d
  ·rw[if_pos ht]at hC ⊢
   cases hf with
   | ptr z=>
    obtain⟨_,h2,h3⟩:=hC.inv_ptr
    exact .ptr _ _ _ _ _ _ hgc (by grind) h3
   | bs z n=>
    obtain⟨_,h2,h3⟩:=hC.inv_bs
    exact .bs _ _ _ _ _ _ hgc (by grind) h3
  ·rw[if_neg ht]at hC ⊢
   exact hC.remap fun q hq=>⟨m2 q (henv t q hq).1 (henv t q hq).2,(henv t q hq).2⟩
 ·rcases look b bx _ hb with ⟨rfl,rfl⟩ | ⟨hne,hl⟩
  ·have h0:=hw.heap.box _ _ (lookS ⟨c,k,z,els⟩)
   obtain⟨_,b2,m,hm,b3⟩:=h0
   refine⟨hgc,b2,m,by grind,?_⟩
   cases m with
   | none=>omega
   | some kk=>
    by_cases hmp:k=.mp
    ·exact ckP hmp (ckP' hmp b3)
    obtain⟨arr,e,hh,hsz,hc,ho,hl⟩:=ck' hmp b3
    refine ck hmp ⟨arr,e,hh,hsz,fun i r j x hi hj=>?_,ho,hl⟩
    obtain⟨u,hu,hone,hC,hP⟩:=hc i r j x hi hj
    refine⟨u,hu,hone,?_,hP⟩
    by_cases hk:k=.str
    ·refine hC.remap fun q hq=>?_
     have:=hels q ⟨hk,r,List.mem_of_getElem? hi,x,List.mem_of_getElem? hj,hq⟩
     grind
    ·exact .p (hP hk)
  ·have h0:=hw.heap.box b bx (by grind)
   obtain⟨h1,h2,h3⟩:=hbox b bx hl
   exact h0.remap (m2 _ h1 h2) h2 fun q hq=>⟨m2 q (h3 q hq).1 (h3 q hq).2,(h3 q hq).2⟩
 ·rcases m3 q m hq with ⟨rfl,_⟩ | ⟨_,hne,hm⟩
  ·grind
  ·obtain⟨b,bx,hb,he⟩:=hw.heap.live q m hm
   rcases look b bx _ hb with ⟨rfl,rfl⟩ | ⟨hnd,hl⟩
   all_goals grind
 ·rcases look b bx _ hb with ⟨rfl,rfl⟩ | ⟨hne,hl⟩<;>rcases look b' bx' _ hb' with ⟨rfl,rfl⟩ | ⟨hne',hl'⟩
  ·rfl
  ·grind
  ·grind
  ·exact hw.heap.gens b bx b' bx' (by grind) (by grind) he
 ·rcases m3 q _ h1 with ⟨rfl,e1⟩ | ⟨n1,n2,e1⟩<;>rcases m3 q' _ h2 with ⟨rfl,e2⟩ | ⟨n1',n2',e2⟩
  ·rfl
  ·exact absurd (hw.heap.inj _ _ _ e1 e2).symm n2'
  ·exact absurd (hw.heap.inj _ _ _ e1 e2) n2
  ·exact hw.heap.inj _ _ _ e1 e2
 ·rcases m3 q m hm with ⟨rfl,_⟩ | ⟨_,_,e1⟩
  ·omega
  ·exact hw.ext.hM q m hq e1
 ·rcases m3 q _ hm with ⟨rfl,_⟩ | ⟨_,_,e1⟩
  ·omega
  ·exact hw.ext.hblk q k' arr e hq e1 hb
 ·rcases m3 q _ hm with ⟨rfl,e1⟩ | ⟨_,_,e1⟩
  ·exact hw.Mnew _ k' e1
  ·exact hw.Mnew q k' e1
theorem RelF.more{cx:Cx}{h:Heap}{ρ:Nat→AV}{a:Act}(hc:clk≤clk')(hr:RelF cx S M clk h ρ a w):RelF cx S M clk' h ρ a w:=by
 have hx:Ext w S M clk w S M clk':=⟨fun _ _ h=>h,fun _ _ _ _ h=>h,hc,fun _ _ _ h=>h,fun _ _ arr _ _ _ h=>⟨arr,h,rfl⟩⟩
 exact⟨hr.size,hr.defers,fun t=>(hr.env t).mono hx,⟨⟨fun b bx hb=>(hr.wr.heap.box b bx hb).mono hx rfl (fun _ _=>rfl) fun _ _ _ h=>h,hr.wr.heap.live,hr.wr.heap.gens,hr.wr.heap.inj⟩,hr.wr.ext.trans hx,hr.wr.fr,hr.wr.Snew,hr.wr.Slt,hr.wr.Mnew⟩⟩
end
def HSub(h h':Heap):Prop:=∀id bx,h.lookup id=some bx→h'.lookup id=some bx
theorem zd6{h h':Heap}(hs:HSub h h'){id:BId}{g z:Nat}{bx:Box}(hb:boxAt h id g z=some bx):boxAt h' id g z=some bx:=by
 unfold boxAt at hb ⊢
 split at hb
 ·rename_i b hl
  rw[hs id b hl]
  omega
 grind
theorem zhf{h h':Heap}(hs:HSub h h'){id:BId}{g z i:Nat}(hb:liveP h id g z i=true):liveP h' id g z i=true:=by
 grind[liveP,zd6]
theorem zfd{α:Type}{h h':Heap}(hs:HSub h h'){id:BId}{g z:Nat}{f:Box→Option α}{x:α}(hb:(boxAt h id g z).bind f=some x):(boxAt h' id g z).bind f=some x:=by
 obtain⟨bx,h1,h2⟩:=bind_some hb
 rw[zd6 hs h1]
 grind
theorem zxa{α:Type}{h h':Heap}(hs:HSub h h'){id:BId}{g z:Nat}{f:Box→α}{x:α}(hb:(boxAt h id g z).map f=some x):(boxAt h' id g z).map f=some x:=by
 obtain⟨bx,h1,rfl⟩:=map_some hb
 rw[zd6 hs h1]
 rfl
theorem zxb{h h':Heap}(hs:HSub h h'){k:KTy}{zv:AV}{ok:Bool}{x i y:AV}(hq:lookAV k zv ok h x i=some y):lookAV k zv ok h' x i=some y:=by
 unfold lookAV at hq ⊢
 split at hq
 ·rename_i id g
  obtain⟨bx,hb,h1⟩:=bind_some hq
  have hb':mapAt h' id g=some bx:=by
   unfold mapAt at hb ⊢
   split at hb
   ·rename_i b hl
    rw[hs id b hl]
    exact hb
   ·cases hb
  rw[hb']
  exact h1
 ·cases hq
theorem zs2{h h':Heap}(hs:HSub h h'){op:AOp}{ρ:Nat→AV}{x:AV}(hq:stepQ op ρ h=some x):stepQ op ρ h'=some x:=by
 cases op<;>try exact hq
 case load n y=>
  simp only[stepQ]at hq ⊢
  cases hy:ev ρ y<;>rw[hy]at hq<;>simp only[loadAV]at hq ⊢<;>first | exact hq | exact zfd hs hq
 case slc z y lo hi mx=>
  simp only[stepQ]at hq ⊢
  cases hy:ev ρ y<;>rw[hy]at hq<;>simp only[slcAV]at hq ⊢<;>first | exact hq | exact zfd hs hq
 case fad o y=>
  simp only[stepQ]at hq ⊢
  cases hy:ev ρ y<;>rw[hy]at hq<;>simp only[fadAV]at hq ⊢<;>try exact hq
  grind[zhf]
 case iad z y i=>
  simp only[stepQ]at hq ⊢
  cases hy:ev ρ y<;>rw[hy]at hq<;>cases hi:ev ρ i<;>rw[hi]at hq<;>simp only[iadAV]at hq ⊢<;>first | exact hq | exact zfd hs hq
 case iaa z len y i=>
  simp only[stepQ]at hq ⊢
  cases hy:ev ρ y<;>rw[hy]at hq<;>cases hi:ev ρ i<;>rw[hi]at hq<;>simp only[iaaAV]at hq ⊢<;>try exact hq
  grind[zhf]
 case len y=>
  simp only[stepQ]at hq ⊢
  cases hy:ev ρ y<;>rw[hy]at hq<;>simp only[lenAV]at hq ⊢<;>first | exact hq | exact zxa hs hq
 case look k zv ok y i=>exact zxb hs hq
 case nilc y=>
  simp only[stepQ]at hq ⊢
  cases hy:ev ρ y<;>rw[hy]at hq<;>simp only[nilcAV]at hq ⊢<;>try exact hq
  grind[zhf]
theorem zxc{h h':Heap}(hs:HSub h h'){x y:AV}(hq:frz1 h x=some y):frz1 h' x=some y:=by
 have hC:∀c d,frzC h c=some d→frzC h' c=some d:=by
  intro c d hc
  cases c
  case bs id g z off n=>
   simp only[frzC]at hc ⊢
   obtain⟨bx,hb,h2⟩:=bind_some hc
   rw[zd6 hs hb]
   grind
  all_goals exact hc
 cases x
 case agg cs=>
  simp only[frz1]at hq ⊢
  obtain⟨ds,hd,rfl⟩:=map_some hq
  have:cs.mapM (frzC h')=some ds:=by
   induction cs generalizing ds with
   | nil=>grind
   | cons c cs ih=>
    simp only[List.mapM_cons,Option.bind_eq_bind,Option.pure_def]at hd ⊢
    obtain⟨d,h1,h2⟩:=bind_some hd
    obtain⟨es,h3,h4⟩:=bind_some h2
    grind
  grind
 all_goals (simp only[frz1]at hq ⊢;exact hC _ _ hq)
theorem zxd{h:Heap}{x y:AV}(hq:frz1 h x=some y):∀id∈refs x,∃bx,h.lookup id=some bx:=by
 have hC:∀c d,frzC h c=some d→∀id g z off n,c=.bs id g z off n→∃bx,h.lookup id=some bx:=by
  grind[frzC,boxAt]
 intro id hid
 cases x
 case agg cs=>
  obtain⟨ds,hd,rfl⟩:=map_some hq
  obtain⟨k1,k2⟩:=zbi _ _ hd
  grind[refs,List.getElem?_of_mem]
 case bs=>grind[refs,frz1]
 all_goals first | (cases hid;done) | (simp[frz1,frzC]at hq)
theorem zxe{h h':Heap}(hs:HSub h h'){x y:AV}(hq:frzR h x=some y):frzR h' x=some y:=by
 unfold frzR at hq ⊢
 split at hq
 ·omega
 ·split at hq
  ·rename_i h1
   rw[if_pos,zxc hs hq]
   refine List.all_eq_true.2 fun id hid=>?_
   obtain⟨bx,hb⟩:=zxd hq id hid
   have:=List.all_eq_true.1 h1 id hid
   simp only[hb]at this
   simp only[hs id bx hb,this]
  grind
theorem zlm{h h':Heap}(hs:HSub h h'):∀{l ys:List AV},frzRL h l=some ys→frzRL h' l=some ys
 | [],ys,hq=>hq
 | x::l,ys,hq=>by
  simp only[frzRL]at hq ⊢
  obtain⟨y,h1,h2⟩:=bind_some hq
  obtain⟨zs,h3,rfl⟩:=map_some h2
  rw[zxe hs h1,Option.bind_some,zlm hs h3,Option.map_some]
theorem z0g{P:Program}{h h':Heap}(hs:HSub h h'){o:AO}{ρ:Nat→AV}{x:AV}(hq:QF P h o ρ x):QF P h' o ρ x:=by
 have one:QOp P o.op ρ h x→QOp P o.op ρ h' x:=by
  intro hq
  unfold QOp at hq ⊢
  grind[zlm,zs2]
 grind[QF]
end
section
open Go.RowKit
def slotOf:Opd→List Nat
 | .t n=>[n]
 | .c _=>[]
def slotsM:AOp→List Nat
 | .mov x=>slotOf x
 | .build _ ps=>ps.flatMap fun p=>slotOf p.2.2
 | .xop (.box _) [x]=>slotOf x
 | _=>[]
def AOp.slotty:AOp→Bool
 | .mov _ | .build .. | .xop .. => true
 | _=>false
theorem zs3{op:AOp}(h:op.slotty=false):slotsM op=[]:=by
 cases op<;>first | rfl | cases h
def contG(c0:Nat)(op:AOp)(ρ:Nat→AV)(g:Nat):Prop:=g<c0∨∃t∈slotsM op,g∈gnA (ρ t)
def CallB(P:Program)(f:FuncId)(xs:List AV)(g0:Nat)(x:AV)(B:Heap)(m:Nat):Prop:=
 xs.all noRef=true∧ACall P f xs [] g0 (fun r h c=>r=x∧h=B∧c=g0+m)∧(B.map (·.1)).Nodup∧(∀g∈gnA x,g0≤g)∧∀p∈B,∀g,boxGn p.2 g→g0≤g
def obH(b:BId)(ob:Option Box):Heap:=match ob with | none=>[] | some o=>[(b,o)]
def drawMG(P:Program)(h0:Heap)(c0:Nat)(X:Heap)(Fin:Env→Heap→Nat→Prop):List AO→Env→Heap→Nat→Prop
 | [],e,h,clk=>Fin e h clk
 | o::r,e,h,clk=>
  match o.op.maker with
  | true=>o.guard=none∧∃d x b bx ob,o.dst=some d∧stepW o.op (some d) e.get (obH b ob) clk=some (x,(b,bx)::obH b ob,clk+1)∧h.lookup b=ob∧X.lookup b=ob∧h0.lookup b=none∧(∀o,ob=some o→o.gen<clk) ∧
    (∀g,boxGn bx g→contG c0 o.op e.get g)∧drawMG P h0 c0 X Fin r (putE e (some d) x) ((b,bx)::h) (clk+1)
  | false=>
   match o.op.isStore with
   | true=>o.guard=none∧o.dst=none∧∃H2,stepW o.op none e.get h clk=some (.tup [],H2,clk)∧HSub h0 H2∧drawMG P h0 c0 X Fin r e H2 clk
   | false=>
    (qK P o e h0 [] fun x=>(∀g∈gnA x,contG c0 o.op e.get g)∧drawMG P h0 c0 X Fin r (putE e o.dst x) h clk) ∨
    (o.guard=none∧∃f args d x B m,o.op=.call f args∧o.dst=some d∧CallB P f (args.map (ev e.get)) clk x B m∧(∀p∈B,h.lookup p.1=none) ∧
     drawMG P h0 c0 X Fin r (putE e (some d) x) (B++h) (clk+m))
def drawML(P:Program)(tl:List AO)(h0:Heap)(c0:Nat)(X:Heap)(hd:List AO)(e:Env)(h:Heap)(clk:Nat)(K:St→Prop):Prop:=
 drawMG P h0 c0 X (fun e h clk=>runK P tl ⟨e,h,clk⟩ K) hd e h clk
section
variable{P:Program}{ops:Array Oper}
theorem zdq{y:Operand}{x:Opd}(h:resOpd y=some x):∀t∈slotOf x,y=.tmp t:=by
 intro t ht
 cases x with
 | t n=>
  grind[slotOf,zck]
 | c v=>cases ht
theorem zfe{fields:Array Field}:∀{l:List (Nat×Operand)} {ps:List (Nat×Nat×Opd)},resParts P fields l=some ps→∀t,t∈(ps.flatMap fun p=>slotOf p.2.2)→Operand.tmp t∈l.map (·.2)
 | [],ps,hr,t,ht=>by simp only[resParts,Option.some.injEq]at hr;subst hr;cases ht
 | (i,x)::l,ps,hr,t,ht=>by
  simp only[resParts]at hr
  split at hr
  ·cases hr
  obtain⟨n,hn,hr1⟩:=bind_some hr
  obtain⟨p,hp,hr2⟩:=bind_some hr1
  obtain⟨qs,hq,rfl⟩:=map_some hr2
  simp only[List.flatMap_cons,List.mem_append]at ht
  simp only[List.map_cons,List.mem_cons]
  rcases ht with ht | ht
  ·exact .inl (zdq hp t ht).symm
  ·exact .inr (zfe hq t ht)
theorem zey{n:Nat}:∀{l:List (Nat×Operand)} {ps:List (Nat×Nat×Opd)},resPartsA n l=some ps→∀t,t∈(ps.flatMap fun p=>slotOf p.2.2)→Operand.tmp t∈l.map (·.2)
 | [],ps,hr,t,ht=>by simp only[resPartsA,Option.some.injEq]at hr;subst hr;cases ht
 | (i,x)::l,ps,hr,t,ht=>by
  obtain⟨p,hp,hr2⟩:=bind_some hr
  obtain⟨qs,hq,rfl⟩:=map_some hr2
  simp only[List.flatMap_cons,List.mem_append]at ht
  simp only[List.map_cons,List.mem_cons]
  rcases ht with ht | ht
  ·exact .inl (zdq hp t ht).symm
  ·exact .inr (zey hq t ht)
theorem zqs{o:Op}{op:AOp}(hop:resOp P o=some op):∀t∈slotsM op,Operand.tmp t∈o.operands.toList:=by
 intro t ht
 replace hop:=zaz hop
 rcases hop with hop | ⟨k,xs,rfl,hx⟩
 rotate_left
 ·rcases hx with hx | ⟨rfl,rfl⟩
  ·cases k<;>simp only[slotsM]at ht<;>try (cases ht;done)
   match xs,hx,ht with
   | [],hx,ht=>grind
   | [x],hx,ht=>
    cases x with
    | t n=>
     grind[slotOf,zpi]
    | c v=>cases ht
   | _::_::_,hx,ht=>grind
  ·cases ht
 cases o<;>simp only[resOp0]at hop
 case move y=>
  obtain⟨p,hp,rfl⟩:=map_some hop
  simp[Op.operands,zdq hp t ht]
 case assign y=>
  obtain⟨p,hp,rfl⟩:=map_some hop
  simp[Op.operands,zdq hp t ht]
 case build ty parts=>
  split at hop
  ·split at hop
   ·obtain⟨zs,_,hop1⟩:=bind_some hop
    obtain⟨ps,hp,rfl⟩:=map_some hop1
    have:=zfe hp t ht
    simpa[Op.operands]using this
   grind
  ·obtain⟨n,_,hop0⟩:=bind_some hop
   obtain⟨zs,_,hop1⟩:=bind_some hop0
   obtain⟨ps,hp,rfl⟩:=map_some hop1
   have:=zey hp t ht
   simpa[Op.operands]using this
  grind
 all_goals
  exfalso
  have key:op.slotty=false:=by
   clear ht
   revert hop
   repeat' split
   all_goals (intro hop)
   all_goals try contradiction
   all_goals try (cases hop;rfl;done)
   all_goals try simp only[Option.bind_eq_some_iff,Option.map_eq_some_iff,reduceCtorEq,and_false,exists_false]at hop
   all_goals try (exact hop.elim)
   all_goals first
    | (obtain⟨_,_,rfl⟩:=hop;rfl)
    | (obtain⟨_,_,hop⟩:=hop;split at hop<;>cases hop<;>rfl)
    | (obtain⟨_,_,_,_,rfl⟩:=hop;rfl)
    | (obtain⟨_,_,_,_,hop⟩:=hop;split at hop<;>cases hop<;>rfl)
    | (obtain⟨_,_,_,_,_,_,rfl⟩:=hop;rfl)
    | (obtain⟨_,_,_,_,_,_,_,_,rfl⟩:=hop;rfl)
    | (obtain⟨_,_,_,_,_,_,_,_,_,_,rfl⟩:=hop;rfl)
    | (obtain⟨_,_,_,_,_,_,_,_,hop⟩:=hop;split at hop<;>cases hop<;>rfl)
    | (obtain⟨_,_,_,_,_,_,_,_,_,_,hop⟩:=hop;split at hop<;>cases hop<;>rfl)
    | (obtain⟨_,_,hop⟩:=hop;split at hop<;>first | (cases hop;done) | (simp only[Option.bind_eq_some_iff,Option.map_eq_some_iff]at hop;obtain⟨_,_,hop⟩:=hop;split at hop<;>first | (cases hop;done) | (simp only[Option.map_eq_some_iff]at hop;first | (obtain⟨_,_,rfl⟩:=hop;rfl) | (obtain⟨_,_,_,_,rfl⟩:=hop;rfl))))
    | (obtain⟨_,_,hop⟩:=hop;split at hop<;>first | (cases hop;done) | (simp only[Option.bind_eq_some_iff,Option.map_eq_some_iff]at hop;first | (obtain⟨_,_,rfl⟩:=hop;rfl) | (obtain⟨_,_,_,_,rfl⟩:=hop;rfl)))
  rw[zs3 key]at ht
  cases ht
theorem zln{h h':Heap}(hs:HSub h h'){z:Nat}{y:AV}{ys:List (List AV)}(hy:rowOf h z y=some ys):rowOf h' z y=some ys:=by
 cases y<;>simp only[rowOf]at hy ⊢<;>first | exact hy | (cases hy;done) | exact zfd hs hy
theorem zjg{op:AOp}{d g:Nat}{ρ:Nat→AV}{x:AV}{b:BId}{bx:Box}{ob:Option Box}(hm:op.maker=true)(h:stepW op (some d) ρ (obH b ob) g=some (x,(b,bx)::obH b ob,g+1)) :
  ∃f z k els,MkF b f z∧bx=⟨g,k,z,els⟩∧x=f g∧∀(hp:Heap) (c:Nat),HSub (obH b ob) hp→stepW op (some d) ρ hp c=some (f c,(b,⟨c,k,z,els⟩)::hp,c+1):=by
 cases op<;>simp only[AOp.maker]at hm<;>try (cases hm;done)
 case alloc zs=>
  obtain⟨rfl,rfl,rfl⟩:=h
  exact⟨_,_,_,_,.ptr zs.length,rfl,rfl,fun hp c _=>rfl⟩
 case mks z zs l c=>
  simp only[stepW,mksAV]at h ⊢
  split at h
  ·rename_i k1 n k2 m _ _
   simp only[Option.bind_some]at h ⊢
   split at h
   ·rename_i hc
    obtain⟨rfl,rfl,rfl⟩:=h
    exact⟨_,_,_,_,.bs z n.toNat,rfl,rfl,fun hp c _=>by rw[if_pos hc]⟩
   grind
  grind
 case app z x' y=>
  simp only[stepW,appAV]at h ⊢
  obtain⟨ys,hy,h1⟩:=bind_some h
  cases hv:ev ρ x'<;>rw[hv]at h1<;>simp only[appR]at h1<;>try (cases h1;done)
  case sl els fl=>
   simp only[Option.bind_some]at h1
   split at h1
   ·simp only[Option.some.injEq,Prod.mk.injEq,List.cons.injEq,and_true]at h1
    obtain⟨rfl,rfl,rfl⟩:=h1
    refine⟨_,_,_,_,.bs z (els.length+ys.length),rfl,rfl,fun hp c hs=>?_⟩
    grind[zln,appR]
   grind
  case bs id g' z' off n=>
   obtain⟨b0,hb0,h2⟩:=bind_some h1
   split at h2
   ·rename_i hc
    simp only[Option.some.injEq,Prod.mk.injEq,List.cons.injEq,and_true]at h2
    obtain⟨rfl,rfl,rfl⟩:=h2
    refine⟨_,_,_,_,.bs z (n+ys.length),rfl,rfl,fun hp c hs=>?_⟩
    grind[zln,appR,zd6]
   grind
 case xop k xs=>
  cases k<;>simp only at hm<;>try (cases hm;done)
  rename_i n
  match xs,h with
  | [],h=>simp[stepW,stepXV]at h
  | [y],h=>
   simp only[stepW,stepXV,List.map_cons,List.map_nil,boxXV,Option.bind_some]at h ⊢
   obtain⟨cs,hcs,h1⟩:=bind_some h
   split at h1
   ·simp only[Option.some.injEq,Prod.mk.injEq,List.cons.injEq,and_true]at h1
    obtain⟨rfl,rfl,rfl⟩:=h1
    refine⟨_,_,_,_,.ptr n,rfl,rfl,fun hp c _=>?_⟩
    grind
   grind
  | _::_::_,h=>simp[stepW,stepXV]at h
theorem znu{op:AOp}{d g:Nat}{ρ:Nat→AV}{x:AV}{hp:Heap}{c:Nat}(hm:op.maker=true)(h:stepW op (some d) ρ [] g=some (x,hp,c)):∃bx,hp=[(.loc d,bx)]∧c=g+1:=by
 cases op<;>simp only[AOp.maker]at hm<;>try (cases hm;done)
 case alloc zs=>
  grind[stepW,allocAV]
 case mks z zs l c=>
  simp only[stepW,mksAV]at h
  grind
 case app z x' y=>
  obtain⟨ys,hy,h1⟩:=bind_some h
  cases hv:ev ρ x'<;>rw[hv]at h1<;>simp only[appR]at h1<;>try (cases h1;done)
  grind
 case xop k xs=>
  cases k<;>simp only at hm<;>try (cases hm;done)
  match xs,h with
  | [],h=>simp[stepW,stepXV]at h
  | [y],h=>
   obtain⟨cs,hcs,h1⟩:=bind_some h
   grind
  | _::_::_,h=>simp[stepW,stepXV]at h
structure Mk where
 i:Nat
 d:Nat
 x:AV
 bs:Heap
 g0:Nat
 n:Nat
 ob:Option Box
def Mk.has(m:Mk)(g:Nat):Prop:=m.g0≤g∧g<m.g0+m.n
def FM(P:Program)(aos:List AO)(n:Nat)(h0:Heap)(c0:Nat)(MK:List Mk)(i:Nat)(ρ:Nat→AV)(x:AV):Prop:=
 i<n∧∃ao,aos[i]? = some ao ∧
  ((ao.guard=none∧∃m∈MK,m.i=i∧ao.dst=some m.d∧m.x=x ∧
    ((ao.op.maker=true∧∃b bx,m.bs=[(b,bx)]∧m.g0=bx.gen∧m.n=1∧stepW ao.op (some m.d) ρ (obH b m.ob) bx.gen=some (x,(b,bx)::obH b m.ob,bx.gen+1)∧∀g,boxGn bx g→contG c0 ao.op ρ g) ∨
     (ao.op.maker=false∧m.ob=none∧∃f args,ao.op=.call f args∧CallB P f (args.map (ev ρ)) m.g0 x m.bs m.n))) ∨
   (ao.op.maker=false∧(∀m∈MK,m.i≠i)∧QF P h0 ao ρ x∧∀g∈gnA x,contG c0 ao.op ρ g))
def mkH(l:List Mk):Heap:=l.reverse.flatMap fun m=>m.bs
def mkN(l:List Mk):Nat:=(l.map fun m=>m.n).sum
theorem zel{γ:Type}{id:BId}{x:γ}:∀(l:List (BId×γ)),(id,x)∈l→(∀y,(id,y)∈l→y=x)→l.lookup id=some x
 | [],h,_=>by cases h
 | (b,y)::l,h,hu=>by
  simp only[List.lookup_cons]
  by_cases hb:id=b
  ·subst hb
   simp only[beq_self_eq_true]
   rw[hu y (by simp)]
  ·have:(id == b)=false:=by simpa using hb
   rw[this]
   refine zel l ?_ fun z hz=>hu z (List.mem_cons_of_mem _ hz)
   rcases List.mem_cons.1 h with h | h
   ·injection h with h1 h2
    exact absurd h1 hb
   ·exact h
theorem zjh{γ:Type}{id:BId}:∀(l:List (BId×γ)),(∀y,(id,y)∉l)→l.lookup id=none
 | [],_=>rfl
 | (b,y)::l,h=>by
  grind
theorem znv{l:List Mk}{id:BId}{x:Box}:(id,x)∈mkH l↔∃m∈l,(id,x)∈m.bs:=by
 grind[mkH]
theorem zhg{γ:Type}:∀(l:List (BId×γ)),(l.map (·.1)).Nodup→∀{b:BId} {x y:γ},(b,x)∈l→(b,y)∈l→x=y
 | [],_,_,_,_,h,_=>by cases h
 | (c,z)::l,hn,b,x,y,h1,h2=>by
  simp only[List.map_cons,List.nodup_cons]at hn
  rcases List.mem_cons.1 h1 with h1 | h1<;>rcases List.mem_cons.1 h2 with h2 | h2
  ·rw[Prod.mk.injEq]at h1 h2;rw[h1.2,h2.2]
  ·rw[Prod.mk.injEq]at h1
   exact absurd (List.mem_map.2 ⟨_,h2,h1.1⟩) hn.1
  ·rw[Prod.mk.injEq]at h2
   exact absurd (List.mem_map.2 ⟨_,h1,h2.1⟩) hn.1
  ·exact zhg l hn.2 h1 h2
theorem zhh{γ:Type}:∀(l:List (BId×γ)) (b:BId) (x:γ),l.lookup b=some x→(b,x)∈l
 | [],b,x,h=>by simp at h
 | (c,y)::l,b,x,h=>by
  simp only[List.lookup_cons]at h
  split at h
  ·rename_i hb
   cases h
   rw[eq_of_beq hb]
   simp
  ·exact List.mem_cons_of_mem _ (zhh l b x h)
theorem zo3{aos:List AO}{n:Nat}{h0 X:Heap}{c0:Nat}(hX0:HSub h0 X){Fin:Env→Heap→Nat→Prop}(hw:∀ao∈aos.take n,ao.op.writes=true→ao.op.maker=true)(hdst:∀(i:Nat) (o:Oper),ops[i]? = some o→∃ao:AO,aos[i]? = some ao∧ao.dst=o.dst) :
  ∀(l:List Oper) (k:Nat) (rest:List AO) (e:Env) (h:Heap) (clk:Nat),(∀j,j<l.length→l[j]? = ops[k+j]?)→(∀j,j<rest.length→rest[j]? = aos[k+j]?)→l.length=rest.length→k+l.length=n→(∀id,h.lookup id=none→X.lookup id=none) →
   drawMG P h0 c0 X Fin rest e h clk →
   ∃MKs:List Mk,(∀m∈MKs,k≤m.i∧m.i<n∧clk≤m.g0∧m.g0+m.n≤clk+mkN MKs∧(∀p∈m.bs,h.lookup p.1=m.ob∧X.lookup p.1=m.ob∧h0.lookup p.1=none)∧(m.bs.map (·.1)).Nodup) ∧
    (∀m∈MKs,∀m'∈MKs,(m.i=m'.i∨(∃b x y,(b,x)∈m.bs∧(b,y)∈m'.bs)∨(∃g,m.has g∧m'.has g))→m=m') ∧
    (∀m∈MKs,∃ao,aos[m.i]? = some ao∧ao.op.noisy=true) ∧
    ∀MK:List Mk,(∀m∈MKs,m∈MK)→(∀m∈MK,k≤m.i→m∈MKs)→lexE ops (FM P aos n h0 c0 MK) (fun ρ=>∃e,ρ=Env.get e∧Fin e (mkH MKs++h) (clk+mkN MKs)) l k e.get
 | [],k,rest,e,h,clk,_,_,hlen,_,_,hk=>by
  have:rest=[]:=List.eq_nil_of_length_eq_zero (by grind)
  subst this
  exact⟨[],by simp,by simp,by simp,fun MK _ _=>⟨e,rfl,by simpa[mkH,mkN,drawMG]using hk⟩⟩
 | o::l,k,rest,e,h,clk,hl,hr,hlen,hkn,hXh,hk=>by
  cases rest with
  | nil=>grind
  | cons ao rest=>
   have h0':ops[k]? = some o:=by simpa using (hl 0 (by simp)).symm
   have h1:aos[k]? = some ao:=by simpa using (hr 0 (by simp)).symm
   obtain⟨ao',h2,hd⟩:=hdst k o h0'
   rw[h1]at h2
   cases h2
   simp only[List.length_cons]at hkn
   have hmem:ao∈aos.take n:=List.mem_of_getElem? (i:=k) (by grind)
   have hl':∀j,j<l.length→l[j]? = ops[k+1+j]? := fun j hj=>by have:=hl (j+1) (by grind);grind
   have hr':∀j,j<rest.length→rest[j]? = aos[k+1+j]? := fun j hj=>by have:=hr (j+1) (by grind);grind
   simp only[drawMG]at hk
   -- one that makes boxes
   have make:∀(d:Nat) (x:AV) (B:Heap) (m:Nat) (ob:Option Box),ao.op.noisy=true→ao.dst=some d→(∀p∈B,h.lookup p.1=ob∧X.lookup p.1=ob∧h0.lookup p.1=none)→(∀p∈B,X.lookup p.1≠some p.2)→(B.map (·.1)).Nodup →
     (∀MK:List Mk,(⟨k,d,x,B,clk,m,ob⟩:Mk)∈MK→FM P aos n h0 c0 MK k e.get x)→drawMG P h0 c0 X Fin rest (putE e (some d) x) (B++h) (clk+m)→(∃MKs:List Mk,(∀m∈MKs,k≤m.i∧m.i<n∧clk≤m.g0∧m.g0+m.n≤clk+mkN MKs∧(∀p∈m.bs,h.lookup p.1=m.ob∧X.lookup p.1=m.ob∧h0.lookup p.1=none)∧(m.bs.map (·.1)).Nodup) ∧
      (∀m∈MKs,∀m'∈MKs,(m.i=m'.i∨(∃b x y,(b,x)∈m.bs∧(b,y)∈m'.bs)∨(∃g,m.has g∧m'.has g))→m=m') ∧
      (∀m∈MKs,∃ao,aos[m.i]? = some ao∧ao.op.noisy=true) ∧
    ∀MK:List Mk,(∀m∈MKs,m∈MK)→(∀m∈MK,k≤m.i→m∈MKs)→lexE ops (FM P aos n h0 c0 MK) (fun ρ=>∃e,ρ=Env.get e∧Fin e (mkH MKs++h) (clk+mkN MKs)) (o::l) k e.get):=by
    intro d x B m ob hno hdd hfr hXB hnd hF hk2
    obtain⟨MKs,p1,p2,p4,p3⟩:=zo3 hX0 (Fin:=Fin) hw hdst l (k+1) rest _ _ _ hl' hr' (by grind) (by omega) (fun id hid=>hXh id (by grind)) hk2
    have hsum:mkN (⟨k,d,x,B,clk,m,ob⟩::MKs)=m+mkN MKs:=by simp[mkN]
    refine⟨⟨k,d,x,B,clk,m,ob⟩::MKs,fun q hq=>?_,fun q hq q' hq' he=>?_,fun q hq=>(List.mem_cons.1 hq).elim (fun e=>by grind) (fun hq=>p4 q hq),fun MK hMK hMK2=>?_⟩
    ·rw[hsum]
     rcases List.mem_cons.1 hq with rfl | hq
     ·grind
     ·obtain⟨q1,q2,q3,q4,q5,q6⟩:=p1 q hq
      refine⟨by omega,q2,by omega,by omega,fun p hp=>?_,q6⟩
      obtain⟨this,hxo,h0o⟩:=q5 p hp
      cases hBl:B.lookup p.1 with
      | none=>grind
      | some bx=>grind
    ·have key:∀m'∈MKs,(k=m'.i∨(∃b x y,(b,x)∈B∧(b,y)∈m'.bs)∨(∃g,(clk≤g∧g<clk+m)∧m'.has g))→False:=by
      intro m' hm' he
      obtain⟨q1,q2,q3,q4,q5,_⟩:=p1 m' hm'
      rcases he with he | ⟨b,u,v,hb,hb'⟩ | ⟨g,hg,hg'⟩
      ·omega
      ·obtain⟨this,hxo,h0o⟩:=q5 _ hb'
       cases hBl:B.lookup b with
       | none=>grind
       | some bx=>exact hXB (b,bx) (zhh _ _ _ hBl) (by grind)
      ·have h3:=hg'.1
       omega
     rcases List.mem_cons.1 hq with rfl | hq<;>rcases List.mem_cons.1 hq' with rfl | hq'
     ·rfl
     ·exact(key q' hq' he).elim
     ·refine(key q hq ?_).elim
      rcases he with he | ⟨b,u,v,hb,hb'⟩ | ⟨g,hg,hg'⟩
      ·grind
      ·grind
      ·exact .inr (.inr ⟨g,hg',hg⟩)
     grind
    ·refine⟨x,hF MK (hMK _ (by simp)),?_⟩
     have:=p3 MK (fun m hm=>hMK m (by grind)) (fun q hq hqi=>by
      grind)
     rw[←hd,←zb7,hdd]
     have e1:mkH (⟨k,d,x,B,clk,m,ob⟩::MKs)++h=mkH MKs++(B++h):=by simp[mkH]
     have e2:clk+mkN (⟨k,d,x,B,clk,m,ob⟩::MKs:List Mk)=clk+m+mkN MKs:=by omega
     rw[e1,e2]
     omega
   cases hmk:ao.op.maker with
   | true=>
    rw[hmk]at hk
    obtain⟨hgn,d,x,b,bx,ob,hdd,hst,hfr,hfx,hf0,hgo,hcont,hk2⟩:=hk
    obtain⟨f,z,kd,els,hf,hbx,hx,_⟩:=zjg hmk hst
    have hg0:bx.gen=clk:=by grind
    refine make d x [(b,bx)] 1 ob (by cases hop:ao.op<;>rw[hop]at hmk<;>first | rfl | exact hmk | cases hmk) hdd (fun p hp=>by grind) (fun p hp he=>?_) (by simp) (fun MK hm=>⟨by omega,ao,h1,.inl ⟨hgn,_,hm,rfl,hdd,rfl,.inl ⟨hmk,b,bx,rfl,hg0.symm,rfl,by grind,hcont⟩⟩⟩) hk2
    grind
   | false=>
    rw[hmk]at hk
    have hns:ao.op.isStore=false:=by
     cases hh:ao.op.isStore with
     | false=>rfl
     | true=>
      have hww:ao.op.writes=true:=by
       cases hop:ao.op<;>rw[hop]at hh<;>first | rfl | cases hh
      grind
    rw[hns]at hk
    rcases hk with hk | ⟨hgn,f,args,d,x,B,m,hop,hdd,hcb,hfr,hk2⟩
    ·have hwr:ao.op.writes=false:=by
      grind
     obtain⟨x,hq1,_,hcont,hk2⟩:=zqr hwr hk
     obtain⟨MKs,p1,p2,p4,p3⟩:=zo3 hX0 (Fin:=Fin) hw hdst l (k+1) rest _ _ _ hl' hr' (by grind) (by omega) hXh hk2
     refine⟨MKs,fun m hm=>?_,p2,p4,fun MK hMK hMK2=>⟨x,⟨by omega,ao,h1,.inr ⟨hmk,fun m hm he=>?_,hq1,hcont⟩⟩,?_⟩⟩
     ·grind
     ·grind
     grind[zb7]
    ·have hfx:∀p∈B,X.lookup p.1=none:=fun p hp=>hXh _ (hfr p hp)
     have hf0:∀p∈B,h0.lookup p.1=none:=fun p hp=>by
      cases hl0:h0.lookup p.1 with
      | none=>rfl
      | some y=>have:=hX0 _ _ hl0;grind
     exact make d x B m none (by rw[hop];rfl) hdd (fun p hp=>⟨hfr p hp,hfx p hp,hf0 p hp⟩) (fun p hp he=>by grind) hcb.2.2.1 (fun MK hm=>⟨by omega,ao,h1,.inl ⟨hgn,_,hm,rfl,hdd,rfl,.inr ⟨hmk,rfl,f,args,hop,hcb⟩⟩⟩) hk2
theorem zff{h0 X:Heap}{c0:Nat}{Fin:Env→Heap→Nat→Prop}(s:List AO):∀(l:List AO) (e:Env) (h:Heap) (clk:Nat),drawMG P h0 c0 X Fin (l++s) e h clk=drawMG P h0 c0 X (fun e h clk=>drawMG P h0 c0 X Fin s e h clk) l e h clk
 | [],e,h,clk=>rfl
 | o::l,e,h,clk=>by
  have ih:=zff (h0:=h0) (X:=X) (c0:=c0) (Fin:=Fin) s l
  simp only[List.cons_append,drawMG,ih]
end
end
section
open Go.RowKit
section
variable{P:Program}{w w':World}{S S':Nat→Nat→Prop}{M M':Map}
theorem zo7{γ:Type}:∀(l:List (BId×γ)) (b:BId) (x:γ),l.lookup b=some x→(b,x)∈l
 | [],b,x,h=>by simp at h
 | (c,y)::l,b,x,h=>by
  simp only[List.lookup_cons]at h
  split at h
  ·rename_i hb
   cases h
   rw[eq_of_beq hb]
   simp
  ·exact List.mem_cons_of_mem _ (zo7 l b x h)
theorem RelF.mk2{cx:Cx}{h B:Heap}{ρ:Nat→AV}{a:Act}{c g0 n nt:Nat}{v:Value}{x:AV}(hr:RelF cx S M c h ρ a w)
  (hw:WRel ⟨P,nt,w,S,fun _=>none,g0⟩ S' M' (g0+n) B w') (hC:C w' S' M' (g0+n) v x) (hc:g0+n≤c) (h0:cx.clk0≤g0) (hfr:∀p∈B,h.lookup p.1=none)
  (henv:∀t,∀q∈gnA (ρ t),¬ (g0≤q∧q<g0+n)) (hbox:∀id bx,h.lookup id=some bx→¬ (g0≤bx.gen∧bx.gen<g0+n)∧∀q,boxGn bx q→¬ (g0≤q∧q<g0+n))
  (hx:∀g∈gnA x,g0≤g) (hB:∀p∈B,∀g,boxGn p.2 g→g0≤g) :
  ∃M2,RelF cx S' M2 c (B++h) ρ a w'∧C w' S' M2 c v x:=by
 have hno:∀k,¬ (⟨P,nt,w,S,fun _=>none,g0⟩:Cx).brw k:=by
  intro k ⟨g,hg⟩
  grind
 have hblk:∀k,k<w.heap.size→w'.heap[k]? = w.heap[k]? := fun k hk=>hw.fr.block k hk (hno k)
 have hSo:∀k o,k<w.heap.size→S' k o→S k o:=by
  intro k o hk hs
  rcases hw.Snew k o hs with h1 | h1 | h1
  all_goals grind
 have hin:∀g m,M' g=some m→g0≤g∧g<g0+n:=by
  intro g m hm
  obtain⟨b,bx,h1,h2⟩:=hw.heap.live g m hm
  refine⟨?_,by rw[←h2];exact(hw.heap.box b bx h1).1⟩
  rcases Nat.lt_or_ge g g0 with hlt | hge
  ·have:=hw.ext.hM g m hlt hm
   grind
  omega
 have hMk:∀g k,M' g=some (some k)→k<w'.heap.size∧w.heap.size≤k:=by
  intro g k hm
  obtain⟨h1,h2⟩:=hw.Mnew g k hm
  grind
 have hx1:Ext w S M c w' S' M c:=by
  refine⟨hw.ext.hS,hw.ext.hcell,Nat.le_refl _,fun g m _ hm=>hm,fun g k arr e _ hm hb=>⟨arr,?_,rfl⟩⟩
  grind
 generalize hM2:(fun g=>if g0≤g∧g<g0+n then M' g else M g:Map)=M2
 have m1:∀g,g0≤g∧g<g0+n→M2 g=M' g:=by grind
 have m2:∀g,¬ (g0≤g∧g<g0+n)→M2 g=M g:=by grind
 have m3:∀g m,M2 g=some m→((g0≤g∧g<g0+n)∧M' g=some m)∨(¬ (g0≤g∧g<g0+n)∧M g=some m):=by
  grind
 have hlt:∀q,¬ (g0≤q∧q<g0+n)→q<c→M2 q=M q∧q<c:=fun q h1 h2=>⟨m2 q h1,h2⟩
 have hlook:∀id bx,(B++h).lookup id=some bx→B.lookup id=some bx∨(B.lookup id=none∧h.lookup id=some bx):=by
  grind
 have hlh:∀id bx,h.lookup id=some bx→(B++h).lookup id=some bx:=by
  grind
 have hBg:∀id bx,B.lookup id=some bx→g0≤bx.gen∧bx.gen<g0+n:=by
  intro id bx hb
  obtain⟨b1,_,m,hm,_⟩:=hw.heap.box id bx hb
  grind
 refine⟨M2,⟨hr.size,hr.defers,fun t=>?_,⟨⟨fun b bx hb=>?_,fun g m hm=>?_,fun b bx b' bx' h1 h2 hg=>?_,fun g g' k h1 h2=>?_⟩,⟨?_,?_,?_,fun g m hg hm=>?_,fun g k arr e hg hm hb=>?_⟩,?_,fun k o hs=>?_,hw.Slt,fun g k hm=>?_⟩⟩,?_⟩
 ·exact((hr.env t).mono hx1).remap fun q hq=>hlt q (henv t q hq) ((hr.env t).gn q hq)
 ·rcases hlook b bx hb with h1 | ⟨_,h1⟩
  ·have hbk:=hw.heap.box b bx h1
   have hg:=hBg b bx h1
   refine hbk.remap (m1 _ hg) (by omega) fun q hq=>?_
   have h2:=hB _ (zo7 B b bx h1) q hq
   have h3:=hbk.gn.2 q hq
   grind
  ·have hbk:=hr.wr.heap.box b bx h1
   obtain⟨e1,e2⟩:=hbox b bx h1
   refine(hbk.mono hx1 rfl (fun k hm=>hblk k (hr.wr.Mnew _ k hm).1) fun k o hm hs=>hSo k o (hr.wr.Mnew _ k hm).1 hs).remap (m2 _ e1) hbk.1 fun q hq=>?_
   exact hlt q (e2 q hq) (hbk.gn.2 q hq)
 ·rcases m3 g m hm with ⟨_,h1⟩ | ⟨_,h1⟩
  ·obtain⟨b,bx,h2,h3⟩:=hw.heap.live g m h1
   grind
  ·obtain⟨b,bx,h2,h3⟩:=hr.wr.heap.live g m h1
   grind
 ·rcases hlook b bx h1 with h1 | ⟨_,h1⟩<;>rcases hlook b' bx' h2 with h2 | ⟨_,h2⟩
  ·exact hw.heap.gens b bx b' bx' h1 h2 hg
  ·grind
  ·grind
  ·exact hr.wr.heap.gens b bx b' bx' h1 h2 hg
 ·rcases m3 g _ h1 with ⟨_,e1⟩ | ⟨_,e1⟩<;>rcases m3 g' _ h2 with ⟨_,e2⟩ | ⟨_,e2⟩
  ·exact hw.heap.inj _ _ _ e1 e2
  ·have:=(hMk g k e1).2;have:=(hr.wr.Mnew g' k e2).1;omega
  ·have:=(hMk g' k e2).2;have:=(hr.wr.Mnew g k e1).1;omega
  ·exact hr.wr.heap.inj _ _ _ e1 e2
 ·exact(hr.wr.ext.trans hx1).hS
 ·exact(hr.wr.ext.trans hx1).hcell
 ·omega
 ·rw[m2 g (by omega)]at hm
  exact(hr.wr.ext.trans hx1).hM g m hg hm
 ·rw[m2 g (by omega)]at hm
  exact(hr.wr.ext.trans hx1).hblk g k arr e hg hm hb
 ·have f1:=hr.wr.fr
  have f2:=hw.fr
  exact⟨f2.os.trans f1.os,f2.tape.trans f1.tape,f2.output.trans f1.output,Nat.le_trans f1.size f2.size,fun k hk hn=>(hblk k (Nat.lt_of_lt_of_le hk f1.size)).trans (f1.block k hk hn)⟩
 ·rcases hw.Snew k o hs with h1 | h1 | h1
  ·exact hr.wr.Snew k o h1
  ·exact .inr (.inl (Nat.le_trans hr.wr.fr.size h1))
  grind
 ·rcases m3 g _ hm with ⟨_,e1⟩ | ⟨_,e1⟩
  ·obtain⟨h1,h2⟩:=hMk g k e1
   exact⟨h1,.inl (Nat.le_trans hr.wr.fr.size h2)⟩
  ·obtain⟨h1,h2⟩:=hr.wr.Mnew g k e1
   grind
 ·exact hC.remap fun q hq=>by
   have h2:=hC.gn q hq
   grind
end
end
section
open Go.RowKit
section
variable{P:Program}{ops:Array Oper}{md:Region.Mode}{F:Nat→(Nat→AV)→AV→Prop}
theorem zem(hL:Local ops F){n g:Nat}{Lq:(Nat→AV)→Prop}(hs:Region.sinkB md ops n=true)(hc:Region.chainB md ops n=true)(hn:n<ops.size) :
  ∀(l:List Oper) (k:Nat) (listed:Array Bool) (ρ:Nat→AV),(∀j,j<l.length→l[j]? = ops[k+j]?)→k+l.length=n→HeadInv md ops n listed→(∀i,i<k→listed.getD i false=true) →
  Region.lexHead md ops g l.length k listed=true→lexE ops F Lq l k ρ →
  anyEL md ops F n (fun listed' ρ'=>Region.seqB md ops g n listed'=true∧(∀i,i<n→listed'.getD i false=true)∧Lq ρ') l.length listed ρ
 | [],k,listed,ρ,_,hk,_,hfull,hB,h=>by
  have:k=n:=by simpa using hk
  subst this
  exact⟨by simpa[Region.lexHead]using hB,hfull,h⟩
 | o::l,k,listed,ρ,hl,hk,inv,hfull,hB,h=>by
  have h0:ops[k]? = some o:=by simpa using (hl 0 (by simp)).symm
  simp only[List.length_cons,Region.lexHead,Bool.and_eq_true]at hB
  obtain⟨⟨hr,hf⟩,hB'⟩:=hB
  have hkn:k<n:=by simp only[List.length_cons]at hk;omega
  have hr':k∈Region.ready md ops listed:=by simpa using hr
  obtain⟨v,hy,hK⟩:=h
  have hksz:k<listed.size:=by rw[inv.size];omega
  exact zhc hL h0 hs hc hn hkn (fun listed' a' hL=>seqB_ready hL.1) l.length listed ρ inv (Region.free_spec h0 hf) hr' hy
   (zem hL hs hc hn l (k+1) _ _ (fun j hj=>by have:=hl (j+1) (by simp;omega);simpa[Nat.add_assoc,Nat.add_comm 1 j]using this) (by simp only[List.length_cons]at hk;omega) (inv.set hr' hkn) (fun i hi=>by
    by_cases hik:k=i
    ·subst hik
     simp[hksz]
    ·rw[getD_set_ne false hik]
     exact hfull i (by omega)) hB' hK)
theorem zb9{n g:Nat}{L:Array Bool→(Nat→AV)→Prop}{R:Array Bool→(Nat→AV)→Act→World→Prop}{Q':Exit→Act→World→Prop}
  (hs:∀i o listed,i<n→ops[i]? = some o→i∈Region.ready md ops listed→∀ρ x a w (K:Act→World→Prop),F i ρ x→R listed ρ a w→(∀a' w',R (listed.setIfInBounds i true) (upd ρ o.dst x) a' w'→K a' w')→wpOp P ops Q' i K a w)
  (hQ:∀listed ρ a w,L listed ρ→R listed ρ a w→wpAny P md ops Q' g listed a w):∀(f:Nat) (listed:Array Bool) (ρ:Nat→AV) (a:Act) (w:World),R listed ρ a w →
  anyEL md ops F n L f listed ρ→wpAny P md ops Q' (f+g) listed a w
 | 0,_,_,_,_,hr,h=>by rw[Nat.zero_add];exact hQ _ _ _ _ h hr
 | f+1,listed,ρ,a,w,hr,h=>by
  rw[show f+1+g=(f+g)+1 by omega]
  refine⟨fun h0=>absurd h0 h.1,fun i hi=>?_⟩
  obtain⟨hin,h2⟩:=h.2 i hi
  obtain⟨_,o,ho,_⟩:=mem_ready.1 hi
  unfold fOp at h2
  simp only[ho]at h2
  obtain⟨x,hx,hK⟩:=h2
  exact hs i o listed hin ho hi ρ x a w _ hx hr fun a' w' hr'=>zb9 hs hQ f _ _ a' w' hr' hK
end
section
variable{P:Program}{ops:Array Oper}{cx:Cx}{w:World}{a:Act}
def Gok(c0:Nat)(MK:List Mk)(listed:Array Bool)(g:Nat):Prop:=g<c0∨∃m∈MK,listed.getD m.i false=true∧m.has g
def RM(cx:Cx)(X:Heap)(c0:Nat)(MK:List Mk)(listed:Array Bool)(ρ:Nat→AV)(a:Act)(w:World):Prop:=
 ∃h',RelR cx (c0+mkN MK) h' ρ a w∧(∀id bx,X.lookup id=some bx→(∀m∈MK,listed.getD m.i false=true→∀y,(id,y)∉m.bs)→h'.lookup id=some bx)∧(∀m∈MK,listed.getD m.i false=true→∀p∈m.bs,h'.lookup p.1=some p.2) ∧
  (∀id bx,h'.lookup id=some bx→X.lookup id=some bx∨∃m∈MK,listed.getD m.i false=true∧(id,bx)∈m.bs) ∧
  (∀t,∀g∈gnA (ρ t),Gok c0 MK listed g)∧(∀id bx,h'.lookup id=some bx→Gok c0 MK listed bx.gen∧∀g,boxGn bx g→Gok c0 MK listed g)
theorem Gok.mono{c0:Nat}{MK:List Mk}{listed:Array Bool}{i g:Nat}(h:Gok c0 MK listed g):Gok c0 MK (listed.setIfInBounds i true) g:=by
 rcases h with h | ⟨m,hm,hl,hg⟩
 ·exact .inl h
 ·refine .inr ⟨m,hm,?_,hg⟩
  by_cases hi:i=m.i
  ·have:m.i<listed.size:=by
    grind
   simp_all
  simp_all
theorem zo4{nt n c0:Nat}{aos:List AO}{h0:Heap}{MK:List Mk}(hget':∀(i:Nat) (o:Oper),ops[i]? = some o→∃ao,aos[i]? = some ao∧resOper P nt ops o=some ao):Local ops (FM P aos n h0 c0 MK):=by
 intro i o ho ρ ρ' hρ x ⟨hin,ao,hao,hq⟩
 obtain⟨ao',h1,h2⟩:=hget' i o ho
 rw[hao]at h1
 cases h1
 refine⟨hin,ao,hao,?_⟩
 obtain⟨op,g,hop,hg,rfl,_⟩:=zag h2
 have hops:∀t,Operand.tmp t∈o.op.operands.toList→ρ t=ρ' t:=fun t ht=>hρ t (by
  grind[Oper.looksAt])
 have hct:∀q,contG c0 op ρ q→contG c0 op ρ' q:=by
  intro q hq
  rcases hq with hq | ⟨t,ht,hq⟩
  ·exact .inl hq
  ·exact .inr ⟨t,ht,by rw[←hops t (zqs hop t ht)];omega⟩
 rcases hq with ⟨e1,m,e2,e3,e4,e5,hkk⟩ | ⟨hmk,e1,e2,e3⟩
 ·grind[zbz,zcx,zc6,Op.operands,Call.operands]
 ·grind[QF,zbv,resGuard,map_some,Oper.looksAt]
theorem zhi(b:BId):∀(h:Heap) (id:BId),(h.filter fun p=>!(p.1 == b)).lookup id=if id=b then none else h.lookup id
 | [],id=>by grind
 | (c,x)::h,id=>by
  have ih:=zhi b h id
  grind
theorem zs4{nt n c0:Nat}{aos:List AO}{h0 X:Heap}(hX0:HSub h0 X){MK:List Mk}{Q:Exit→Act→World→Prop}(hnt:nt=cx.nt)(hget':∀(i:Nat) (o:Oper),ops[i]? = some o→∃ao,aos[i]? = some ao∧resOper P nt ops o=some ao)(hc0:cx.clk0≤c0)
  (p1:(∀m∈MK,0≤m.i∧m.i<n∧c0≤m.g0∧m.g0+m.n≤c0+mkN MK∧(∀p∈m.bs,X.lookup p.1=m.ob∧X.lookup p.1=m.ob∧h0.lookup p.1=none)∧(m.bs.map (·.1)).Nodup)) (p2:(∀m∈MK,∀m'∈MK,(m.i=m'.i∨(∃b x y,(b,x)∈m.bs∧(b,y)∈m'.bs)∨(∃g,m.has g∧m'.has g))→m=m'))
  {i:Nat} {o:Oper} {listed:Array Bool} (ho:ops[i]? = some o) (hrd:i∈Region.ready .any ops listed) {ρ:Nat→AV} {x:AV} {a:Act} {w:World} {K':Act→World→Prop}
  (hF:FM P aos n h0 c0 MK i ρ x) (hr:RM cx X c0 MK listed ρ a w) (hK':∀a' w',RM cx X c0 MK (listed.setIfInBounds i true) (upd ρ o.dst x) a' w'→K' a' w'):wpOp P ops Q i K' a w:=by
 have fresh:∀(listed:Array Bool) (m:Mk),m∈MK→listed.getD m.i false=false→∀g,Gok c0 MK listed g→¬ m.has g∧g<c0+mkN MK:=by
  intro listed m hmM hun g hg
  obtain⟨_,_,q3,q4,_,_⟩:=p1 m hmM
  rcases hg with hg | ⟨m',hm',hl,hh⟩
  ·exact⟨fun h=>by have:=h.1;omega,by omega⟩
  ·obtain⟨_,_,_,r4,_,_⟩:=p1 m' hm'
   refine⟨fun he=>?_,by have:=hh.2;omega⟩
   grind
 obtain⟨_,ao,hao,hq⟩:=hF
 obtain⟨ao',h1,h2⟩:=hget' i o ho
 rw[hao]at h1
 cases h1
 have hun:=(mem_ready.1 hrd).1
 have hisz:i<listed.size:=by
  grind
 obtain⟨h',hrel,r1,r2,r3,r4,r5⟩:=hr
 have hset:∀k,k≠i→(listed.setIfInBounds i true).getD k false=listed.getD k false:=fun k hk=>getD_set_ne false (Ne.symm hk)
 have hseti:(listed.setIfInBounds i true).getD i false=true:=by simp[hisz]
 obtain⟨op,g,hop,hg,hao',hd⟩:=zag h2
 have hcok:∀q,contG c0 ao.op ρ q→Gok c0 MK listed q:=by
  intro q hq
  rcases hq with hq | ⟨t,_,hq⟩
  ·exact .inl hq
  grind
 rcases hq with ⟨hgn,m,hmM,hmi,hdst,hmx,hkind⟩ | ⟨hmk,hnm,hqf,hcont⟩
 rotate_left
 ·have hsub:HSub h0 h':=fun id bx hb=>r1 id bx (hX0 _ _ hb) fun m hm' _ y hy=>by
   grind
  refine za6 ho hnt h2 (z0g hsub hqf) hrel fun a' w' hr'=>hK' a' w' ⟨h',hr',fun id bx hb hno=>r1 id bx hb fun m hm' hl=>hno m hm' (by grind),fun m hm' hl p hp=>r2 m hm' ?_ p hp,fun id bx hb=>?_,fun t q hq'=>?_,fun id bx hb=>⟨(r5 id bx hb).1.mono,fun q hq'=>((r5 id bx hb).2 q hq').mono⟩⟩
  ·grind
  ·grind
  ·cases hdd:o.dst with
   | none=>rw[hdd]at hq';exact(r4 t q hq').mono
   | some d=>
    rw[hdd]at hq'
    simp only[upd]at hq'
    split at hq'
    ·exact(hcok q (hcont q hq')).mono
    ·exact(r4 t q hq').mono
 subst hmi
 have hunf:listed.getD m.i false=false:=getD_both hun
 obtain⟨q1,q2,q3,q4,q5,q6⟩:=p1 m hmM
 have hfr:=fresh listed m hmM hunf
 have huse:∀id y,(id,y)∈m.bs→∀m'∈MK,listed.getD m'.i false=true→∀z,(id,z)∉m'.bs:=by
  grind
 have hmono:∀m'∈MK,listed.getD m'.i false=true→(listed.setIfInBounds m.i true).getD m'.i false=true:=by
  grind
 have hodst:o.dst=some m.d:=by grind
 have hfin:∀a' w',RelR cx (c0+mkN MK) (m.bs++h') (upd ρ o.dst x) a' w'→(∀q∈gnA x,Gok c0 MK (listed.setIfInBounds m.i true) q) →
   (∀p∈m.bs,m.has p.2.gen∧∀q,boxGn p.2 q→Gok c0 MK (listed.setIfInBounds m.i true) q)→K' a' w':=by
  intro a' w' hre hgx hgb
  have hlk:∀id,m.bs.lookup id=none→(m.bs++h').lookup id=h'.lookup id:=by
   grind
  have hlm:∀p∈m.bs,(m.bs++h').lookup p.1=some p.2:=by
   intro p hp
   rw[zcs,zel m.bs (id:=p.1) (x:=p.2) hp fun y hy=>zhg _ q6 hy hp]
   rfl
  have hcas:∀id bx,(m.bs++h').lookup id=some bx→(id,bx)∈m.bs∨h'.lookup id=some bx:=by
   grind
  refine hK' _ _ ⟨m.bs++h',hre,fun id bx hb hno=>?_,fun m' hm' hl p hp=>?_,fun id bx hb=>?_,fun t q hq=>?_,fun id bx hb=>?_⟩
  ·rw[hlk id (zjh _ fun y hy=>hno m hmM hseti y hy)]
   exact r1 id bx hb fun m' hm' hl=>hno m' hm' (hmono m' hm' hl)
  ·by_cases hmm:m'=m
   ·grind
   grind
  ·rcases hcas id bx hb with hb | hb
   ·grind
   ·rcases r3 id bx hb with h6 | ⟨m',hm',h7,h8⟩
    ·grind
    grind
  ·rw[hodst]at hq
   simp only[upd]at hq
   split at hq
   ·grind
   ·exact(r4 t q hq).mono
  ·rcases hcas id bx hb with hb | hb
   ·obtain⟨h3,h4⟩:=hgb _ hb
    exact⟨.inr ⟨m,hmM,hseti,h3⟩,h4⟩
   ·exact⟨(r5 id bx hb).1.mono,fun q hq=>((r5 id bx hb).2 q hq).mono⟩
 rcases hkind with ⟨hmk,b0,bx,hbs,hg0,hn1,hst,hbc⟩ | ⟨hmk,hob,f,args,hopc,hnr,hac,hnd,hgx,hgb⟩
 ·obtain⟨f,z,kd,els,hf,hbx,hx,hall⟩:=zjg hmk hst
  have hhas:∀q,q=bx.gen→m.has q:=by
   intro q hq
   subst hq
   refine⟨by omega,by omega⟩
  obtain⟨S,M,hrf⟩:=hrel
  subst hnt
  have hmem:(b0,bx)∈m.bs:=by grind
  have hsubO:HSub (obH b0 m.ob) h':=by
   intro id y hy
   cases hob:m.ob with
   | none=>rw[hob]at hy;cases hy
   | some ob=>
    rw[hob]at hy
    simp only[obH,List.lookup_cons]at hy
    grind
  have hst2:=hall h' (c0+mkN MK) hsubO
  subst hao'
  simp only at hst2 hgn hdst hmk hbc
  subst hgn
  rw[←hdst]at hst2
  obtain⟨v,w',S',M',h3,h4,h5⟩:=zcd hop hrf hst2
  have hput0:=h4.put hd h5
  rw[hdst]at hput0
  have hcg:∀(y:Box) (id:BId),((b0,y)::h'.filter fun p=>!(p.1 == b0)).lookup id=((b0,y)::h').lookup id:=by
   intro y id
   rw[List.lookup_cons,List.lookup_cons,zhi]
   grind
  have hput:=hput0.heap_congr (hcg _)
  have hnone':(h'.filter fun p=>!(p.1 == b0)).lookup b0=none:=by grind
  have hdr:∀id y,(h'.filter fun p=>!(p.1 == b0)).lookup id=some y→h'.lookup id=some y:=by
   intro id y hy
   rw[zhi]at hy
   grind
  have hgen:bx.gen<c0+mkN MK:=by omega
  have hfr':∀q,Gok c0 MK listed q→q≠bx.gen∧q<c0+mkN MK:=fun q hq=>⟨fun e=>(hfr q hq).1 (hhas q e),(hfr q hq).2⟩
  have hbx':∀q,boxGn ⟨c0+mkN MK,kd,z,els⟩ q→boxGn bx q:=by
   intro q hq
   rw[hbx]
   exact hq
  have hre:=RelF.regen (g:=bx.gen) hf hput hgen (by omega) hnone' (fun t q hq=>hfr' q (r4 t q hq)) (fun id bx hb=>⟨(hfr' _ (r5 id bx (hdr id bx hb)).1).1,(hfr' _ (r5 id bx (hdr id bx hb)).1).2,fun q hq=>hfr' q ((r5 id bx (hdr id bx hb)).2 q hq)⟩) (fun q hq=>hfr' q (hcok q (hbc q (hbx' q hq))))
  have e1:(⟨bx.gen,kd,z,els⟩:Box)=bx:=by grind
  rw[e1,←hx]at hre
  have hfin2:K' (a.put o.dst v) w':=by
   refine hfin _ _ ?_ (fun q hq=>?_) fun p hp=>?_
   ·rw[hdst,hbs]
    exact⟨_,_,hre.heap_congr fun id=>(hcg bx id).symm⟩
   ·have:q=bx.gen:=by
     rw[hx]at hq
     cases hf with
     | ptr=>simpa[gnA]using hq
     | bs=>simpa[gnA]using hq
    exact .inr ⟨m,hmM,hseti,hhas q this⟩
   ·rw[hbs]at hp
    have:p=(b0,bx):=by grind
    subst this
    exact⟨hhas _ rfl,fun q hq=>(hcok q (hbc q hq)).mono⟩
  grind[wpOp,zbm,zc4,Oper.wp,Oper.upon_skip]
 ·have hnone:∀p∈m.bs,h'.lookup p.1=none:=by
   intro p hp
   cases hl:h'.lookup p.1 with
   | none=>rfl
   | some bx=>
    grind
  obtain⟨S,M,hrf⟩:=hrel
  subst hnt
  subst hao'
  simp only at hgn hopc hdst
  subst hgn hopc
  have hwant:=zbm hg a
  obtain⟨dst,oop,type,pos,after,guard⟩:=o
  simp only at hop hd hodst hfin
  obtain⟨cargs,ats,hcall,hl⟩:=zcx hop
  subst hcall
  obtain⟨h1,h2⟩:=z1h hrf.env hl hnr
  have hc:=hac.2 w S (fun _=>none) (cargs.map a.eval) (by grind) (fun j v c hv hc=>.p (h2 j v c (by grind) hc)) ⟨fun b bx h=>(by grind),fun g m h=>(by cases h),fun b bx b' bx' h=>(by grind),fun g g' k h=>(by cases h)⟩ hrf.wr.Slt (fun _ _ h=>by cases h)
  unfold wpOp
  simp only[ho,hwant,if_true]
  refine .inl ?_
  unfold Oper.wp
  have hrun:(execOp a.eval { dst:=dst,op:=.call { callee:=.value (.func f),args:=cargs,argTypes:=ats },type:=type,pos:=pos,after:=after,guard:=guard }).run P w=.ok (.enter f (cargs.map a.eval)) w:=by
   simp only[execOp,resolve,Act.eval,Deferred.ofValue,Sem.run_bind,Sem.run_pure,Result.andThen_ok,invoke]
   have:=hac.1 (cargs.map a.eval) w
   grind
  rw[hrun,Oper.upon_enter]
  refine hc.mono fun e w' ⟨v,r,hB,S',M',clk',he,⟨hr1,hr2,hr3⟩,hC,hw⟩=>?_
  subst he hr1 hr2 hr3
  obtain⟨M2,hre,hCx⟩:=hrf.mk2 (hw 0) hC (by omega) (by omega) hnone (fun t q hq=>(hfr q (r4 t q hq)).1) (fun id bx hb=>⟨(hfr _ (r5 id bx hb).1).1,fun q hq=>(hfr q ((r5 id bx hb).2 q hq)).1⟩) hgx hgb
  have hin:∀q,q∈gnA r→m.has q:=fun q hq=>⟨hgx q hq,hC.gn q hq⟩
  refine hfin _ _ ⟨_,M2,hre.put hd hCx⟩ (fun q hq=>.inr ⟨m,hmM,hseti,hin q hq⟩) fun p hp=>?_
  have hlp:m.bs.lookup p.1=some p.2:=zel m.bs (id:=p.1) (x:=p.2) hp fun y hy=>zhg _ q6 hy hp
  have hbk:=(hw 0).heap.box _ _ hlp
  obtain⟨b1,_,mm,hmm,_⟩:=hbk
  refine⟨⟨?_,b1⟩,fun q hq=>.inr ⟨m,hmM,hseti,hgb p hp q hq,((hw 0).heap.box _ _ hlp).gn.2 q hq⟩⟩
  rcases Nat.lt_or_ge p.2.gen m.g0 with hlt | hge
  ·have:=(hw 0).ext.hM _ _ hlt hmm
   grind
  omega
theorem zs5{n c0:Nat}{h0 X:Heap}{MK:List Mk}(p1:(∀m∈MK,0≤m.i∧m.i<n∧c0≤m.g0∧m.g0+m.n≤c0+mkN MK∧(∀p∈m.bs,X.lookup p.1=m.ob∧X.lookup p.1=m.ob∧h0.lookup p.1=none)∧(m.bs.map (·.1)).Nodup))(p2:(∀m∈MK,∀m'∈MK,(m.i=m'.i∨(∃b x y,(b,x)∈m.bs∧(b,y)∈m'.bs)∨(∃g,m.has g∧m'.has g))→m=m'))
  {listed:Array Bool} {ρ:Nat→AV} {a:Act} {w:World} (hfull:∀m∈MK,listed.getD m.i false=true) (hr:RM cx X c0 MK listed ρ a w):RelR cx (c0+mkN MK) (mkH MK++X) ρ a w:=by
 obtain⟨h',⟨S,M,hrf⟩,r1,r2,r3,r4,r5⟩:=hr
 have hheap:∀id,(mkH MK++X).lookup id=h'.lookup id:=by
  intro id
  rw[zcs]
  by_cases hex:∃m∈MK,∃x,(id,x)∈m.bs
  ·obtain⟨m,hmM,x,hx⟩:=hex
   rw[r2 m hmM (hfull m hmM) (id,x) hx,zel (mkH MK) (x:=x) (znv.2 ⟨m,hmM,hx⟩) fun y hy=>?_]
   ·rfl
   grind[znv]
  ·rw[zjh (mkH MK) fun y hy=>hex (by
    grind[znv]),Option.none_or]
   cases hl:h'.lookup id with
   | none=>
    cases hl2:X.lookup id with
    | none=>rfl
    | some bx=>grind
   | some bx=>
    grind
 exact⟨S,M,hrf.heap_congr hheap⟩
theorem zo5{st:St}{MK:List Mk}{sz:Nat}(hr:Rel cx st a w):RM cx st.heap st.clk MK (Array.replicate sz false) st.env.get a { w with drawn:=w.drawn+1 }:=by
 obtain⟨S,M,hrf⟩:=hr
 refine⟨st.heap,RelR.drawn ⟨S,M,hrf.more (Nat.le_add_right _ _)⟩,fun _ _ h _=>h,fun m _ hl=>?_,fun id bx hb=>.inl hb,fun t g hg=>.inl ((hrf.env t).gn g hg),fun id bx hb=>?_⟩
 ·rw[getD_replicate_false]at hl;grind
 ·obtain⟨h1,h2⟩:=(hrf.wr.heap.box id bx hb).gn
  exact⟨.inl h1,fun g hg=>.inl (h2 g hg)⟩
theorem zlo{nt id n:Nat}{aos:List AO}{h0:Heap}{st:St}(hX0:HSub h0 st.heap){K:St→Prop}{Q:Exit→Act→World→Prop}(hnt:nt=cx.nt)(hm:P.follows .mixedOrders=true)
  (hw:∀ao∈aos.take n,ao.op.writes=true→ao.op.maker=true) (hT:Region.lexTailB .any ops n=true)
  (hres:resOpers P nt ops ops.toList=some aos) (hk:drawML P (aos.drop n) h0 st.clk st.heap (aos.take n) st.env st.heap st.clk K) (hr:Rel cx st a w) (hQ:∀st' a' w',K st'→Rel cx st' a' w'→Q .normal a' w'):(Code.region id ops true).wp P Q a w:=by
 simp only[Region.lexTailB,Bool.and_eq_true,decide_eq_true_eq]at hT
 obtain⟨⟨⟨⟨_,hn⟩,hs⟩,hc⟩,hlex⟩:=hT
 have hget':∀i o,ops[i]? = some o→∃ao,aos[i]? = some ao∧resOper P nt ops o=some ao:=fun i o ho=>za3 ops.toList aos hres i o (by grind)
 have hlen:=za4 ops.toList aos hres
 have htl:(ops.toList.take n).length=n:=by grind
 have hdl:(ops.toList.drop n).length=ops.size-n:=by simp
 have inv0:HeadInv .any ops n (Array.replicate ops.size false):=
  ⟨by simp,fun j oj _ hl=>(by rw[getD_replicate_false]at hl;grind),fun t _ ht=>getD_in (by grind) (getD_replicate_false _ _)⟩
 obtain⟨MK,p1,p2,_,p3⟩:=zo3 (P:=P) (ops:=ops) (aos:=aos) (n:=n) (h0:=h0) (X:=st.heap) (c0:=st.clk) hX0 (Fin:=fun e h clk=>runK P (aos.drop n) ⟨e,h,clk⟩ K) hw (fun i o ho=>by
  grind[zag]) (ops.toList.take n) 0 (aos.take n) st.env st.heap st.clk (fun j hj=>by
   grind) (fun j hj=>by
   grind) (by grind) (by omega) (fun _ h=>h) hk
 have hlx:=p3 MK (fun m hm=>hm) fun m hm _=>hm
 have hc0:cx.clk0≤st.clk:=by
  obtain⟨S,M,hrf⟩:=hr
  exact hrf.wr.ext.hclk
 have H:=zem (md:=.any) (g:=ops.size-n) (zo4 hget') hs hc hn (ops.toList.take n) 0 _ st.env.get (fun j hj=>by
  grind) (by omega) inv0 (fun i hi=>by omega) (by grind) hlx
 refine wp_region_any hm ?_
 have:=zb9 (P:=P) (md:=.any) (Q':=Q) (g:=ops.size-n) (F:=FM P aos n h0 st.clk MK) (R:=RM cx st.heap st.clk MK) (fun i o listed hin ho hrd ρ x a w K' hF hr hK'=>zs4 hX0 hnt hget' hc0 p1 p2 ho hrd hF hr hK') (fun listed ρ a' w' hL hr'=>by
  obtain⟨hseq,hfull,e,rfl,hrun⟩:=hL
  have hrf:=zs5 p1 p2 (fun m hm=>hfull _ (p1 m hm).2.1) hr'
  have hwl:wpList P ops Q (ops.toList.drop n) a' w':=zcy hnt _ _ ⟨e,mkH MK++st.heap,st.clk+mkN MK⟩ K a' w' (zb8 n _ _ hres) hrun hrf hQ
  grind[wpAny_of_seq]) _ _ _ a { w with drawn:=w.drawn+1 } (zo5 hr) H
 grind
theorem zo6{F:Nat→(Nat→AV)→AV→Prop}{Q:(Nat→AV)→Prop}:∀(l:List Oper) (k:Nat) (ρ:Nat→AV),lexE ops F Q l k ρ→∃ρ',Q ρ'∧lexE ops F (fun r=>r=ρ') l k ρ
 | [],_,ρ,h=>⟨ρ,h,rfl⟩
 | o::l,k,ρ,⟨x,hx,h⟩=>by
  obtain⟨ρ',h1,h2⟩:=zo6 l (k+1) _ h
  exact⟨ρ',h1,x,hx,h2⟩
theorem zlp{F F':Nat→(Nat→AV)→AV→Prop}{Q Q':(Nat→AV)→Prop}{o:Oper}(hF:∀i ρ x,F i ρ x→F' i ρ x):∀(l:List Oper) (k:Nat) (ρ:Nat→AV),(∀ρ,Q ρ→∃x,F' (k+l.length) ρ x∧Q' (upd ρ o.dst x))→lexE ops F Q l k ρ→lexE ops F' Q' (l++[o]) k ρ
 | [],k,ρ,hQ,h=>hQ ρ h
 | y::l,k,ρ,hQ,⟨x,hx,h⟩=>⟨x,hF _ _ _ hx,zlp hF l (k+1) _ (fun ρ hq=>by grind) h⟩
def FL(P:Program)(aos:List AO)(n:Nat)(h0 X:Heap)(c0:Nat)(MK:List Mk)(ao:AO)(H2:Heap)(i:Nat)(ρ:Nat→AV)(x:AV):Prop:=
 (i≠n∧FM P aos n h0 c0 MK i ρ x)∨(i=n∧x=.tup []∧stepW ao.op none ρ (mkH MK++X) (c0+mkN MK)=some (.tup [],H2,c0+mkN MK))
def RL(cx:Cx)(ops:Array Oper)(n:Nat)(X:Heap)(c0:Nat)(MK:List Mk)(H2:Heap)(listed:Array Bool)(ρ:Nat→AV)(a:Act)(w:World):Prop:=
 (listed.getD n false=false∧RM cx X c0 MK listed ρ a w) ∨
 (listed.getD n false=true∧(∀i,Region.waitsFor .any ops n i=true→listed.getD i false=true)∧RelR cx (c0+mkN MK) H2 ρ a w)
theorem zlq{nt id n:Nat}{aos:List AO}{h0:Heap}{st:St}(hX0:HSub h0 st.heap){K:St→Prop}{Q:Exit→Act→World→Prop}(hnt:nt=cx.nt)(hm:P.follows .mixedOrders=true)
  (hw:∀ao∈aos.take n,ao.op.writes=true→ao.op.maker=true) (hB:lateB ops aos n=true)
  (hres:resOpers P nt ops ops.toList=some aos) (hk:drawML P (aos.drop (n+1)) h0 st.clk st.heap (aos.take (n+1)) st.env st.heap st.clk K) (hr:Rel cx st a w) (hQ:∀st' a' w',K st'→Rel cx st' a' w'→Q .normal a' w'):(Code.region id ops true).wp P Q a w:=by
 simp only[lateB,Bool.and_eq_true]at hB
 obtain⟨⟨hT,hS⟩,hlate⟩:=hB
 simp only[Region.lexTailB,Bool.and_eq_true,decide_eq_true_eq]at hT
 obtain⟨⟨⟨⟨_,hn⟩,hs⟩,hc⟩,hlex⟩:=hT
 have hget':∀(i:Nat) (o:Oper),ops[i]? = some o→∃ao,aos[i]? = some ao∧resOper P nt ops o=some ao:=fun i o ho=>za3 ops.toList aos hres i o (by grind)
 have hlen:=za4 ops.toList aos hres
 have htl:(ops.toList.take n).length=n:=by grind
 have htl1:(ops.toList.take (n+1)).length=n+1:=by grind
 have hdl:(ops.toList.drop (n+1)).length=ops.size-(n+1):=by simp
 split at hS
 rotate_left
 ·grind
 rename_i ao hao
 simp only[Bool.and_eq_true,Option.isNone_iff_eq_none]at hS
 obtain⟨⟨hg,hd⟩,hst⟩:=hS
 have inv0:HeadInv .any ops (n+1) (Array.replicate ops.size false):=
  ⟨by simp,fun j oj _ hl=>(by rw[getD_replicate_false]at hl;grind),fun t _ ht=>getD_in (by grind) (getD_replicate_false _ _)⟩
 have htka:aos.take (n+1)=aos.take n++[ao]:=by
  rw[List.take_add_one,hao]
  rfl
 unfold drawML at hk
 rw[htka,zff]at hk
 obtain⟨MK,p1,p2,p4,p3⟩:=zo3 (P:=P) (ops:=ops) (aos:=aos) (n:=n) (h0:=h0) (X:=st.heap) (c0:=st.clk) hX0 (Fin:=fun e h clk=>drawMG P h0 st.clk st.heap (fun e h clk=>runK P (aos.drop (n+1)) ⟨e,h,clk⟩ K) [ao] e h clk) hw (fun i o ho=>by
  grind[zag]) (ops.toList.take n) 0 (aos.take n) st.env st.heap st.clk (fun j hj=>by
   grind) (fun j hj=>by
   grind) (by grind) (by omega) (fun _ h=>h) hk
 have hlx:=p3 MK (fun m hm=>hm) fun m hm _=>hm
 have hc0:cx.clk0≤st.clk:=by
  obtain⟨S,M,hrf⟩:=hr
  exact hrf.wr.ext.hclk
 obtain⟨ρe,⟨e,rfl,hrun⟩,hlx1⟩:=zo6 _ _ _ hlx
 have hn':n<ops.size:=by omega
 have hos:ops[n]? = some (ops[n]'hn'):=Array.getElem?_eq_getElem hn'
 generalize ops[n]'hn'=os at hos
 obtain⟨ao',f1,f2⟩:=hget' n os hos
 rw[hao]at f1
 cases f1
 obtain⟨op,g,hop,hgs,hao',hdst⟩:=zag f2
 subst hao'
 simp only at hg hd hst
 have hnm:op.maker=false:=by
  cases op<;>first | rfl | cases hst
 simp only[drawMG,hnm,hst]at hrun
 obtain⟨_,_,H2,hst2,hsub,hrun2⟩:=hrun
 have htk:ops.toList.take (n+1)=ops.toList.take n++[os]:=by
  grind[List.take_add_one]
 have hlx2:lexE ops (FL P aos n h0 st.heap st.clk MK ⟨os.dst,none,op⟩ H2) (fun ρ=>∃e,ρ=Env.get e∧runK P (aos.drop (n+1)) ⟨e,H2,st.clk+mkN MK⟩ K) (ops.toList.take (n+1)) 0 st.env.get:=by
  rw[htk]
  refine zlp (fun i ρ x h=>.inl ⟨by have:=h.1;omega,h⟩) _ _ _ (fun ρ hρ=>?_) hlx1
  subst hρ
  refine⟨.tup [],.inr ⟨by omega,rfl,hst2⟩,?_⟩
  rw[hd]
  exact⟨e,rfl,hrun2⟩
 have hloc:Local ops (FL P aos n h0 st.heap st.clk MK ⟨os.dst,none,op⟩ H2):=by
  intro i o ho ρ ρ' hρ x hx
  rcases hx with ⟨h1,h2⟩ | ⟨rfl,h2,h3⟩
  ·exact .inl ⟨h1,zo4 hget' i o ho ρ ρ' hρ x h2⟩
  ·refine .inr ⟨rfl,h2,?_⟩
   grind[zbz,Oper.looksAt]
 have H:=zem (md:=.any) (g:=ops.size-(n+1)) hloc hs hc hn (ops.toList.take (n+1)) 0 _ st.env.get (fun j hj=>by
  grind) (by omega) inv0 (fun i hi=>by omega) (by grind) hlx2
 refine wp_region_any hm ?_
 have hwait:∀listed:Array Bool,n∈Region.ready .any ops listed→∀i,Region.waitsFor .any ops n i=true→listed.getD i false=true:=by
  intro listed hrd i hi
  obtain⟨_,o,ho,hall⟩:=mem_ready.1 hrd
  obtain⟨oj,hj,ed,hed,hb,he⟩:=Region.waitsFor_spec hi
  grind
 have hnoisy:∀m∈MK,Region.waitsFor .any ops n m.i=true:=by
  grind
 have setne:∀(listed:Array Bool) (i j:Nat),j≠i→(listed.setIfInBounds i true).getD j false=listed.getD j false:=fun listed i j hj=>getD_set_ne false (Ne.symm hj)
 have setmono:∀(listed:Array Bool) (i j:Nat),listed.getD j false=true→(listed.setIfInBounds i true).getD j false=true:=by
  intro listed i j hj
  by_cases he:j=i
  ·have:j<listed.size:=by
    grind
   simp_all
  grind
 have:=zb9 (P:=P) (md:=.any) (Q':=Q) (g:=ops.size-(n+1)) (F:=FL P aos n h0 st.heap st.clk MK ⟨os.dst,none,op⟩ H2) (R:=RL cx ops n st.heap st.clk MK H2) (fun i o listed hin ho hrd ρ x a w K' hF hr hK'=>by
  have hun:=(mem_ready.1 hrd).1
  rcases hF with ⟨hne,hF⟩ | ⟨rfl,rfl,h3⟩
  ·rcases hr with ⟨hl,hr⟩ | ⟨hl,hcl,hr⟩
   ·exact zs4 hX0 hnt hget' hc0 p1 p2 ho hrd hF hr fun a' w' h=>hK' a' w' (.inl ⟨by grind,h⟩)
   ·obtain⟨hi,ao2,g1,g2⟩:=hF
    rcases g2 with ⟨_,m,hmM,hmi,_⟩ | ⟨_,_,hqf,_⟩
    ·have:=hcl _ (hnoisy m hmM)
     grind
    ·obtain⟨ao3,k1,k2⟩:=hget' i o ho
     rw[g1]at k1
     cases k1
     exact za6 ho hnt k2 (z0g hsub hqf) hr fun a' w' hr'=>hK' a' w' (.inr ⟨by grind,fun j hj=>setmono _ _ _ (hcl j hj),hr'⟩)
  ·rw[hos]at ho
   cases ho
   rcases hr with ⟨hl,hr⟩ | ⟨hl,_⟩
   rotate_left
   ·grind
   have hwt:=hwait listed hrd
   obtain⟨S,M,hrf⟩:=zs5 p1 p2 (fun m hmM=>hwt _ (hnoisy m hmM)) hr
   subst hnt
   rw[←hd]at h3
   obtain⟨v,w',S',M',e3,e4,e5⟩:=zcd hop hrf h3
   have hput:=e4.put hdst e5
   have hisz:i<listed.size:=by
    grind
   have hfin:K' (a.put os.dst v) w':=hK' _ _ (.inr ⟨by simp[hisz],fun j hj=>setmono _ _ _ (hwt j hj),_,_,hput⟩)
   grind[wpOp,zbm,zc4,Oper.wp,Oper.upon_skip]) (fun listed ρ a' w' hL hr'=>by
  obtain⟨hseq,hfull,e,rfl,hrun⟩:=hL
  have hrf:RelR cx (st.clk+mkN MK) H2 e.get a' w':=by
   rcases hr' with ⟨hl,_⟩ | ⟨_,_,h⟩
   all_goals grind
  have hwl:wpList P ops Q (ops.toList.drop (n+1)) a' w':=zcy hnt _ _ ⟨e,H2,st.clk+mkN MK⟩ K a' w' (zb8 (n+1) _ _ hres) hrun hrf hQ
  grind[wpAny_of_seq]) _ _ _ a { w with drawn:=w.drawn+1 } (.inl ⟨getD_replicate_false _ _,zo5 hr⟩) H
 rw[htl1,show n+1+(ops.size-(n+1))=ops.size by omega]at this
 omega
theorem znw{nt id n:Nat}{aos:List AO}{h0:Heap}{st:St}(hX0:HSub h0 st.heap){K:St→Prop}{Q:Exit→Act→World→Prop}(hnt:nt=cx.nt)(hm:P.follows .mixedOrders=true)(hB:tailM ops aos=some n∨∃k,tailS ops aos=some k∧n=k+1)
  (hres:resOpers P nt ops ops.toList=some aos) (hk:drawML P (aos.drop n) h0 st.clk st.heap (aos.take n) st.env st.heap st.clk K) (hr:Rel cx st a w) (hQ:∀st' a' w',K st'→Rel cx st' a' w'→Q .normal a' w'):(Code.region id ops true).wp P Q a w:=by
 rcases hB with hB | ⟨k,hB,rfl⟩
 ·have:=List.find?_some hB
  grind[zlo]
 ·have:=List.find?_some hB
  grind[zlq]
end
end
section
open Go.RowKit
def AWp(cx:Cx)(c:AC)(Q:Exit→St→Prop)(st:St):Prop:=
 ∀code,resCode cx.P cx.nt code=some c→cx.P.follows .mixedOrders=true→∀a w,Rel cx st a w→code.wp cx.P (fun ex a' w'=>∃st',Q ex st'∧Rel cx st' a' w') a w
section
variable{cx:Cx}{Q:Exit→St→Prop}{st:St}
theorem AWp.mono{c:AC}{Q':Exit→St→Prop}(h:AWp cx c Q st)(hq:∀ex st,Q ex st→Q' ex st):AWp cx c Q' st:=
 fun code hc hm a w hr=>wp_mono (h code hc hm a w hr) fun _ _ _ ⟨st',h1,h2⟩=>⟨st',hq _ _ h1,h2⟩
theorem zxf(h:Q .normal st):AWp cx .skip Q st:=by
 intro code hc hm a w hr
 have hcode:=hc
 cases code<;>simp only[resCode]at hc<;>try cases hc
 case skip=>exact wp_skip ⟨st,h,hr⟩
 case region id ops draw=>
  rcases zai hcode with ⟨_,l,_,h1⟩ | ⟨_,l,_,⟨n,_,h1⟩ | ⟨_,h1⟩ | ⟨n,_,h1⟩ | h1⟩<;>cases h1
 all_goals simp[Option.bind_eq_some_iff]at hc
theorem z1j{l:List AO}(h:runK cx.P l st (Q .normal)):AWp cx (.reg l) Q st:=by
 intro code hc hm a w hr
 have hcode:=hc
 cases code<;>simp only[resCode]at hc<;>try cases hc
 case region id ops draw=>
  grind[zai,wp_region_list,zcy]
 all_goals simp[Option.bind_eq_some_iff]at hc
theorem zxg{l:List DO}(h:drawK cx.P l st (Q .normal)):AWp cx (.draw l) Q st:=by
 intro code hc hm a w hr
 have hcode:=hc
 cases code<;>simp only[resCode]at hc<;>try cases hc
 case region id ops draw=>
  grind[zai,zns]
 all_goals simp[Option.bind_eq_some_iff]at hc
theorem zlr{hd tl:List AO}(h:drawTL cx.P tl hd st.env st.heap st.clk (Q .normal)):AWp cx (.drawT hd tl) Q st:=by
 intro code hc hm a w hr
 have hcode:=hc
 cases code<;>simp only[resCode]at hc<;>try cases hc
 case region id ops draw=>
  grind[zai,znt]
 all_goals simp[Option.bind_eq_some_iff]at hc
theorem zs6{hd tl:List AO}{h0:Heap}(hX0:HSub h0 st.heap)(h:drawML cx.P tl h0 st.clk st.heap hd st.env st.heap st.clk (Q .normal)):AWp cx (.drawM hd tl) Q st:=by
 intro code hc hm a w hr
 have hcode:=hc
 cases code<;>simp only[resCode]at hc<;>try cases hc
 case region id ops draw=>
  grind[zai,znw]
 all_goals simp[Option.bind_eq_some_iff]at hc
def thenK(N:St→Prop)(Q:Exit→St→Prop):Exit→St→Prop
 | .normal,st=>N st
 | ex,st=>Q ex st
theorem z1k{x y:AC}(h:AWp cx x (thenK (AWp cx y Q) Q) st):AWp cx (.seq x y) Q st:=by
 intro code hc hm a w hr
 have hcode:=hc
 cases code<;>simp only[resCode]at hc<;>try cases hc
 case seq c1 c2=>
  obtain⟨x',hx,hc1⟩:=bind_some hc
  obtain⟨y',hy,he⟩:=map_some hc1
  cases he
  refine wp_seq (wp_mono (h c1 hx hm a w hr) fun ex a' w' ⟨st',h1,h2⟩=>?_)
  cases ex with
  | normal=>exact h1 c2 hy hm a' w' h2
  | _=>exact⟨st',h1,h2⟩
 case region id ops draw=>
  rcases zai hcode with ⟨_,l,_,h1⟩ | ⟨_,l,_,⟨n,_,h1⟩ | ⟨_,h1⟩ | ⟨n,_,h1⟩ | h1⟩<;>cases h1
 all_goals simp[Option.bind_eq_some_iff]at hc
theorem zxh{c:Opd}{x y:AC}{t:Bool}(hc0:ev st.env.get c=.b t)(ht:t=true→AWp cx x Q st)(hf:t=false→AWp cx y Q st):AWp cx (.cond c x y) Q st:=by
 intro code hc hm a w hr
 have hcode:=hc
 cases code<;>simp only[resCode]at hc<;>try cases hc
 case cond o c1 c2=>
  obtain⟨p,hp,hc1⟩:=bind_some hc
  obtain⟨x',hx,hc2⟩:=bind_some hc1
  obtain⟨y',hy,he⟩:=map_some hc2
  cases he
  obtain⟨S,M,hrf⟩:=hr
  have hC:=ev_C hrf.env hp
  rw[hc0]at hC
  refine wp_cond_split hC.inv_b (fun h1=>ht h1 c1 hx hm a w ⟨S,M,hrf⟩) (fun h1=>hf h1 c2 hy hm a w ⟨S,M,hrf⟩)
 case region id ops draw=>
  rcases zai hcode with ⟨_,l,_,h1⟩ | ⟨_,l,_,⟨n,_,h1⟩ | ⟨_,h1⟩ | ⟨n,_,h1⟩ | h1⟩<;>cases h1
 all_goals simp[Option.bind_eq_some_iff]at hc
def blockK(id:Nat)(Q:Exit→St→Prop):Exit→St→Prop
 | .exit id',st=>if id'=id then Q .normal st else Q (.exit id') st
 | ex,st=>Q ex st
theorem zls{id:Nat}{c:AC}(h:AWp cx c (blockK id Q) st):AWp cx (.block id c) Q st:=by
 intro code hc hm a w hr
 have hcode:=hc
 cases code<;>simp only[resCode]at hc<;>try cases hc
 case block id' c1=>
  obtain⟨x',hx,he⟩:=map_some hc
  cases he
  refine wp_block (wp_mono (h c1 hx hm a w hr) fun ex a' w' ⟨st',h1,h2⟩=>?_)
  cases ex with
  | exit j=>
   grind[blockK,Exit.inBlock]
  | _=>exact⟨st',h1,h2⟩
 case region id ops draw=>
  rcases zai hcode with ⟨_,l,_,h1⟩ | ⟨_,l,_,⟨n,_,h1⟩ | ⟨_,h1⟩ | ⟨n,_,h1⟩ | h1⟩<;>cases h1
 all_goals simp[Option.bind_eq_some_iff]at hc
theorem zxi{id:Nat}(h:Q (.exit id) st):AWp cx (.exit id) Q st:=by
 intro code hc hm a w hr
 have hcode:=hc
 cases code<;>simp only[resCode]at hc<;>try cases hc
 case exit=>exact wp_exit ⟨st,h,hr⟩
 case region id ops draw=>
  rcases zai hcode with ⟨_,l,_,h1⟩ | ⟨_,l,_,⟨n,_,h1⟩ | ⟨_,h1⟩ | ⟨n,_,h1⟩ | h1⟩<;>cases h1
 all_goals simp[Option.bind_eq_some_iff]at hc
theorem z1l(h:Q .ret st):AWp cx .ret Q st:=by
 intro code hc hm a w hr
 have hcode:=hc
 cases code<;>simp only[resCode]at hc<;>try cases hc
 case ret=>exact wp_ret ⟨st,h,hr⟩
 case region id ops draw=>
  rcases zai hcode with ⟨_,l,_,h1⟩ | ⟨_,l,_,⟨n,_,h1⟩ | ⟨_,h1⟩ | ⟨n,_,h1⟩ | h1⟩<;>cases h1
 all_goals simp[Option.bind_eq_some_iff]at hc
theorem zs7{c:AC}(h:AWp cx c (fun ex s=>(∀l,ex≠.goto l)∧Q ex s) st):AWp cx (.scope c) Q st:=by
 intro code hc hm a w hr
 have hcode:=hc
 cases code<;>simp only[resCode]at hc<;>try cases hc
 case scope c1=>
  obtain⟨x',hx,he⟩:=Option.bind_eq_some_iff.1 hc
  rw[zg7]at he
  obtain⟨rfl,_⟩:=he
  refine wp_scope_straight (wp_mono (h c1 hx hm a w hr) fun ex a' w' ⟨st',⟨h0,h1⟩,h2⟩=>?_)
  cases ex with
  | goto l=>grind
  | _=>exact⟨st',h1,h2⟩
 case region id ops draw=>
  rcases zai hcode with ⟨_,l,_,h1⟩ | ⟨_,l,_,⟨n,_,h1⟩ | ⟨_,h1⟩ | ⟨n,_,h1⟩ | h1⟩<;>cases h1
 all_goals simp[Option.bind_eq_some_iff]at hc
theorem zs8{l:Nat}(h:Q .normal st):AWp cx (.label l) Q st:=by
 intro code hc hm a w hr
 have hcode:=hc
 cases code<;>simp only[resCode]at hc<;>try cases hc
 case label=>exact wp_label ⟨st,h,hr⟩
 case region id ops draw=>
  rcases zai hcode with ⟨_,l,_,h1⟩ | ⟨_,l,_,⟨n,_,h1⟩ | ⟨_,h1⟩ | ⟨n,_,h1⟩ | h1⟩<;>cases h1
 all_goals simp[Option.bind_eq_some_iff]at hc
theorem zxj{l:Nat}(h:Q (.goto l) st):AWp cx (.goto l) Q st:=by
 intro code hc hm a w hr
 have hcode:=hc
 cases code<;>simp only[resCode]at hc<;>try cases hc
 case goto=>exact wp_goto ⟨st,h,hr⟩
 case region id ops draw=>
  rcases zai hcode with ⟨_,l,_,h1⟩ | ⟨_,l,_,⟨n,_,h1⟩ | ⟨_,h1⟩ | ⟨n,_,h1⟩ | h1⟩<;>cases h1
 all_goals simp[Option.bind_eq_some_iff]at hc
def GQ(cx:Cx)(l:Nat)(r:AC)(Q:Exit→St→Prop):Nat→Exit→St→Prop
 | 0,_,_=>False
 | n+1,.goto j,s=>j=l∧AWp cx r (GQ cx l r Q n) s
 | _+1,ex,s=>Q ex s
theorem z1m{l:Nat}{c r:AC}(n:Nat)(h:AWp cx c (GQ cx l r Q n) st):AWp cx (.gsc l c r) Q st:=by
 intro code hc hm a w hr
 have hcode:=hc
 cases code<;>simp only[resCode]at hc<;>try cases hc
 case scope c1=>
  obtain⟨x',hx,he⟩:=Option.bind_eq_some_iff.1 hc
  rw[zg7]at he
  obtain⟨rfl,_,hrest⟩:=he
  have hl:=zf0 c1 _ l hx
  obtain⟨rest,hf,hres⟩:∃rest,findLabel c1 l=some rest∧resCode cx.P cx.nt rest=some r:=by
   grind
  intro b k cs
  have key:∀n ex s a w,GQ cx l r Q n ex s→Rel cx s a w→∀m,Arrives cx.P m b (.inScope c1::k) cs ex a w →
    ∃e a' w',(∃st',Q e st'∧Rel cx st' a' w')∧Arrives cx.P m b k cs e a' w':=by
   intro n
   induction n with
   | zero=>intro ex s a w hG;exact hG.elim
   | succ n ih=>
    intro ex s a w hG hR m harr
    cases ex with
    | goto j=>
     obtain⟨rfl,hA⟩:=hG
     obtain⟨e2,a2,w2,⟨s2,hG2,hR2⟩,harr2⟩:=hA rest hres hm a w hR b (.inScope c1::k) cs
     exact ih e2 s2 a2 w2 hG2 hR2 m (.of_steps (harr _ (by simp[gotoIn,hf])) harr2)
    | normal=>exact⟨.normal,a,w,⟨s,hG,hR⟩,Steps.trans harr (.one step_inScope)⟩
    | exit id=>exact⟨.exit id,a,w,⟨s,hG,hR⟩,fun k' hk=>harr k' (by simp[exitTo,hk])⟩
    | ret=>exact⟨_,a,w,⟨s,hG,hR⟩,harr⟩
    | panic ch=>exact⟨_,a,w,⟨s,hG,hR⟩,harr⟩
    | outgrown=>exact⟨_,a,w,⟨s,hG,hR⟩,harr⟩
  obtain⟨ex,a1,w1,⟨s1,hG1,hR1⟩,harr1⟩:=h c1 hx hm a w hr b (.inScope c1::k) cs
  obtain⟨e,a',w',hq,harr⟩:=key n ex s1 a1 w1 hG1 hR1 _ harr1
  exact⟨e,a',w',hq,.of_steps (.one step_scope) harr⟩
 case region id ops draw=>
  rcases zai hcode with ⟨_,l,_,h1⟩ | ⟨_,l,_,⟨n,_,h1⟩ | ⟨_,h1⟩ | ⟨n,_,h1⟩ | h1⟩<;>cases h1
 all_goals simp[Option.bind_eq_some_iff]at hc
structure Sub (st st':St):Prop where
 env:∀t x,st'.env.lookup t=some x→st.env.get t=x
 heap:∀b bx,st'.heap.lookup b=some bx→∃bx0,st.heap.lookup b=some bx0∧(bx=bx0∨((bx0.kind≠.str∧bx0.kind≠.mp)∧bx={ bx0 with kind:=.sh }))
 clk:st.clk≤st'.clk
theorem Rel.sub{st':St}{a:Act}{w:World}(hs:Sub st st')(hr:Rel cx st a w):Rel cx st' a w:=by
 obtain⟨S,M,hr⟩:=hr
 classical
 generalize hMb:(fun g=>if Live st'.heap g then M g else none:Map)=Mb
 have hMb1:∀g m,Mb g=some m→Live st'.heap g∧M g=some m:=by
  grind
 have hMb2:∀g,Live st'.heap g→Mb g=M g:=by grind
 have hx:Ext w S M st.clk w S Mb st'.clk:=⟨fun _ _ hs=>hs,fun _ _ _ _ hc=>hc,hs.clk,fun g m _ hm=>(hMb1 g m hm).2,fun _ _ arr _ _ _ hb=>⟨arr,hb,rfl⟩⟩
 refine⟨S,Mb,hr.size,hr.defers,fun t=>?_,⟨fun b bx hb=>?_,fun g m hm=>(hMb1 g m hm).1,fun b bx b' bx' h1 h2 hg=>?_,fun g g' k h1 h2=>hr.wr.heap.inj _ _ _ (hMb1 _ _ h1).2 (hMb1 _ _ h2).2⟩,hr.wr.ext.trans hx,hr.wr.fr,hr.wr.Snew,hr.wr.Slt,fun g k hm=>hr.wr.Mnew g k (hMb1 _ _ hm).2⟩
 ·unfold Env.get
  cases hl:st'.env.lookup t with
  | none=>exact .p (.dead _)
  | some x=>
   have:=hr.env t
   rw[hs.env t x hl]at this
   exact this.mono hx
 ·obtain⟨bx0,h0,h1⟩:=hs.heap b bx hb
  have hl:Live st'.heap bx.gen:=⟨b,bx,hb,rfl⟩
  have hbox:=hr.wr.heap.box b bx0 h0
  rcases h1 with rfl | ⟨hk,rfl⟩
  ·exact hbox.mono hx (hMb2 _ hl) (fun _ _=>rfl) fun _ _ _ hs=>hs
  ·obtain⟨b1,b2,m,hm,b3⟩:=hbox.mono hx (hMb2 bx0.gen hl) (fun _ _=>rfl) fun _ _ _ hs=>hs
   refine⟨b1,b2,m,hm,?_⟩
   cases m with
   | none=>exact⟨b3.1,by simp,by simp⟩
   | some k=>
    obtain⟨arr,e,c1,c2,c3,c4,c5⟩:=ck' hk.2 b3
    exact ck (by simp) ⟨arr,e,c1,c2,fun i r j c hi hj=>let ⟨u,d1,d2,d3,d4⟩:=c3 i r j c hi hj;⟨u,d1,d2,d3,fun _=>d4 hk.1⟩,fun hne=>absurd rfl hne,c5⟩
 ·obtain⟨bx0,h3,h4⟩:=hs.heap b bx h1
  obtain⟨bx0',h5,h6⟩:=hs.heap b' bx' h2
  have e1:bx.gen=bx0.gen:=by grind
  have e2:bx'.gen=bx0'.gen:=by grind
  exact hr.wr.heap.gens _ _ _ _ h3 h5 (by rw[←e1,←e2,hg])
theorem AWp.sub{c:AC}{st':St}(hs:Sub st st')(h:AWp cx c Q st'):AWp cx c Q st:=
 fun code hc hm a w hr=>h code hc hm a w (hr.sub hs)
end
end
section
open Go.RowKit
def resV(st:St):RV→Option AV
 | .t n=>some (st.env.get n)
 | .cell n k=>loadAV k st.heap (st.env.get n)
def readRV(tmps:Array Value):ResultVar→Sem Value
 | .tmp t=>pure (tmps.getD t undef)
 | .cell q t=>do loadVar t (←asAddr (tmps.getD q undef))
theorem zji(fn:Func)(tmps:Array Value):results fn tmps=(fn.results.mapM (readRV tmps) >>= fun vs=>pure (if h:vs.size=1 then vs[0] else .tuple vs)):=by
 unfold results
 rfl
def resAV(st:St)(rs:List RV):Option AV:=
 match rs with
 | [r]=>resV st r
 | rs=>(rs.mapM (resV st)).map .tup
section
variable{P:Program}{cx:Cx}{w:World}{S:Nat→Nat→Prop}{M:Map}{st:St}{a:Act}
theorem z1n{rs:List ResultVar}{ps:List RV}{xs:List AV}(hres:resRes P rs=some ps)(hr:RelF cx S M st.clk st.heap st.env.get a w)(hx:ps.mapM (resV st)=some xs) :
  ∃vs:List Value,(rs.mapM (readRV a.tmps)).run P w=.ok vs w∧vs.length=xs.length∧∀(j:Nat) (v:Value) (c:AV),vs[j]? = some v→xs[j]? = some c→C w S M st.clk v c:=by
 induction rs generalizing ps xs with
 | nil=>
  simp only[resRes,Option.some.injEq]at hres
  simp_all
 | cons r rs ih=>
  have step:∀(p:RV) (qs:List RV) (s:Sem Value),ps=p::qs→resRes P rs=some qs→(∀x,resV st p=some x→∃v,s.run P w=.ok v w∧C w S M st.clk v x) →
    ∃(x:AV) (ys:List AV) (v:Value) (vs:List Value),xs=x::ys∧s.run P w=.ok v w∧C w S M st.clk v x∧(rs.mapM (readRV a.tmps)).run P w=.ok vs w∧vs.length=ys.length∧∀(j:Nat) (v:Value) (c:AV),vs[j]? = some v→ys[j]? = some c→C w S M st.clk v c:=by
   intro p qs s hp hq hs
   subst hp
   simp only[List.mapM_cons,Option.bind_eq_bind,Option.pure_def]at hx
   obtain⟨x,hx1,hx2⟩:=bind_some hx
   obtain⟨ys,hx3,hx4⟩:=bind_some hx2
   grind
  cases r with
  | tmp t=>
   simp only[resRes]at hres
   obtain⟨qs,hq,hp⟩:=map_some hres
   obtain⟨x,ys,v,vs,rfl,h1,h2,h3,h4,h5⟩:=step _ qs (pure (a.tmps.getD t undef)) hp.symm hq (fun x hx=>by
    simp only[resV,Option.some.injEq]at hx
    subst hx
    exact⟨_,rfl,hr.env t⟩)
   refine⟨v::vs,?_,by grind,fun j v' c hv hc=>?_⟩
   ·grind[readRV,Sem.run_bind,Result.andThen_ok,Sem.run_pure]
   grind
  | cell q t=>
   simp only[resRes]at hres
   obtain⟨k,hk,hres1⟩:=bind_some hres
   obtain⟨qs,hq,hp⟩:=map_some hres1
   obtain⟨x,ys,v,vs,rfl,h1,h2,h3,h4,h5⟩:=step _ qs (do loadVar t (←asAddr (a.tmps.getD q undef))) hp.symm hq (fun x hx=>by
    simp only[resV]at hx
    obtain⟨v,h1,h2⟩:=zjk (P:=P) hk hr.wr.heap (hr.env q) hx
    refine⟨v,?_,h2⟩
    -- the address is one
    unfold Instr.loadAt at h1
    cases hv:a.tmps.getD q undef<;>rw[hv]at h1<;>try (simp[Instr.sureAddr,stuck]at h1;done)
    rename_i ad
    cases ad with
    | none=>simp[Instr.sureAddr,stuck]at h1
    | some ad=>simpa[Instr.sureAddr,asAddr]using h1)
   refine⟨v::vs,?_,by grind,fun j v' c hv hc=>?_⟩
   ·grind[Sem.run_bind,readRV,Result.andThen_ok,Sem.run_pure]
   grind
theorem znx{fn:Func}{ps:List RV}{x:AV}(hres:resRes P fn.results.toList=some ps)(hr:RelF cx S M st.clk st.heap st.env.get a w)(hx:resAV st ps=some x):∃v,(results fn a.tmps).run P w=.ok v w∧C w S M st.clk v x:=by
 have main:∀xs,ps.mapM (resV st)=some xs→∃vs:Array Value,(fn.results.mapM (readRV a.tmps)).run P w=.ok vs w∧vs.size=xs.length∧∀(j:Nat) (v:Value) (c:AV),vs[j]? = some v→xs[j]? = some c→C w S M st.clk v c:=by
  intro xs hxs
  obtain⟨vs,h1,h2,h3⟩:=z1n hres hr hxs
  refine⟨vs.toArray,?_,by omega,fun j v c hv hc=>h3 j v c (by grind) hc⟩
  grind[Array.mapM_eq_mapM_toList,Sem.run_map,Result.andThen_ok]
 unfold resAV at hx
 split at hx
 ·rename_i r
  obtain⟨vs,h1,h2,h3⟩:=main [x] (by simp[hx])
  have hsz:vs.size=1:=by omega
  have hv:vs[0]? = some (vs[0]'(by omega)):=Array.getElem?_eq_getElem _
  refine⟨vs[0]'(by omega),?_,h3 0 _ x hv rfl⟩
  grind[zji,Sem.run_bind,Result.andThen_ok,Sem.run_pure]
 ·rename_i hne
  obtain⟨xs,hxs,rfl⟩:=map_some hx
  obtain⟨vs,h1,h2,h3⟩:=main xs hxs
  refine⟨.tuple vs,?_,.tup vs xs h2 h3⟩
  have hsz:vs.size≠1:=by
   intro hs
   obtain⟨hl,_⟩:=zbi _ _ hxs
   rw[h2]at hs
   match ps,hl with
   | [],hl=>grind
   | [p],hl=>grind
   | p::q::r,hl=>grind
  grind[zji,Sem.run_bind,Result.andThen_ok,Sem.run_pure]
end
def exitB(rs:List RV)(post:AV→Heap→Nat→Prop):Exit→St→Prop:=
 fun ex st=>(ex=.normal∨ex=.ret)∧∃r,resAV st rs=some r∧post r st.heap st.clk
def exitP(rs:List RV)(post:AV→Prop):Exit→St→Prop:=
 fun ex st=>(ex=.normal∨ex=.ret)∧∃r y,resAV st rs=some r∧frz st.heap r=some y∧post y
def argEnv(args:List AV):Env:=args.zipIdx.map fun p=>(p.2,p.1)
theorem zqt(args:List AV)(t:Nat):(argEnv args).get t=(args[t]?).getD .dead:=by
 have key:∀(l:List AV) (k t:Nat),((l.zipIdx k).map fun p=>(p.2,p.1)).lookup t=if k≤t then l[t-k]? else none:=by
  intro l
  induction l with
  | nil=>grind
  | cons x l ih=>
   intro k t
   simp only[List.zipIdx_cons,List.map_cons,List.lookup_cons]
   grind
 unfold Env.get argEnv
 grind
section
variable{P:Program}{f:FuncId}{af:AF}{args:List AV}
theorem zlt(hf:resFn P f=some af):Enters P f:=by
 unfold resFn at hf
 split at hf
 ·rename_i fn hfn
  split at hf
  ·rename_i c hb
   obtain⟨rs,hrs,hf1⟩:=bind_some hf
   obtain⟨c',hc',hf2⟩:=bind_some hf1
   split at hf2
   ·rename_i hcond
    intro cargs w
    unfold callFunc
    simp_all
   grind
  grind
 grind
theorem zlu{hb:Heap}{clk:Nat}{post:AV→Heap→Nat→Prop}(hf:resFn P f=some af)(hm:P.follows .mixedOrders=true)(hn:args.length=af.np)
  (h:∀cx:Cx,cx.P=P→cx.nt=af.nt→cx.clk0=clk→AWp cx af.body (exitB af.res post) ⟨argEnv args,hb,clk⟩):ACall P f args hb clk post:=by
 refine⟨zlt hf,fun w S M cargs hl hC hh hS hM=>?_⟩
 unfold resFn at hf
 split at hf
 ·rename_i fn hfn
  split at hf
  ·rename_i c hbody
   obtain⟨rs,hrs,hf1⟩:=bind_some hf
   obtain⟨c',hc',hf2⟩:=bind_some hf1
   split at hf2<;>cases hf2
   rename_i hcond
   simp only at h hn
   refine calls_of_wp hfn hbody ?_
   have hwp:=h ⟨P,fn.ntmps,w,S,M,clk⟩ rfl rfl rfl c hc' hm { tmps:=cargs++Array.replicate (fn.ntmps-cargs.size) undef,defers:=[] } w ⟨S,M,?_⟩
   ·refine wp_mono hwp fun ex a' w' ⟨st',⟨hex,r,hres,hpost⟩,hrel⟩=>?_
    obtain⟨S',M',hr⟩:=hrel
    obtain⟨v,hv,hCv⟩:=znx hrs hr hres
    have hfin:∃v r h' S' M' clk',Ending.returned v=.returned v∧post r h' clk'∧C w' S' M' clk' v r∧∀nt,WRel ⟨P,nt,w,S,M,clk⟩ S' M' clk' h' w':=⟨v,r,st'.heap,S',M',st'.clk,rfl,hpost,hCv,fun nt=>⟨hr.wr.heap,hr.wr.ext,hr.wr.fr,hr.wr.Snew,hr.wr.Slt,hr.wr.Mnew⟩⟩
    have hw:∀nt,WRel ⟨P,nt,w,S,M,clk⟩ S' M' st'.clk st'.heap w':=fun nt=>⟨hr.wr.heap,hr.wr.ext,hr.wr.fr,hr.wr.Snew,hr.wr.Slt,hr.wr.Mnew⟩
    rcases hex with rfl | rfl
    ·exact⟨hr.defers,v,hv,v,r,st'.heap,S',M',st'.clk,rfl,hpost,hCv,hw⟩
    ·exact⟨hr.defers,v,hv,v,r,st'.heap,S',M',st'.clk,rfl,hpost,hCv,hw⟩
   ·refine⟨by grind,rfl,fun t=>?_,⟨hh,Ext.refl _ _ _ _,⟨rfl,rfl,rfl,Nat.le_refl _,fun _ _ _=>rfl⟩,fun k o hs=>.inl hs,hS,fun g k hm=>⟨hM g k hm,.inr ⟨g,hm⟩⟩⟩⟩
    rw[zqt]
    cases ha:args[t]? with
    | none=>exact .p (.dead _)
    | some x=>
     have htl:=zb6 ha
     have hv:cargs[t]? = some (cargs[t]'(by omega)):=Array.getElem?_eq_getElem _
     have e1:(cargs++Array.replicate (fn.ntmps-cargs.size) undef).getD t undef=cargs[t]'(by omega):=by
      simp only[Array.getD_eq_getD_getElem?]
      grind
     grind
  grind
 grind
theorem zs9{post:AV→Prop}(hf:resFn P f=some af)(hm:P.follows .mixedOrders=true)(hn:args.length=af.np)
  (h:∀cx:Cx,cx.P=P→cx.nt=af.nt→cx.clk0=1→AWp cx af.body (exitP af.res post) ⟨argEnv args,[],1⟩):PCall P f args post:=by
 have hA:ACall P f args [] 1 (fun r h _=>∃y,frz h r=some y∧post y):=
  zlu hf hm hn fun cx h1 h2 h0=>(h cx h1 h2 h0).mono fun ex st ⟨h3,r,y,h4,h5,h6⟩=>⟨h3,r,h4,y,h5,h6⟩
 refine⟨hA.1,fun w S cargs hl hC hS=>?_⟩
 refine(hA.2 w S (fun _=>none) cargs hl (fun j v c hv hc=>.p (hC j v c hv hc)) ⟨fun b bx hb=>(by grind),fun g m hm=>(by grind),fun b bx b' bx' h1=>(by grind),fun g g' k h1=>(by grind)⟩ hS (fun g k hm=>(by grind))).mono ?_
 intro e w' ⟨v,r,h',S',M',clk',he,⟨y,hy,hpost⟩,hCr,hw⟩
 have hw:=hw 0
 refine⟨v,y,he,hpost,⟨hw.fr.os,hw.fr.tape,hw.fr.output,hw.fr.size,fun k hk=>hw.fr.block k hk fun⟨g,hg⟩=>(by grind)⟩,?_⟩
 refine(z0c hw.heap hCr hy fun id hid=>hid).mono (fun k o hs=>?_) fun k o u _ hc=>hc
 rcases hs with hs | ⟨id,bx,_,_,hm,_⟩
 ·rcases hw.Snew k o hs with h1 | h1 | ⟨g,h1⟩
  ·grind
  ·exact .inr ⟨h1,hw.Slt k o hs⟩
  grind
 ·obtain⟨h1,h2⟩:=hw.Mnew _ k hm
  rcases h2 with h2 | ⟨g,h2⟩
  all_goals grind
end
end
section
open Go.RowKit
def CallD(P:Program)(ao:AO)(ρ:Nat→AV)(h0:Heap)(c0:Nat)(x:AV)(h1:Heap)(c1:Nat):Prop:=
 ao.guard=none∧∃f args,ao.op=.call f args∧(callP P f (args.map (ev ρ)) h0 (fun r h=>r=x∧h=h1∧c0=c1)∨callB P f (args.map (ev ρ)) h0 c0 (fun r h c=>r=x∧h=h1∧c=c1))
section
variable{P:Program}{ops:Array Oper}{cx:Cx}{w:World}{a:Act}
theorem CallD.congr{nt:Nat}{o:Oper}{ao:AO}{ρ ρ':Nat→AV}{h0 h1:Heap}{c0 c1:Nat}{x:AV}(hao:resOper P nt ops o=some ao)(hρ:∀t∈o.looksAt ops,ρ t=ρ' t)
  (h:CallD P ao ρ h0 c0 x h1 c1):CallD P ao ρ' h0 c0 x h1 c1:=by
 obtain⟨hg,f,args,hop,hc⟩:=h
 obtain⟨op,g,hop1,_,rfl,_⟩:=zag hao
 simp only at hop
 subst hop
 refine⟨hg,f,args,rfl,?_⟩
 obtain⟨dst,oop,type,pos,after,guard⟩:=o
 obtain⟨cargs,ats,hcall,hl⟩:=zcx hop1
 simp only at hcall
 subst hcall
 have:args.map (ev ρ)=args.map (ev ρ'):=zc6 hl fun t ht=>hρ t (by grind[Oper.looksAt,Op.operands,Call.operands])
 rw[←this]
 exact hc
theorem zcu{nt:Nat}{Q':Exit→Act→World→Prop}{i:Nat}{o:Oper}{ao:AO}{ρ:Nat→AV}{h0 h1:Heap}{c0 c1:Nat}{x:AV}{K:Act→World→Prop}(ho:ops[i]? = some o)(hnt:nt=cx.nt)
  (hao:resOper P nt ops o=some ao) (hq:CallD P ao ρ h0 c0 x h1 c1) (hr:RelR cx c0 h0 ρ a w) (hK:∀a' w',RelR cx c1 h1 (upd ρ o.dst x) a' w'→K a' w'):wpOp P ops Q' i K a w:=by
 subst hnt
 obtain⟨S,M,hr⟩:=hr
 obtain⟨hgn,f,args,hopc,hc⟩:=hq
 obtain⟨op,g,hop,hg,rfl,hd⟩:=zag hao
 simp only at hgn hopc
 subst hgn
 subst hopc
 unfold wpOp
 simp only[ho,zbm hg a,if_true]
 refine .inl ?_
 obtain⟨dst,oop,type,pos,after,guard⟩:=o
 obtain⟨cargs,ats,hcall,hl⟩:=zcx hop
 simp only at hcall
 subst hcall
 obtain⟨h1,h2⟩:=zbu hr.env _ _ hl
 have hsz:(cargs.map a.eval).size=(args.map (ev ρ)).length:=by grind
 have hC:∀(j:Nat) (v:Value) (c:AV),(cargs.map a.eval)[j]? = some v→(args.map (ev ρ))[j]? = some c→C w S M c0 v c:=
  fun j v c hv hc=>h2 j v c (by grind) hc
 have hexec:Enters P f→(execOp a.eval { dst:=dst,op:=.call { callee:=.value (.func f),args:=cargs,argTypes:=ats },type:=type,pos:=pos,after:=after,guard:=guard }).run P w=.ok (.enter f (cargs.map a.eval)) w:=by
  intro hent
  simp only[execOp,resolve,Act.eval,Deferred.ofValue,Sem.run_bind,Sem.run_pure,Result.andThen_ok,invoke]
  have:=hent (cargs.map a.eval) w
  grind
 rcases hc with hc | hc
 ·obtain⟨hent,hcl⟩:=zc2 hr hc hsz hC
  unfold Oper.wp
  rw[hexec hent,Oper.upon_enter]
  refine hcl.mono fun e w' ⟨v,r,h',S',M',he,⟨e1,e2,e3⟩,hr',hC'⟩=>?_
  subst he e1 e2 e3
  exact hK _ _ ⟨_,_,hr'.put hd hC'⟩
 obtain⟨hent,hcl⟩:=zc3 hr hc hsz hC
 unfold Oper.wp
 rw[hexec hent,Oper.upon_enter]
 refine hcl.mono fun e w' ⟨v,r,h',S',M',clk',he,⟨e1,e2,e3⟩,hr',hC'⟩=>?_
 subst he e1 e2 e3
 exact hK _ _ ⟨_,_,hr'.put hd hC'⟩
end
end
section
open Go.RowKit
def drawNL(P:Program):List (Bool×DO)→Env→Heap→Nat→List Heap→Pend→(St→Prop)→Prop
 | [],e,h,clk,_,_,K=>K ⟨e,h,clk⟩
 | (true,o)::r,e,h,clk,older,pend,K=>∃x h1 c1,CallD P o.ao e.get h clk x h1 c1∧(∀p∈pend,0<p.1→p.2 h1)∧drawNL P r (putE e o.ao.dst x) h1 c1 (h::older) (pend.map fun p=>(p.1-1,p.2)) K
 | (false,o)::r,e,h,clk,older,pend,K=>
  match o.ao.op.writes with
  | true=>o.ao.guard=none∧okK (stepW o.ao.op o.ao.dst e.get h clk) fun q=>(∀p∈pend,0<p.1→p.2 q.2.1)∧drawNL P r (putE e o.ao.dst q.1) q.2.1 q.2.2 (h::older) (pend.map fun p=>(p.1-1,p.2)) K
  | false=>qK P o.ao e h (older.take (older.length-o.lo)) fun x=>drawNL P r (putE e o.ao.dst x) h clk older ((o.hi-older.length,fun h'=>QF P h' o.ao e.get x)::pend) K
def adjD(p:Nat)(o:DO):DO:=⟨o.ao,if p<o.lo then o.lo+1 else o.lo,if p≤o.hi then o.hi+1 else o.hi⟩
def FN(P:Program)(aos:List AO)(W:List Nat)(c:Nat)(L U:Nat→Nat)(H:Nat→Heap)(C:Nat→Nat)(i:Nat)(ρ:Nat→AV)(x:AV):Prop:=
 ∃ao,aos[i]? = some ao ∧
  ((i=c∧∃p,W[p]? = some i∧CallD P ao ρ (H p) (C p) x (H (p+1)) (C (p+1))) ∨
  (i≠c∧match ao.op.writes with
  | true=>ao.guard=none∧∃p,W[p]? = some i∧stepW ao.op ao.dst ρ (H p) (C p)=some (x,H (p+1),C (p+1))
  | false=>∀j,L i≤j→j≤U i→QF P (H j) ao ρ x))
section
variable{P:Program}{ops:Array Oper}
theorem ztr{aos:List AO}{K:St→Prop}{W:List Nat}{c:Nat}{L U:Nat→Nat}(hsort:W.Pairwise (· < ·))(hmem:∀k,k∈W↔∃ao,aos[k]? = some ao∧(ao.op.writes=true∨k=c))
  (hdst:∀(i:Nat) (o:Oper),ops[i]? = some o→∃ao:AO,aos[i]? = some ao∧ao.dst=o.dst) :
  ∀(l:List Oper) (k:Nat) (rest:List AO) (e:Env) (h:Heap) (clk:Nat) (older:List Heap) (oc:List Nat) (pend:Pend),(∀i,l[i]? = ops[k+i]?)→(∀i,rest[i]? = aos[k+i]?)→l.length=rest.length→oc.length=older.length →
   older.length≤W.length→(∀m v,W[m]? = some v→(v<k↔m<older.length)) →
   drawNL P ((rest.zipIdx k).map fun p=>(decide (p.2=c),⟨p.1,L p.2,U p.2⟩)) e h clk older pend K →
   ∃(H:Nat→Heap) (C:Nat→Nat),(∀m x,older.reverse[m]? = some x→H m=x)∧(∀m x,oc.reverse[m]? = some x→C m=x)∧H older.length=h∧C older.length=clk∧(∀p∈pend,∀j,older.length<j→j≤older.length+p.1→j≤W.length→p.2 (H j)) ∧
    lexE ops (FN P aos W c L (fun i=>min (U i) W.length) H C) (fun ρ=>∃e,ρ=Env.get e∧K ⟨e,H W.length,C W.length⟩) l k e.get
 | [],k,rest,e,h,clk,older,oc,pend,hl,hr,hlen,hoc,hle,hws,hk=>by
  have:rest=[]:=by grind
  subst this
  simp only[List.zipIdx_nil,List.map_nil,drawNL]at hk
  have hfull:older.length=W.length:=by
   rcases Nat.lt_or_ge older.length W.length with hlt | hge
   ·have hx:W[older.length]? = some (W[older.length]'hlt):=List.getElem?_eq_getElem hlt
    have h1:=(hws _ _ hx)
    have hm:(W[older.length]'hlt)∈W:=List.getElem_mem _
    obtain⟨ao,h2,_⟩:=(hmem _).1 hm
    have h4:=hr ((W[older.length]'hlt)-k)
    grind
   omega
  refine⟨fun m=>if m=older.length then h else (older.reverse[m]?).getD [],fun m=>if m=older.length then clk else (oc.reverse[m]?).getD 0,fun m x hx=>?_,fun m x hx=>?_,by simp,by simp,fun p _ j h1 _ h3=>by omega,⟨e,rfl,?_⟩⟩
  all_goals grind
 | o::l,k,rest,e,h,clk,older,oc,pend,hl,hr,hlen,hoc,hle,hws,hk=>by
  cases rest with
  | nil=>grind
  | cons ao rest=>
   have ho:ops[k]? = some o:=by simpa using (hl 0).symm
   have hao:aos[k]? = some ao:=by simpa using (hr 0).symm
   obtain⟨ao',h1,hd⟩:=hdst k o ho
   rw[hao]at h1
   cases h1
   have hl':∀i,l[i]? = ops[(k+1)+i]? := fun i=>by have:=hl (i+1);grind
   have hr':∀i,rest[i]? = aos[(k+1)+i]? := fun i=>by have:=hr (i+1);grind
   have hlen':l.length=rest.length:=by grind
   simp only[List.zipIdx_cons,List.map_cons]at hk
   -- the operation writes,or is the call
   have wr:∀(x:AV) (h':Heap) (clk':Nat),(ao.op.writes=true∨k=c) →
     (∀(H:Nat→Heap) (C:Nat→Nat) (p:Nat),W[p]? = some k→H p=h→C p=clk→H (p+1)=h'→C (p+1)=clk'→FN P aos W c L (fun i=>min (U i) W.length) H C k e.get x) →
     (∀p∈pend,0<p.1→p.2 h') →
     drawNL P ((rest.zipIdx (k+1)).map fun p=>(decide (p.2=c),⟨p.1,L p.2,U p.2⟩)) (putE e ao.dst x) h' clk' (h::older) (pend.map fun p=>(p.1-1,p.2)) K →
     ∃(H:Nat→Heap) (C:Nat→Nat),(∀m x,older.reverse[m]? = some x→H m=x)∧(∀m x,oc.reverse[m]? = some x→C m=x)∧H older.length=h∧C older.length=clk∧(∀p∈pend,∀j,older.length<j→j≤older.length+p.1→j≤W.length→p.2 (H j)) ∧
      lexE ops (FN P aos W c L (fun i=>min (U i) W.length) H C) (fun ρ=>∃e,ρ=Env.get e∧K ⟨e,H W.length,C W.length⟩) (o::l) k e.get:=by
    intro x h' clk' hwr hF hpd hk2
    have hkm:k∈W:=(hmem k).2 ⟨ao,hao,hwr⟩
    obtain⟨m,hm⟩:=List.getElem?_of_mem hkm
    have hmo:m=older.length:=by
     have h1:=hws m k hm
     have h2:¬ m<older.length:=fun hh=>Nat.lt_irrefl k (h1.2 hh)
     rcases Nat.lt_or_ge older.length m with h3 | h3
     ·have hlt:older.length<W.length:=by grind
      have hx:W[older.length]? = some (W[older.length]'hlt):=List.getElem?_eq_getElem hlt
      grind[zbn]
     omega
    subst hmo
    obtain⟨H,C,hH,hC,hHe,hCe,hPe,hlex⟩:=ztr (K:=K) hsort hmem hdst l (k+1) rest (putE e ao.dst x) h' clk' (h::older) (clk::oc) (pend.map fun p=>(p.1-1,p.2)) hl' hr' hlen' (by grind) (by grind) (fun m v hv=>by
     grind[zbn]) hk2
    have hHo:H older.length=h:=hH older.length h (by simp)
    have hCo:C older.length=clk:=hC older.length clk (by simp[←hoc])
    refine⟨H,C,fun m x hx=>hH m x ?_,fun m x hx=>hC m x ?_,hHo,hCo,fun p hp j h1 h2 h3=>?_,?_⟩
    ·grind
    ·grind
    ·simp only[List.length_cons]at hHe hPe
     rcases Nat.lt_or_ge (older.length+1) j with h4 | h4
     ·exact hPe (p.1-1,p.2) (List.mem_map.2 ⟨p,hp,rfl⟩) j h4 (by omega) h3
     have hj:j=older.length+1:=by omega
     rw[hj,hHe]
     exact hpd p hp (by omega)
    ·refine⟨x,hF H C older.length hm hHo hCo hHe hCe,?_⟩
     rw[←hd,←zb7]
     exact hlex
   by_cases hkc:k=c
   ·rw[show decide (k=c)=true from decide_eq_true hkc]at hk
    obtain⟨x,h',clk',hcd,hpd,hk2⟩:=hk
    refine wr x h' clk' (.inr hkc) (fun H C p hp e1 e2 e3 e4=>⟨ao,hao,.inl ⟨hkc,p,hp,?_⟩⟩) hpd hk2
    rw[e1,e2,e3,e4]
    exact hcd
   ·rw[show decide (k=c)=false from decide_eq_false hkc]at hk
    simp only[drawNL]at hk
    cases hwr:ao.op.writes with
    | true=>
     rw[hwr]at hk
     simp only at hk
     obtain⟨hgn,⟨x,h',clk'⟩,hst,hpd,hk2⟩:=hk
     refine wr x h' clk' (.inl hwr) (fun H C p hp e1 e2 e3 e4=>⟨ao,hao,.inr ⟨hkc,?_⟩⟩) hpd hk2
     rw[hwr]
     exact⟨hgn,p,hp,by rw[e1,e2,e3,e4];exact hst⟩
    | false=>
     rw[hwr]at hk
     obtain⟨x,hq1,hq2,hk2⟩:=zqr hwr hk
     have hkm:k∉W:=fun hm=>by
      obtain⟨ao2,h1,h2⟩:=(hmem k).1 hm
      grind
     obtain⟨H,C,hH,hC,hHe,hCe,hPe,hlex⟩:=ztr (K:=K) hsort hmem hdst l (k+1) rest (putE e ao.dst x) h clk older oc ((U k-older.length,fun h'=>QF P h' ao e.get x)::pend) hl' hr' hlen' hoc hle (fun m v hv=>by
      have:=hws m v hv
      have hvk:v≠k:=fun he=>hkm (he▸List.mem_of_getElem? hv)
      omega) hk2
     refine⟨H,C,hH,hC,hHe,hCe,fun p hp=>hPe p (List.mem_cons_of_mem _ hp),x,⟨ao,hao,.inr ⟨hkc,?_⟩⟩,?_⟩
     ·rw[hwr]
      intro j hlo hhi
      replace hhi:j≤min (U k) W.length:=hhi
      cases hfr:ao.op.freeE e.get with
      | true=>exact zkg hfr h _ hq1
      | false=>
       rcases Nat.lt_or_ge j older.length with hj | hj
       ·have hx:older.reverse[j]? = some (older.reverse[j]'(by grind)):=List.getElem?_eq_getElem _
        rw[hH j _ hx]
        have hx2:(older.take (older.length-L k))[older.length-1-j]? = some (older[older.length-1-j]'(by omega)):=by
         grind
        grind
       ·rcases Nat.lt_or_ge older.length j with hj2 | hj2
        ·exact hPe _ (List.mem_cons_self ..) j hj2 (by simp only;omega) (by omega)
        have hj3:j=older.length:=by omega
        rw[hj3,hHe]
        exact hq1
     ·rw[←hd,←zb7]
      exact hlex
end
end
section
open Go.RowKit
def drawCL(P:Program)(tl:List AO)(h0:Heap)(c0:Nat)(h1:Heap)(c1:Nat)(K:St→Prop):Bool→List AO→Env→Prop
 | b,[],e=>b=true∧runK P tl ⟨e,h1,c1⟩ K
 | b,o::r,e=>(∃x,QF P h0 o e.get x∧QF P h1 o e.get x∧drawCL P tl h0 c0 h1 c1 K b r (putE e o.dst x)) ∨
   (b=false∧∃x,CallD P o e.get h0 c0 x h1 c1∧drawCL P tl h0 c0 h1 c1 K true r (putE e o.dst x))
def FC(P:Program)(aos:List AO)(n c:Nat)(h0:Heap)(c0:Nat)(h1:Heap)(c1:Nat)(i:Nat)(ρ:Nat→AV)(x:AV):Prop:=
 i<n∧∃ao,aos[i]? = some ao∧((i≠c∧QF P h0 ao ρ x∧QF P h1 ao ρ x)∨(i=c∧CallD P ao ρ h0 c0 x h1 c1))
section
variable{P:Program}{ops:Array Oper}{cx:Cx}{w:World}{a:Act}
theorem ztp{aos tl:List AO}{n c:Nat}{h0 h1:Heap}{c0 c1:Nat}{K:St→Prop}(hdst:∀(i:Nat) (o:Oper),ops[i]? = some o→∃ao:AO,aos[i]? = some ao∧ao.dst=o.dst) :
  ∀(l:List Oper) (k:Nat) (rest:List AO) (e:Env),(∀j,j<l.length→l[j]? = ops[k+j]?)→(∀j,j<rest.length→rest[j]? = aos[k+j]?)→l.length=rest.length→k+l.length=n→c<k →
   drawCL P tl h0 c0 h1 c1 K true rest e→lexE ops (FC P aos n c h0 c0 h1 c1) (fun ρ=>∃e,ρ=Env.get e∧runK P tl ⟨e,h1,c1⟩ K) l k e.get
 | [],k,rest,e,_,_,hlen,_,_,hk=>by
  have:rest=[]:=List.eq_nil_of_length_eq_zero (by simpa using hlen.symm)
  subst this
  exact⟨e,rfl,hk.2⟩
 | o::l,k,rest,e,hl,hr,hlen,hkn,hck,hk=>by
  cases rest with
  | nil=>simp at hlen
  | cons ao rest=>
   have ho:ops[k]? = some o:=by simpa using (hl 0 (by simp)).symm
   have hao:aos[k]? = some ao:=by simpa using (hr 0 (by simp)).symm
   obtain⟨ao',h2,hd⟩:=hdst k o ho
   rw[hao]at h2
   cases h2
   simp only[List.length_cons]at hkn
   rcases hk with ⟨x,hq0,hq1,hk2⟩ | ⟨hb,_⟩
   ·refine⟨x,⟨by omega,ao,hao,.inl ⟨by omega,hq0,hq1⟩⟩,?_⟩
    rw[←hd,←zb7]
    exact ztp hdst l (k+1) rest _ (fun j hj=>by have:=hl (j+1) (by simp;omega);simpa[Nat.add_assoc,Nat.add_comm 1 j]using this) (fun j hj=>by have:=hr (j+1) (by simp;omega);simpa[Nat.add_assoc,Nat.add_comm 1 j]using this) (by simpa using hlen) (by omega) (by omega) hk2
   ·cases hb
theorem ztq{aos tl:List AO}{n:Nat}{h0 h1:Heap}{c0 c1:Nat}{K:St→Prop}(hdst:∀(i:Nat) (o:Oper),ops[i]? = some o→∃ao:AO,aos[i]? = some ao∧ao.dst=o.dst) :
  ∀(l:List Oper) (k:Nat) (rest:List AO) (e:Env),(∀j,j<l.length→l[j]? = ops[k+j]?)→(∀j,j<rest.length→rest[j]? = aos[k+j]?)→l.length=rest.length→k+l.length=n →
   drawCL P tl h0 c0 h1 c1 K false rest e→∃c,k≤c∧c<n∧lexE ops (FC P aos n c h0 c0 h1 c1) (fun ρ=>∃e,ρ=Env.get e∧runK P tl ⟨e,h1,c1⟩ K) l k e.get
 | [],k,rest,e,_,_,hlen,_,hk=>by
  have:rest=[]:=List.eq_nil_of_length_eq_zero (by simpa using hlen.symm)
  subst this
  cases hk.1
 | o::l,k,rest,e,hl,hr,hlen,hkn,hk=>by
  cases rest with
  | nil=>simp at hlen
  | cons ao rest=>
   have ho:ops[k]? = some o:=by simpa using (hl 0 (by simp)).symm
   have hao:aos[k]? = some ao:=by simpa using (hr 0 (by simp)).symm
   obtain⟨ao',h2,hd⟩:=hdst k o ho
   rw[hao]at h2
   cases h2
   simp only[List.length_cons]at hkn
   have hl':∀j,j<l.length→l[j]? = ops[k+1+j]? := fun j hj=>by have:=hl (j+1) (by simp;omega);simpa[Nat.add_assoc,Nat.add_comm 1 j]using this
   have hlen':l.length=rest.length:=by simpa using hlen
   have hr':∀j,j<rest.length→rest[j]? = aos[k+1+j]? := fun j hj=>by have:=hr (j+1) (by simp;omega);simpa[Nat.add_assoc,Nat.add_comm 1 j]using this
   rcases hk with ⟨x,hq0,hq1,hk2⟩ | ⟨_,x,hq,hk2⟩
   ·obtain⟨c,hc1,hc2,hx⟩:=ztq (n:=n) hdst l (k+1) rest _ hl' hr' hlen' (by omega) hk2
    refine⟨c,by omega,hc2,x,⟨by omega,ao,hao,.inl ⟨by omega,hq0,hq1⟩⟩,?_⟩
    rw[←hd,←zb7]
    exact hx
   ·have hkn':k<n:=by omega
    refine⟨k,Nat.le_refl k,hkn',x,⟨hkn',ao,hao,.inr ⟨rfl,hq⟩⟩,?_⟩
    rw[←hd,←zb7]
    exact ztp hdst l (k+1) rest _ hl' hr' hlen' (by omega) (by omega) hk2
theorem zn2{nt id n:Nat}{aos:List AO}{st:St}{h1:Heap}{c1:Nat}{K:St→Prop}{Q:Exit→Act→World→Prop}(hnt:nt=cx.nt)(hm:P.follows .mixedOrders=true)(hB:tailOf ops aos=some n)
  (hres:resOpers P nt ops ops.toList=some aos) (hk:drawCL P (aos.drop n) st.heap st.clk h1 c1 K false (aos.take n) st.env) (hr:Rel cx st a w) (hQ:∀st' a' w',K st'→Rel cx st' a' w'→Q .normal a' w'):(Code.region id ops true).wp P Q a w:=by
 obtain⟨hw,hT⟩:=zhd hB
 simp only[Region.lexTailB,Bool.and_eq_true,decide_eq_true_eq]at hT
 obtain⟨⟨⟨⟨_,hn⟩,hs⟩,hc⟩,hlex⟩:=hT
 have hget':∀i o,ops[i]? = some o→∃ao,aos[i]? = some ao∧resOper P nt ops o=some ao:=fun i o ho=>za3 ops.toList aos hres i o (by grind)
 have hlen:=za4 ops.toList aos hres
 have htl:(ops.toList.take n).length=n:=by grind
 have hdl:(ops.toList.drop n).length=ops.size-n:=by simp
 have inv0:HeadInv .any ops n (Array.replicate ops.size false):=
  ⟨by simp,fun j oj _ hl=>(by rw[getD_replicate_false]at hl;grind),fun t _ ht=>getD_in (by grind) (getD_replicate_false _ _)⟩
 obtain⟨c,_,hcn,hlx⟩:=ztq (P:=P) (ops:=ops) (aos:=aos) (tl:=aos.drop n) (n:=n) (h0:=st.heap) (c0:=st.clk) (h1:=h1) (c1:=c1) (K:=K) (fun i o ho=>by
  grind[zag]) (ops.toList.take n) 0 (aos.take n) st.env (fun j hj=>by
   grind) (fun j hj=>by
   grind) (by grind) (by omega) hk
 have hloc:Local ops (FC P aos n c st.heap st.clk h1 c1):=by
  intro i o ho ρ ρ' hρ x ⟨hin,ao,hao,hq⟩
  obtain⟨ao',e1,e2⟩:=hget' i o ho
  rw[hao]at e1
  cases e1
  refine⟨hin,ao,hao,?_⟩
  have quiet:∀h,QF P h ao ρ x→QF P h ao ρ' x:=by
   intro h hq
   obtain⟨op,g,hop,hg,rfl,_⟩:=zag e2
   have hops:∀t,Operand.tmp t∈o.op.operands.toList→ρ t=ρ' t:=fun t ht=>hρ t (by
    grind[Oper.looksAt])
   clear hk hlx hlex hQ hr hm hw hB
   unfold QF at hq ⊢
   cases g with
   | none=>exact(zbv hop hops).1 hq
   | some tw=>
    grind[resGuard,map_some,Oper.looksAt,zbv]
  rcases hq with ⟨h1,h2,h3⟩ | ⟨h1,h2⟩
  ·exact .inl ⟨h1,quiet _ h2,quiet _ h3⟩
  ·exact .inr ⟨h1,h2.congr e2 hρ⟩
 obtain⟨S,M,hrf⟩:=hr
 have H:=zem (md:=.any) (g:=ops.size-n) hloc hs hc hn (ops.toList.take n) 0 _ st.env.get (fun j hj=>by
  grind) (by omega) inv0 (fun i hi=>by omega) (by grind) hlx
 refine wp_region_any hm ?_
 have:=zb9 (P:=P) (md:=.any) (Q':=Q) (g:=ops.size-n) (F:=FC P aos n c st.heap st.clk h1 c1) (R:=fun listed ρ a w=>if listed.getD c false=true then RelR cx c1 h1 ρ a w else RelR cx st.clk st.heap ρ a w) (fun i o listed hin ho hrd ρ x a w K' ⟨_,ao,hao,hq⟩ hr hK'=>by
  obtain⟨ao',e1,e2⟩:=hget' i o ho
  rw[hao]at e1
  cases e1
  have hun:=(mem_ready.1 hrd).1
  rcases hq with ⟨hic,hq0,hq1⟩ | ⟨rfl,hq⟩
  ·rw[getD_set_ne false hic]at hK'
   by_cases hl:listed.getD c false=true
   ·rw[if_pos hl]at hr
    simp only[hl,if_true]at hK'
    exact za6 ho hnt e2 hq1 hr hK'
   ·rw[if_neg hl]at hr
    simp only[hl,if_false]at hK'
    exact za6 ho hnt e2 hq0 hr hK'
  ·have hl:¬ listed.getD i false=true:=by grind
   rw[if_neg hl]at hr
   have hset:(listed.setIfInBounds i true).getD i false=true:=by
    have hlt:i<listed.size:=by grind
    simp[hlt]
   simp only[hset,if_true]at hK'
   exact zcu ho hnt e2 hq hr hK') (fun listed ρ a' w' hL hr'=>by
  obtain⟨hseq,hfull,e,rfl,hrun⟩:=hL
  rw[if_pos (hfull c hcn)]at hr'
  have hwl:wpList P ops Q (ops.toList.drop n) a' w':=zcy hnt _ _ ⟨e,h1,c1⟩ K a' w' (zb8 n _ _ hres) hrun hr' hQ
  grind[wpAny_of_seq]) _ _ _ a { w with drawn:=w.drawn+1 } (by rw[getD_replicate_false];exact RelR.drawn ⟨S,M,hrf⟩) H
 grind
end
end
section
open Go.RowKit
def writersC(c:Nat)(l:List AO):List Nat:=(l.zipIdx.filter fun p=>p.1.op.writes || p.2 == c).map (·.2)
section
variable{P:Program}{ops:Array Oper}{cx:Cx}{w:World}{a:Act}
theorem zl5(c:Nat)(l:List AO)(k:Nat):k∈writersC c l↔∃ao,l[k]? = some ao∧(ao.op.writes=true∨k=c):=by
 unfold writersC
 simp only[List.mem_map,List.mem_filter]
 constructor
 ·grind
 ·rintro⟨ao,h1,h2⟩
  exact⟨(ao,k),⟨by grind,by grind⟩,rfl⟩
theorem zhs(c:Nat)(l:List AO):(writersC c l).Pairwise (· < ·):=by
 unfold writersC
 rw[List.pairwise_map]
 have key:∀(l:List AO) (k:Nat),(l.zipIdx k).Pairwise (fun a b=>a.2<b.2):=by
  intro l
  induction l with
  | nil=>simp_all
  | cons x l ih=>
   grind[List.zipIdx_cons,List.pairwise_cons]
 exact(key l 0).filter _
theorem zgn{l:List Nat}(h:l.Pairwise (· < ·)):l.Nodup:=h.imp fun h=>Nat.ne_of_lt h
theorem zht(he:∀(i:Nat) (o:Oper),ops[i]? = some o→∀e∈o.after,Region.binds .any e=true→e.on<i):∀(n u v:Nat),precedes ops n u v=true→u<v
 | 0,_,_,h=>by cases h
 | n+1,u,v,h=>by
  simp only[precedes]at h
  split at h
  ·cases h
  ·rename_i o ho
   obtain⟨e,h1,hb⟩:=Array.any_eq_true'.1 h
   simp only[Bool.and_eq_true,Bool.or_eq_true,beq_iff_eq]at hb
   have h2:=he v o ho e h1 hb.1
   rcases hb.2 with h3 | h3
   ·omega
   ·have:=zht he n u e.on h3
    omega
theorem zl6{f g:Nat→Bool}:∀(ws:List Nat),(∀v∈ws,f v=true→g v=true)→(ws.filter f).length=(ws.filter g).length→∀v∈ws,g v=true→f v=true
 | [],_,_,v,hv,_=>by cases hv
 | x::ws,h,hl,v,hv,hg=>by
  have hle:=zcm ws fun v hv=>h v (List.mem_cons_of_mem _ hv)
  have ih:=zl6 ws fun v hv=>h v (List.mem_cons_of_mem _ hv)
  have hx:=h x List.mem_cons_self
  simp only[List.filter_cons]at hl
  cases hfx:f x<;>cases hgx:g x<;>simp only[hfx,hgx,Bool.false_eq_true,if_false,if_true,List.length_cons]at hl hx
  all_goals grind
theorem zn3{nt id p:Nat}{aos:List AO}{l1 l2:List DO}{oc:AO}{st:St}{K:St→Prop}{Q:Exit→Act→World→Prop}(hnt:nt=cx.nt)(hm:P.follows .mixedOrders=true)(hB:drawOk ops aos=true)
  (hres:resOpers P nt ops ops.toList=some aos) (hd:drawOf ops aos=l1 ++ ⟨oc,p,p⟩::l2) (hcw:oc.op.writes=false)
  (hk:drawNL P (l1.map (fun o=>(false,adjD p o))++(true,⟨oc,p,p⟩)::l2.map (fun o=>(false,adjD p o))) st.env st.heap st.clk [] [] K) (hr:Rel cx st a w) (hQ:∀st' a' w',K st'→Rel cx st' a' w'→Q .normal a' w'):(Code.region id ops true).wp P Q a w:=by
 have hget':∀i o,ops[i]? = some o→∃ao,aos[i]? = some ao∧resOper P nt ops o=some ao:=fun i o ho=>za3 ops.toList aos hres i o (by grind)
 have hlen:=za4 ops.toList aos hres
 obtain⟨S,M,hrf⟩:=hr
 have hok:=hB
 unfold drawOk at hB
 simp only[Bool.and_eq_true,List.all_eq_true]at hB
 obtain⟨⟨hlexB,hch⟩,hall⟩:=hB
 generalize hws:writersOf aos=ws at *
 -- the list of the operations,and the call among them
 have hdi:∀i,(l1 ++ ⟨oc,p,p⟩::l2)[i]? = aos[i]?.map fun x=>(⟨x,lowOf ops ws i,highOf ops ws i⟩:DO):=by
  intro i
  rw[←hd]
  unfold drawOf
  rw[hws]
  simp only[List.getElem?_map,List.getElem?_zipIdx,Option.map_map]
  cases aos[i]?<;>simp
 generalize hc0:l1.length=c at *
 have hcc:(l1++(⟨oc,p,p⟩:DO)::l2)[c]? = some ⟨oc,p,p⟩:=by
  rw[←hc0,List.getElem?_append_right (Nat.le_refl _)]
  simp
 have hao:aos[c]? = some oc∧lowOf ops ws c=p∧highOf ops ws c=p:=by
  have h1:=hdi c
  rw[hcc]at h1
  cases h2:aos[c]? with
  | none=>rw[h2]at h1;cases h1
  | some x=>
   rw[h2]at h1
   simp only[Option.map_some,Option.some.injEq,DO.mk.injEq]at h1
   obtain⟨rfl,e2,e3⟩:=h1
   exact⟨rfl,e2.symm,e3.symm⟩
 obtain⟨haoc,hlow,hhigh⟩:=hao
 generalize hL:(fun i=>if i=c then p else if p<lowOf ops ws i then lowOf ops ws i+1 else lowOf ops ws i)=L
 generalize hU:(fun i=>if i=c then p else if p≤highOf ops ws i then highOf ops ws i+1 else highOf ops ws i)=U
 have hlist:(l1.map (fun o=>(false,adjD p o))++(true,(⟨oc,p,p⟩:DO))::l2.map (fun o=>(false,adjD p o)))=(aos.zipIdx 0).map fun q=>(decide (q.2=c),(⟨q.1,L q.2,U q.2⟩:DO)):=by
  refine List.ext_getElem? fun i=>?_
  have h1:=hdi i
  simp only[List.getElem?_map,List.getElem?_zipIdx,Option.map_map,Nat.zero_add]
  rcases Nat.lt_trichotomy i c with h2 | h2 | h2
  ·rw[List.getElem?_append_left (by first | omega | (simp;omega))]at h1 ⊢
   simp only[List.getElem?_map]
   rw[h1]
   cases aos[i]? with
   | none=>rfl
   | some x=>
    have h3:¬ i=c:=by omega
    simp[adjD,←hL,←hU,h3]
  ·subst h2
   rw[haoc,List.getElem?_append_right (by first | omega | (simp;omega))]
   simp[hc0,←hL,←hU]
  ·rw[List.getElem?_append_right (by first | omega | (simp;omega))]at h1 ⊢
   simp only[List.length_map,hc0]at h1 ⊢
   rw[show i-c=(i-c-1)+1 by omega,List.getElem?_cons_succ]at h1 ⊢
   simp only[List.getElem?_map]
   rw[h1]
   cases aos[i]? with
   | none=>rfl
   | some x=>
    have h3:¬ i=c:=by omega
    simp[adjD,←hL,←hU,h3]
 rw[hlist]at hk
 -- the operations that write,and the call
 generalize hW:writersC c aos=W at *
 have hsort:W.Pairwise (· < ·):=hW▸zhs c aos
 have hmemW:∀k,k∈W↔∃ao,aos[k]? = some ao∧(ao.op.writes=true∨k=c):=fun k=>by rw[←hW];exact zl5 c aos k
 have hmem:∀k,k∈ws↔∃ao,aos[k]? = some ao∧ao.op.writes=true:=fun k=>by rw[←hws];exact zby aos k
 have hsortw:ws.Pairwise (· < ·):=hws▸zdg aos
 have hcws:c∉ws:=fun h=>by
  obtain⟨ao,h1,h2⟩:=(hmem c).1 h
  rw[haoc]at h1
  cases h1
  rw[hcw]at h2
  cases h2
 have hperm:W.Perm (c::ws):=by
  refine(List.perm_ext_iff_of_nodup (zgn hsort) (List.nodup_cons.2 ⟨hcws,zgn hsortw⟩)).2 fun k=>?_
  rw[hmemW,List.mem_cons,hmem]
  constructor
  ·rintro⟨ao,h1,h2 | h2⟩
   ·exact .inr ⟨ao,h1,h2⟩
   ·exact .inl h2
  ·rintro(rfl | ⟨ao,h1,h2⟩)
   ·exact⟨oc,haoc,.inr rfl⟩
   ·exact⟨ao,h1,.inl h2⟩
 have hcntW:∀listed:Array Bool,cnt W listed=cnt ws listed+if listed.getD c false=true then 1 else 0:=by
  intro listed
  unfold cnt
  rw[(hperm.filter _).length_eq,List.filter_cons]
  split<;>simp
 have hedge:=zlj hlexB
 have hside:∀v∈ws,precedes ops ops.size v c=true∨precedes ops ops.size c v=true:=by
  intro v hv
  by_cases h1:precedes ops ops.size c v=true
  ·exact .inr h1
  ·refine .inl (zl6 (f:=fun v=>precedes ops ops.size v c) (g:=fun v=>!precedes ops ops.size c v) ws (fun v _ h2=>?_) (by
    rw[show (ws.filter fun v=>precedes ops ops.size v c).length=p from hlow,show (ws.filter fun v=>!precedes ops ops.size c v).length=p from hhigh]) v hv (by simp[h1]))
   cases h3:precedes ops ops.size c v with
   | false=>rfl
   | true=>
    have h4:=zht hedge _ _ _ h2
    have h5:=zht hedge _ _ _ h3
    omega
 -- what stands ahead of one of them is done ahead of it
 have ord:∀(listed:Array Bool),Clo .any ops listed→∀u v,u∈W→v∈W→u<v→(listed.getD v false=true∨v∈Region.ready .any ops listed)→listed.getD u false=true:=by
  intro listed hc u v hu hv huv hl
  by_cases huc:u=c
  ·subst huc
   have hvw:v∈ws:=by
    obtain⟨ao,h1,h2⟩:=(hmemW v).1 hv
    exact(hmem v).2 ⟨ao,h1,by rcases h2 with h2 | h2<;>omega⟩
   rcases hside v hvw with h1 | h1
   ·have:=zht hedge _ _ _ h1
    omega
   ·exact za0 hc _ _ _ hl h1
  ·have huw:u∈ws:=by
    obtain⟨ao,h1,h2⟩:=(hmemW u).1 hu
    exact(hmem u).2 ⟨ao,h1,by rcases h2 with h2 | h2<;>omega⟩
   by_cases hvc:v=c
   ·subst hvc
    rcases hside u huw with h1 | h1
    ·exact za0 hc _ _ _ hl h1
    ·have:=zht hedge _ _ _ h1
     omega
   ·have hvw:v∈ws:=by
     obtain⟨ao,h1,h2⟩:=(hmemW v).1 hv
     exact(hmem v).2 ⟨ao,h1,by rcases h2 with h2 | h2<;>omega⟩
    obtain⟨q,hq⟩:=List.getElem?_of_mem huw
    obtain⟨q2,hq2⟩:=List.getElem?_of_mem hvw
    have hqq:q<q2:=by
     rcases Nat.lt_trichotomy q q2 with h | h | h
     ·exact h
     ·subst h;rw[hq]at hq2;cases hq2;omega
     ·have:=zbn hsortw hq2 hq h;omega
    rcases hl with hl | hl
    ·exact zb4 hch hc (q2-q) q u v hq (by rw[show q+(q2-q)=q2 by omega];exact hq2) hl
    ·have hlt:q2-1<ws.length:=by have:=zb6 hq2;omega
     have hx:ws[q2-1]? = some (ws[q2-1]'hlt):=List.getElem?_eq_getElem hlt
     obtain⟨o,ho,e,he,hb,hon⟩:=zcl ws (q2-1) _ v hch hx (by rw[show q2-1+1=q2 by omega];exact hq2)
     obtain⟨_,o',ho',hall'⟩:=mem_ready.1 hl
     rw[ho]at ho'
     cases ho'
     have h3:=hall' e he hb
     rw[hon]at h3
     exact zb4 hch hc (q2-1-q) q u _ hq (by rw[show q+(q2-1-q)=q2-1 by omega];exact hx) h3
 have prefixOf:∀(listed:Array Bool),Clo .any ops listed→∀(q i:Nat),W[q]? = some i→(i∈Region.ready .any ops listed)→∀m v,W[m]? = some v→(listed.getD v false=true↔m<q):=by
  intro listed hc q i hp hi m v hv
  have hun:listed.getD i false≠true:=by
   have:=(mem_ready.1 hi).1
   grind
  have hiW:=List.mem_of_getElem? hp
  have hvW:=List.mem_of_getElem? hv
  constructor
  ·intro hl
   rcases Nat.lt_trichotomy m q with h | h | h
   ·exact h
   ·subst h;rw[hp]at hv;cases hv;exact absurd hl hun
   ·exact absurd (ord listed hc i v hiW hvW (zbn hsort hp hv h) (.inl hl)) hun
  ·intro hmp
   exact ord listed hc v i hvW hiW (zbn hsort hv hp hmp) (.inr hi)
 have hloW:∀(listed:Array Bool),Clo .any ops listed→∀i,i∈Region.ready .any ops listed→i≠c→L i≤cnt W listed∧cnt W listed≤min (U i) W.length:=by
  intro listed hc i hi hic
  have hlo:lowOf ops ws i≤cnt ws listed:=zcm ws fun v _ hv=>za0 hc _ v i (.inr hi) hv
  have hun:listed.getD i false≠true:=by
   have:=(mem_ready.1 hi).1
   grind
  have hhi:cnt ws listed≤highOf ops ws i:=zcm ws fun v _ hv=>by
   grind[za0]
  have hle:cnt W listed≤W.length:=List.length_filter_le ..
  have h1:=hcntW listed
  -- how many are done tells whether the call is
  have k1:p<cnt ws listed→listed.getD c false=true:=by
   intro hp
   have:∃v∈ws,listed.getD v false=true∧precedes ops ops.size c v=true:=by
    refine Classical.byContradiction fun hno=>?_
    have:cnt ws listed≤highOf ops ws c:=zcm ws fun v hv hl=>by
     cases h3:precedes ops ops.size c v with
     | false=>rfl
     | true=>exact absurd ⟨v,hv,hl,h3⟩ hno
    omega
   obtain⟨v,hv,hl,h3⟩:=this
   exact za0 hc _ c v (.inl hl) h3
  have k2:cnt ws listed<p→listed.getD c false≠true:=by
   intro hp hl
   have:lowOf ops ws c≤cnt ws listed:=zcm ws fun v _ hv=>za0 hc _ v c (.inl hl) hv
   omega
  refine⟨?_,?_⟩
  ·rw[←hL]
   simp only[if_neg hic]
   by_cases hcl:listed.getD c false=true
   ·rw[if_pos hcl]at h1
    split<;>omega
   ·rw[if_neg hcl]at h1
    split
    ·exact absurd (k1 (by omega)) hcl
    ·omega
  ·rw[←hU]
   simp only[if_neg hic]
   by_cases hcl:listed.getD c false=true
   ·rw[if_pos hcl]at h1
    split
    ·omega
    ·exact absurd hcl (k2 (by omega))
   ·rw[if_neg hcl]at h1
    split<;>omega
 obtain⟨H,C,_,_,hH0,hC0,_,hlex⟩:=ztr (P:=P) (ops:=ops) (aos:=aos) (K:=K) (W:=W) (c:=c) (L:=L) (U:=U) hsort hmemW (fun i o ho=>by
  grind[zag]) ops.toList 0 aos st.env st.heap st.clk [] [] [] (fun i=>by simp) (fun i=>by simp) hlen rfl (Nat.zero_le _) (fun m v _=>by simp) hk
 simp only[List.length_nil]at hH0 hC0
 refine zc1 (F:=FN P aos W c L (fun i=>min (U i) W.length) H C) (R:=fun listed ρ a w=>RelR cx (C (cnt W listed)) (H (cnt W listed)) ρ a w) (Q:=fun ρ=>∃e,ρ=Env.get e∧K ⟨e,H W.length,C W.length⟩) (ρ:=st.env.get) hm hlexB ?_ ?_ ?_ ?_ hlex
 ·intro i o ho ρ ρ' hρ x ⟨ao,hao,hq⟩
  obtain⟨ao',h1,h2⟩:=hget' i o ho
  rw[hao]at h1
  cases h1
  refine⟨ao,hao,?_⟩
  rcases hq with ⟨hic,q,hq1,hq2⟩ | ⟨hic,hq⟩
  ·exact .inl ⟨hic,q,hq1,hq2.congr h2 hρ⟩
  refine .inr ⟨hic,?_⟩
  obtain⟨op,g,hop,hg,rfl,_⟩:=zag h2
  have hops:∀t,Operand.tmp t∈o.op.operands.toList→ρ t=ρ' t:=fun t ht=>hρ t (by
   grind[Oper.looksAt])
  have quiet:∀h,QF P h ⟨o.dst,g,op⟩ ρ x→QF P h ⟨o.dst,g,op⟩ ρ' x:=by
   intro h hq
   clear hk hlex hside ord prefixOf hloW hcntW hdi hlist hQ
   unfold QF at hq ⊢
   cases g with
   | none=>exact(zbv hop hops).1 hq
   | some tw=>
    grind[resGuard,map_some,Oper.looksAt,zbv]
  cases hwr:op.writes with
  | true=>
   simp only[hwr]at hq ⊢
   obtain⟨h3,q,h4,h5⟩:=hq
   exact⟨h3,q,h4,by rw[←zbz hop hops];exact h5⟩
  | false=>
   simp only[hwr]at hq ⊢
   exact fun j h3 h4=>quiet _ (hq j h3 h4)
 ·intro i o ho listed ρ x a w K' hc hi ⟨ao,hao,hq⟩ hr hK'
  obtain⟨ao',h1,h2⟩:=hget' i o ho
  rw[hao]at h1
  cases h1
  have hun:=(mem_ready.1 hi).1
  have hisz:i<listed.size:=by grind
  have hcount:∀q,W[q]? = some i→cnt W listed=q∧cnt W (listed.setIfInBounds i true)=q+1:=by
   intro q hp
   have hpre:=prefixOf listed hc q i hp hi
   have hple:=zb6 hp
   refine⟨zbb q (by omega) fun m v hv=>hpre m v hv,zbb (q+1) (by omega) fun m v hv=>?_⟩
   by_cases hvi:i=v
   ·have hmp:m=q:=by
     rcases Nat.lt_trichotomy m q with h | h | h
     ·have:=zbn hsort hv hp h;omega
     ·exact h
     ·have:=zbn hsort hp hv h;omega
    subst hvi
    simp[hisz,hmp]
   ·rw[getD_set_ne false hvi,hpre m v hv]
    have:m≠q:=fun he=>hvi (by subst he;rw[hp]at hv;cases hv;rfl)
    omega
  rcases hq with ⟨hic,q,hp,hcd⟩ | ⟨hic,hq⟩
  ·obtain⟨e1,e2⟩:=hcount q hp
   rw[e1]at hr
   rw[e2]at hK'
   exact zcu ho hnt h2 hcd hr hK'
  cases hwr:ao.op.writes with
  | true=>
   simp only[hwr]at hq
   obtain⟨hgn,q,hp,hst⟩:=hq
   obtain⟨e1,e2⟩:=hcount q hp
   rw[e1]at hr
   rw[e2]at hK'
   obtain⟨S,M,hr⟩:=hr
   subst hnt
   obtain⟨op,g,hop,hg,rfl,hd⟩:=zag h2
   simp only at hgn hst
   subst hgn
   obtain⟨v,w',S',M',h3,h4,h5⟩:=zcd hop hr hst
   have hfin:K' (a.put o.dst v) w':=hK' _ _ ⟨S',M',h4.put hd h5⟩
   unfold wpOp
   simp only[ho,zbm hg a,if_true]
   rcases h3 with h3 | ⟨h3,rfl⟩
   ·exact .inl (zc4 h3 hfin)
   ·refine .inl ?_
    unfold Oper.wp
    rw[h3,Oper.upon_skip]
    exact hfin
  | false=>
   simp only[hwr]at hq
   have hnm:i∉W:=fun hm=>by
    obtain⟨ao2,h3,h4⟩:=(hmemW i).1 hm
    rw[hao]at h3
    cases h3
    rcases h4 with h4 | h4
    ·rw[hwr]at h4;cases h4
    ·exact hic h4
   obtain⟨e1,e2⟩:=hloW listed hc i hi hic
   have hcnt':cnt W (listed.setIfInBounds i true)=cnt W listed:=by
    unfold cnt
    congr 1
    refine List.filter_congr fun v hv=>?_
    have:i≠v:=fun he=>hnm (he▸hv)
    rw[getD_set_ne false this]
   rw[hcnt']at hK'
   exact za6 ho hnt h2 (hq _ e1 e2) hr hK'
 ·intro listed ρ a w hc hready hr ⟨e,he,hK⟩
  subst he
  have hfull:cnt W listed=W.length:=zbb W.length (Nat.le_refl _) fun m v hv=>by
   obtain⟨ao,h1,_⟩:=(hmemW v).1 (List.mem_of_getElem? hv)
   have hvl:v<ops.size:=by
    have:=zb6 h1
    grind
   have:=zf2 hlexB hready hc.size v hvl
   have:=zb6 hv
   grind
  rw[hfull]at hr
  obtain⟨S,M,hr⟩:=hr
  exact hQ _ a w hK ⟨S,M,hr⟩
 ·have h0:cnt W (Array.replicate ops.size false)=0:=zbb 0 (Nat.zero_le _) fun m v hv=>by
   rw[getD_replicate_false];simp
  rw[h0,hH0,hC0]
  exact RelR.drawn ⟨S,M,hrf⟩
end
end
section
open Go.RowKit
section
variable{cx:Cx}{Q:Exit→St→Prop}{st:St}
theorem zts{hd tl:List AO}{h1:Heap}{c1:Nat}(h:drawCL cx.P tl st.heap st.clk h1 c1 (Q .normal) false hd st.env):AWp cx (.drawT hd tl) Q st:=by
 intro code hc hm a w hr
 have hcode:=hc
 cases code<;>simp only[resCode]at hc<;>try cases hc
 case region id ops draw=>
  rcases zai hcode with ⟨_,l,_,h1⟩ | ⟨rfl,l,hl,⟨n,hn,h1⟩ | ⟨_,h1⟩ | ⟨n,_,h1⟩ | h1⟩<;>try (cases h1;done)
  cases h1
  exact zn2 rfl hm hn hl h hr fun st' a' w' h1 h2=>⟨st',h1,h2⟩
 all_goals simp[Option.bind_eq_some_iff]at hc
theorem ztt{p:Nat}{l1 l2:List DO}{o:AO}(hcw:o.op.writes=false)(h:drawNL cx.P (l1.map (fun o=>(false,adjD p o))++(true,⟨o,p,p⟩)::l2.map (fun o=>(false,adjD p o))) st.env st.heap st.clk [] [] (Q .normal)):AWp cx (.draw (l1 ++ ⟨o,p,p⟩::l2)) Q st:=by
 intro code hc hm a w hr
 have hcode:=hc
 cases code<;>simp only[resCode]at hc<;>try cases hc
 case region id ops draw=>
  rcases zai hcode with ⟨_,l,_,h1⟩ | ⟨rfl,l,hl,⟨n,hn,h1⟩ | ⟨hok,h1⟩ | ⟨n,_,h1⟩ | h1⟩<;>try (cases h1;done)
  simp only[AC.draw.injEq]at h1
  exact zn3 rfl hm hok hl h1.symm hcw h hr fun st' a' w' h1 h2=>⟨st',h1,h2⟩
 all_goals simp[Option.bind_eq_some_iff]at hc
end
end
section
open Go.RowKit
def KSub(h h':Heap):Prop:=∀b bx,h'.lookup b=some bx→h.lookup b=some bx
def FK(P:Program)(aos:List AO)(c al s:Nat)(h0:Heap)(c0:Nat)(h1:Heap)(c1 ca0:Nat)(h0a:Heap)(ca:Nat)(hm:Heap)(cm:Nat)(h2:Heap)(c2:Nat)(i:Nat)(ρ:Nat→AV)(x:AV):Prop:=
 ∃ao,aos[i]? = some ao ∧
  ((i=c∧CallD P ao ρ h0 c0 x h1 c1∧∃hb cb,CallD P ao ρ h0a ca x hb cb∧KSub hb hm∧cb≤cm) ∨
  (i=al∧ao.guard=none∧stepW ao.op ao.dst ρ h0 ca0=some (x,h0a,ca)∧∃ha,stepW ao.op ao.dst ρ h1 ca0=some (x,ha,ca)∧KSub ha hm) ∨
  (i=s∧ao.guard=none∧stepW ao.op ao.dst ρ hm cm=some (x,h2,c2)) ∨
  (i≠c∧i≠al∧i≠s∧QF P h0 ao ρ x∧QF P h1 ao ρ x∧QF P h0a ao ρ x∧QF P hm ao ρ x))
section
variable{P:Program}{ops:Array Oper}{cx:Cx}{w:World}{a:Act}
theorem RelR.sub{h h':Heap}{clk clk':Nat}{ρ:Nat→AV}(hs:KSub h h')(hc:clk≤clk')(hr:RelR cx clk h ρ a w):RelR cx clk' h' ρ a w:=by
 obtain⟨S,M,hr⟩:=hr
 classical
 generalize hMb:(fun g=>if Live h' g then M g else none:Map)=Mb
 have hMb1:∀g m,Mb g=some m→Live h' g∧M g=some m:=by
  grind
 have hMb2:∀g,Live h' g→Mb g=M g:=by grind
 have hx:Ext w S M clk w S Mb clk':=⟨fun _ _ hs=>hs,fun _ _ _ _ hc=>hc,hc,fun g m _ hm=>(hMb1 g m hm).2,fun _ _ arr _ _ _ hb=>⟨arr,hb,rfl⟩⟩
 refine⟨S,Mb,hr.size,hr.defers,fun t=>(hr.env t).mono hx,⟨fun b bx hb=>?_,fun g m hm=>(hMb1 g m hm).1,fun b bx b' bx' h1 h2 hg=>?_,fun g g' k h1 h2=>hr.wr.heap.inj _ _ _ (hMb1 _ _ h1).2 (hMb1 _ _ h2).2⟩,hr.wr.ext.trans hx,hr.wr.fr,hr.wr.Snew,hr.wr.Slt,fun g k hm=>hr.wr.Mnew g k (hMb1 _ _ hm).2⟩
 ·have hl:Live h' bx.gen:=⟨b,bx,hb,rfl⟩
  exact(hr.wr.heap.box b bx (hs b bx hb)).mono hx (hMb2 _ hl) (fun _ _=>rfl) fun _ _ _ hs=>hs
 ·exact hr.wr.heap.gens _ _ _ _ (hs _ _ h1) (hs _ _ h2) hg
theorem zdt{nt:Nat}{Q':Exit→Act→World→Prop}{i:Nat}{o:Oper}{ao:AO}{ρ:Nat→AV}{h0 h1:Heap}{c0 c1:Nat}{x:AV}{K:Act→World→Prop}(ho:ops[i]? = some o)(hnt:nt=cx.nt)
  (hao:resOper P nt ops o=some ao) (hgn:ao.guard=none) (hst:stepW ao.op ao.dst ρ h0 c0=some (x,h1,c1)) (hr:RelR cx c0 h0 ρ a w) (hK:∀a' w',RelR cx c1 h1 (upd ρ o.dst x) a' w'→K a' w'):wpOp P ops Q' i K a w:=by
 obtain⟨S,M,hr⟩:=hr
 subst hnt
 obtain⟨op,g,hop,hg,rfl,hd⟩:=zag hao
 simp only at hgn hst
 subst hgn
 obtain⟨v,w',S',M',h3,h4,h5⟩:=zcd hop hr hst
 have hfin:K (a.put o.dst v) w':=hK _ _ ⟨S',M',h4.put hd h5⟩
 unfold wpOp
 simp only[ho,zbm hg a,if_true]
 rcases h3 with h3 | ⟨h3,rfl⟩
 ·exact .inl (zc4 h3 hfin)
 ·refine .inl ?_
  unfold Oper.wp
  rw[h3,Oper.upon_skip]
  exact hfin
theorem zn4{nt id c al s:Nat}{aos:List AO}{st:St}{h1 h0a hm h2:Heap}{c1 ca0 ca cm c2:Nat}{K:St→Prop}{Q:Exit→Act→World→Prop}(hnt:nt=cx.nt)(hmo:P.follows .mixedOrders=true)(hB:drawOk ops aos=true)
  (hres:resOpers P nt ops ops.toList=some aos) (hws:writersOf aos=[al,s]) (hc:c<aos.length) (hcw:∀ao,aos[c]? = some ao→ao.op.writes=false) (hhi:∀i,i<aos.length→i≠al→i≠s→highOf ops (writersOf aos) i≤1)
  (e1:st.clk≤ca0) (e2:c1≤ca0) (e3:ca≤cm)
  (hlex:lexE ops (FK P aos c al s st.heap st.clk h1 c1 ca0 h0a ca hm cm h2 c2) (fun ρ=>∃e,ρ=Env.get e∧K ⟨e,h2,c2⟩) ops.toList 0 st.env.get)
  (hr:Rel cx st a w) (hQ:∀st' a' w',K st'→Rel cx st' a' w'→Q .normal a' w'):(Code.region id ops true).wp P Q a w:=by
 have hget':∀i o,ops[i]? = some o→∃ao,aos[i]? = some ao∧resOper P nt ops o=some ao:=fun i o ho=>za3 ops.toList aos hres i o (by grind)
 have hlen:=za4 ops.toList aos hres
 have hlen':aos.length=ops.size:=by simpa using hlen.symm
 obtain⟨S,M,hrf⟩:=hr
 unfold drawOk at hB
 simp only[Bool.and_eq_true,List.all_eq_true]at hB
 obtain⟨⟨hlexB,hch⟩,_⟩:=hB
 have hsort:=zdg aos
 have hmem:=fun k=>zby aos k
 rw[hws]at hch hhi hsort
 have has:al<s:=by simpa using hsort
 have hals:al∈writersOf aos∧s∈writersOf aos:=by rw[hws];simp
 obtain⟨aoa,ha1,_⟩:=(hmem al).1 hals.1
 obtain⟨aos',hs1,_⟩:=(hmem s).1 hals.2
 have hsl:s<aos.length:=(List.getElem?_eq_some_iff.1 hs1).1
 have hall:al<aos.length:=(List.getElem?_eq_some_iff.1 ha1).1
 have hcal:c≠al:=fun h=>by
  obtain⟨ao,h3,h4⟩:=(hmem al).1 hals.1
  rw[←h]at h3
  rw[hcw ao h3]at h4
  cases h4
 have hcs:c≠s:=fun h=>by
  obtain⟨ao,h3,h4⟩:=(hmem s).1 hals.2
  rw[←h]at h3
  rw[hcw ao h3]at h4
  cases h4
 have alS:∀(listed:Array Bool),Clo .any ops listed→(listed.getD s false=true∨s∈Region.ready .any ops listed)→listed.getD al false=true:=by
  intro listed hcl hl
  rcases hl with hl | hl
  ·exact zb4 hch hcl 1 0 al s rfl rfl hl
  ·obtain⟨o,ho,e,he,hb,hon⟩:=zcl [al,s] 0 al s hch rfl rfl
   obtain⟨_,o',ho',hall'⟩:=mem_ready.1 hl
   rw[ho]at ho'
   cases ho'
   have h3:=hall' e he hb
   rwa [hon]at h3
 have preS:∀(i:Nat),i<aos.length→i≠s→∀(listed:Array Bool),Clo .any ops listed→(listed.getD s false=true∨s∈Region.ready .any ops listed)→listed.getD i false=true:=by
  intro i hi his listed hcl hl
  by_cases hia:i=al
  ·subst hia;exact alS listed hcl hl
  ·have h3:=hhi i hi hia his
   unfold highOf at h3
   cases h4:precedes ops ops.size i al with
   | true=>exact za0 hcl _ i al (.inl (alS listed hcl hl)) h4
   | false=>
    cases h5:precedes ops ops.size i s with
    | true=>exact za0 hcl _ i s hl h5
    | false=>simp[h4,h5]at h3
 refine zc1 (F:=FK P aos c al s st.heap st.clk h1 c1 ca0 h0a ca hm cm h2 c2)
  (R:=fun listed ρ a w=>if listed.getD s false=true then RelR cx c2 h2 ρ a w else if listed.getD al false=true then (if listed.getD c false=true then RelR cx cm hm ρ a w else RelR cx ca h0a ρ a w) else (if listed.getD c false=true then RelR cx c1 h1 ρ a w else RelR cx st.clk st.heap ρ a w))
  (Q:=fun ρ=>∃e,ρ=Env.get e∧K ⟨e,h2,c2⟩) (ρ:=st.env.get) hmo hlexB ?_ ?_ ?_ ?_ hlex
 ·intro i o ho ρ ρ' hρ x ⟨ao,hao,hq⟩
  obtain⟨ao',g1,g2⟩:=hget' i o ho
  rw[hao]at g1
  cases g1
  refine⟨ao,hao,?_⟩
  rcases hq with ⟨k1,k2,hb,cb,k3,k4⟩ | ⟨k1,k2,k3,ha,k4,k5⟩ | ⟨k1,k2,k3⟩ | ⟨k1,k2,k3,k4,k5,k6,k7⟩
  ·exact .inl ⟨k1,k2.congr g2 hρ,hb,cb,k3.congr g2 hρ,k4⟩
  ·obtain⟨op,g,hop,hg,rfl,_⟩:=zag g2
   have hops:∀t,Operand.tmp t∈o.op.operands.toList→ρ t=ρ' t:=fun t ht=>hρ t (by
    grind[Oper.looksAt])
   exact .inr (.inl ⟨k1,k2,by rw[←zbz hop hops];exact k3,ha,by rw[←zbz hop hops];exact k4,k5⟩)
  ·obtain⟨op,g,hop,hg,rfl,_⟩:=zag g2
   have hops:∀t,Operand.tmp t∈o.op.operands.toList→ρ t=ρ' t:=fun t ht=>hρ t (by
    grind[Oper.looksAt])
   exact .inr (.inr (.inl ⟨k1,k2,by rw[←zbz hop hops];exact k3⟩))
  ·have quiet:∀h,QF P h ao ρ x→QF P h ao ρ' x:=by
    intro h hq
    obtain⟨op,g,hop,hg,rfl,_⟩:=zag g2
    have hops:∀t,Operand.tmp t∈o.op.operands.toList→ρ t=ρ' t:=fun t ht=>hρ t (by
     grind[Oper.looksAt])
    clear hlex hQ alS preS hhi hmem
    unfold QF at hq ⊢
    cases g with
    | none=>exact(zbv hop hops).1 hq
    | some tw=>
     grind[resGuard,map_some,Oper.looksAt,zbv]
   exact .inr (.inr (.inr ⟨k1,k2,k3,quiet _ k4,quiet _ k5,quiet _ k6,quiet _ k7⟩))
 ·intro i o ho listed ρ x a w K' hcl hi ⟨ao,hao,hq⟩ hr hK'
  obtain⟨ao',g1,g2⟩:=hget' i o ho
  rw[hao]at g1
  cases g1
  have hun0:=(mem_ready.1 hi).1
  have hun:¬ listed.getD i false=true:=by
   clear hlex hQ alS preS hhi hmem
   grind
  have hisz:i<listed.size:=by
   have h3:=hcl.size
   have h4:i<ops.size:=(Array.getElem?_eq_some_iff.1 ho).1
   omega
  have hset:(listed.setIfInBounds i true).getD i false=true:=by simp[hisz]
  have hil:i<aos.length:=(List.getElem?_eq_some_iff.1 hao).1
  have hse:i≠s→¬ listed.getD s false=true:=fun his hl=>hun (preS i hil his listed hcl (.inl hl))
  rcases hq with ⟨rfl,k2,hb,cb,k3,k4,k5⟩ | ⟨rfl,k2,k3,ha,k4,k5⟩ | ⟨rfl,k2,k3⟩ | ⟨k1,k2,k3,k4,k5,k6,k7⟩
  ·have hns:=hse hcs
   rw[getD_set_ne false hcs,getD_set_ne false hcal,hset]at hK'
   rw[if_neg hns]at hr
   simp only[if_neg hns,if_true]at hK'
   rw[if_neg hun,if_neg hun]at hr
   by_cases hla:listed.getD al false=true
   ·rw[if_pos hla]at hr
    simp only[if_pos hla]at hK'
    exact zcu ho hnt g2 k3 hr fun a' w' h'=>hK' a' w' (h'.sub k4 k5)
   ·rw[if_neg hla]at hr
    simp only[if_neg hla]at hK'
    exact zcu ho hnt g2 k2 hr hK'
  ·have hns:=hse (by omega)
   rw[getD_set_ne false (show i≠s by omega),getD_set_ne false (Ne.symm hcal),hset]at hK'
   rw[if_neg hns,if_neg hun]at hr
   simp only[if_neg hns,if_true]at hK'
   by_cases hlc:listed.getD c false=true
   ·rw[if_pos hlc]at hr
    simp only[if_pos hlc]at hK'
    exact zdt ho hnt g2 k2 k4 (hr.sub (fun _ _ h=>h) e2) fun a' w' h'=>hK' a' w' (h'.sub k5 e3)
   ·rw[if_neg hlc]at hr
    simp only[if_neg hlc]at hK'
    exact zdt ho hnt g2 k2 k3 (hr.sub (fun _ _ h=>h) e1) hK'
  ·have hla:=preS al hall (by omega) listed hcl (.inr hi)
   have hlc:=preS c hc hcs listed hcl (.inr hi)
   rw[if_neg hun,if_pos hla,if_pos hlc]at hr
   simp only[hset,if_true]at hK'
   exact zdt ho hnt g2 k2 k3 hr hK'
  ·have hns:=hse k3
   rw[getD_set_ne false k1,getD_set_ne false k2,getD_set_ne false k3]at hK'
   rw[if_neg hns]at hr
   simp only[if_neg hns]at hK'
   by_cases hla:listed.getD al false=true
   ·rw[if_pos hla]at hr
    simp only[if_pos hla]at hK'
    by_cases hlc:listed.getD c false=true
    ·rw[if_pos hlc]at hr
     simp only[if_pos hlc]at hK'
     exact za6 ho hnt g2 k7 hr hK'
    ·rw[if_neg hlc]at hr
     simp only[if_neg hlc]at hK'
     exact za6 ho hnt g2 k6 hr hK'
   ·rw[if_neg hla]at hr
    simp only[if_neg hla]at hK'
    by_cases hlc:listed.getD c false=true
    ·rw[if_pos hlc]at hr
     simp only[if_pos hlc]at hK'
     exact za6 ho hnt g2 k5 hr hK'
    ·rw[if_neg hlc]at hr
     simp only[if_neg hlc]at hK'
     exact za6 ho hnt g2 k4 hr hK'
 ·intro listed ρ a w hcl hready hr ⟨e,he,hK⟩
  subst he
  have hl:=zf2 hlexB hready hcl.size s (by omega)
  rw[if_pos hl]at hr
  obtain⟨S,M,hr⟩:=hr
  exact hQ _ a w hK ⟨S,M,hr⟩
 ·simp only[getD_replicate_false]
  exact RelR.drawn ⟨S,M,hrf⟩
end
end
section
open Go.RowKit
def QL(P:Program)(hs:List Heap):List AO→Env→Env→Prop
 | [],e,e'=>e=e'
 | o::r,e,e'=>∃x,(∀h∈hs,QF P h o e.get x)∧QL P hs r (putE e o.dst x) e'
section
variable{P:Program}{ops:Array Oper}
theorem zgt{F:Nat→(Nat→AV)→AV→Prop}{Q:(Nat→AV)→Prop}{k:Nat}{o:Oper}{d:Option Nat}{e:Env}{x:AV}(ho:ops[k]? = some o)(hd:d=o.dst)(hF:F k e.get x)(h:lexE ops F Q (ops.toList.drop (k+1)) (k+1) (putE e d x).get) :
  lexE ops F Q (ops.toList.drop k) k e.get:=by
 obtain⟨hk,hg⟩:=Array.getElem?_eq_some_iff.1 ho
 have e1:ops.toList.drop k=o::ops.toList.drop (k+1):=by
  rw[List.drop_eq_getElem_cons (by simpa using hk)]
  congr 1
 rw[e1]
 refine⟨x,hF,?_⟩
 rw[zb7,hd]at h
 exact h
theorem zn5{F:Nat→(Nat→AV)→AV→Prop}{Q:(Nat→AV)→Prop}{hs:List Heap}{aos:List AO}(hget:∀(k:Nat) (ao:AO),aos[k]? = some ao→∃o:Oper,ops[k]? = some o∧ao.dst=o.dst):∀(lq:List AO) (k:Nat) (e e':Env),(∀j ao,lq[j]? = some ao→aos[k+j]? = some ao) →
  (∀j ao ρ x,lq[j]? = some ao→(∀h∈hs,QF P h ao ρ x)→F (k+j) ρ x)→QL P hs lq e e'→lexE ops F Q (ops.toList.drop (k+lq.length)) (k+lq.length) e'.get→lexE ops F Q (ops.toList.drop k) k e.get
 | [],k,e,e',_,_,hq,h=>by
  cases hq
  exact h
 | ao::lq,k,e,e',ha,hF,⟨x,hx,hq⟩,h=>by
  obtain⟨o,ho,hd⟩:=hget k ao (ha 0 ao rfl)
  refine zgt ho hd (hF 0 ao _ x rfl hx) ?_
  refine zn5 hget lq (k+1) _ e' (fun j b hb=>?_) (fun j b ρ y hb hy=>?_) hq ?_
  ·rw[show k+1+j=k+(j+1) by omega]
   exact ha (j+1) b hb
  ·rw[show k+1+j=k+(j+1) by omega]
   exact hF (j+1) b ρ y hb hy
  ·rw[show k+1+lq.length=k+(ao::lq).length by simp only[List.length_cons];omega]
   exact h
theorem ztu(aos:List AO):(drawOf ops aos).map (·.ao)=aos:=by
 unfold drawOf
 rw[List.map_map]
 refine List.ext_getElem? fun i=>?_
 simp only[List.getElem?_map,List.getElem?_zipIdx,Option.map_map]
 cases aos[i]?<;>rfl
theorem ztv{aos:List AO}{i:Nat}{d:DO}(h:(drawOf ops aos)[i]? = some d):highOf ops (writersOf aos) i=d.hi:=by
 unfold drawOf at h
 simp only[List.getElem?_map,List.getElem?_zipIdx,Option.map_map]at h
 cases h1:aos[i]? with
 | none=>rw[h1]at h;cases h
 | some a=>
  rw[h1]at h
  simp only[Option.map_some,Function.comp_apply,Option.some.injEq]at h
  rw[←h]
  simp
theorem zkj{A:List AO}{oa os:AO}(hA:∀o∈A,o.op.writes=false)(ha:oa.op.writes=true)(hs:os.op.writes=true):writersOf (A++[oa,os])=[A.length,A.length+1]:=by
 unfold writersOf
 rw[List.zipIdx_append,List.filter_append,List.map_append]
 have h1:(A.zipIdx.filter fun p=>p.1.op.writes)=[]:=List.filter_eq_nil_iff.2 fun p hp=>by
  have:=hA p.1 (List.fst_mem_of_mem_zipIdx hp)
  simp[this]
 rw[h1]
 simp[ha,hs]
end
section
variable{cx:Cx}{Q:Exit→St→Prop}{st:St}
theorem ztw{l1 l2:List DO}{oc:AO}{da n:Nat}{cs:List AV}{xs vs:Opd}{h1 hb hm h2:Heap}{c1 cb cm:Nat}{e1 e2:Env}{x:AV}
  (hq:∀d∈l1++l2,d.hi≤1∧d.ao.op.writes=false) (hcw:oc.op.writes=false)
  (k1:QL cx.P [st.heap,h1,(.loc da,⟨c1,.str,cs.length,[cs]⟩)::st.heap,hm] (l1.map (·.ao)) st.env e1)
  (k2:CallD cx.P oc e1.get st.heap st.clk x h1 c1) (k3:CallD cx.P oc e1.get ((.loc da,⟨c1,.str,cs.length,[cs]⟩)::st.heap) (c1+1) x hb cb) (k3a:KSub hb hm) (k3b:cb≤cm)
  (k4:QL cx.P [st.heap,h1,(.loc da,⟨c1,.str,cs.length,[cs]⟩)::st.heap,hm] (l2.map (·.ao)) (putE e1 oc.dst x) e2)
  (k6:KSub ((.loc da,⟨c1,.str,cs.length,[cs]⟩)::h1) hm)
  (k7:storeAV n hm (ev (putE e2 (some da) (.ptr (.loc da) c1 cs.length 0 0)).get xs) (ev (putE e2 (some da) (.ptr (.loc da) c1 cs.length 0 0)).get vs)=some h2)
  (hK:Q .normal ⟨putE e2 (some da) (.ptr (.loc da) c1 cs.length 0 0),h2,cm⟩) (i1:st.clk≤c1) (i3:c1+1≤cm) :
  AWp cx (.draw (l1 ++ ⟨oc,0,1⟩::(l2++[⟨⟨some da,none,.alloc cs⟩,0,1⟩,⟨⟨none,none,.store n xs vs⟩,1,2⟩]))) Q st:=by
 intro code hc hmo a w hr
 have hcode:=hc
 cases code<;>simp only[resCode]at hc<;>try cases hc
 case region id ops draw=>
  rcases zai hcode with ⟨_,l,_,g1⟩ | ⟨rfl,aos,hl,⟨n,hn,g1⟩ | ⟨hok,g1⟩ | ⟨n,_,g1⟩ | g1⟩<;>try (cases g1;done)
  simp only[AC.draw.injEq]at g1
  have hao:aos=l1.map (·.ao)++oc::(l2.map (·.ao)++[⟨some da,none,.alloc cs⟩,⟨none,none,.store n xs vs⟩]):=by
   rw[←ztu (ops:=ops) aos,←g1]
   simp
  have hA:aos=(l1.map (·.ao)++oc::l2.map (·.ao))++[⟨some da,none,.alloc cs⟩,⟨none,none,.store n xs vs⟩]:=by rw[hao];simp
  have hw:writersOf aos=[l1.length+1+l2.length,l1.length+1+l2.length+1]:=by
   rw[hA,zkj (fun o ho=>?_) rfl rfl]
   ·simp only[List.length_append,List.length_map,List.length_cons]
    simp only[Nat.add_assoc,Nat.add_comm 1]
   ·rcases List.mem_append.1 ho with ho | ho
    ·obtain⟨d,hd,rfl⟩:=List.mem_map.1 ho
     exact(hq d (List.mem_append_left _ hd)).2
    ·rcases List.mem_cons.1 ho with rfl | ho
     ·exact hcw
     ·obtain⟨d,hd,rfl⟩:=List.mem_map.1 ho
      exact(hq d (List.mem_append_right _ hd)).2
  have hlen:=za4 ops.toList aos hl
  have hal:aos.length=l1.length+1+l2.length+2:=by
   rw[hao]
   simp only[List.length_append,List.length_map,List.length_cons,List.length_nil]
   omega
  have hget:∀(k:Nat) (ao:AO),aos[k]? = some ao→∃o:Oper,ops[k]? = some o∧ao.dst=o.dst:=fun k ao hk=>by
   have hk2:k<ops.size:=by
    have:=(List.getElem?_eq_some_iff.1 hk).1
    simp only[Array.length_toList]at hlen
    omega
   obtain⟨ao',g2,g3⟩:=za3 ops.toList aos hl k (ops[k]'hk2) (by simp[hk2])
   rw[hk]at g2
   cases g2
   obtain⟨op,g,_,_,rfl,_⟩:=zag g3
   exact⟨_,by simp[hk2],rfl⟩
  have hc1:aos[l1.length]? = some oc:=by
   rw[hao,List.getElem?_append_right (by simp)]
   simp
  have hAl:(l1.map (·.ao)++oc::l2.map (·.ao)).length=l1.length+1+l2.length:=by
   simp only[List.length_append,List.length_map,List.length_cons]
   omega
  have ha1:aos[l1.length+1+l2.length]? = some ⟨some da,none,.alloc cs⟩:=by
   rw[hA,List.getElem?_append_right (by omega),hAl,Nat.sub_self]
   rfl
  have hs1:aos[l1.length+1+l2.length+1]? = some ⟨none,none,.store n xs vs⟩:=by
   rw[hA,List.getElem?_append_right (by omega),hAl,Nat.add_sub_cancel_left]
   rfl
  have q1:∀j ao,(l1.map (·.ao))[j]? = some ao→aos[0+j]? = some ao∧j<l1.length:=fun j ao hj=>by
   have h3:=(List.getElem?_eq_some_iff.1 hj).1
   rw[List.length_map]at h3
   refine⟨?_,h3⟩
   rw[hao,Nat.zero_add,List.getElem?_append_left (by simpa using h3)]
   exact hj
  have q2:∀j ao,(l2.map (·.ao))[j]? = some ao→aos[l1.length+1+j]? = some ao∧j<l2.length:=fun j ao hj=>by
   have h3:=(List.getElem?_eq_some_iff.1 hj).1
   rw[List.length_map]at h3
   refine⟨?_,h3⟩
   rw[hao,List.getElem?_append_right (by simp;omega)]
   simp only[List.length_map]
   rw[show l1.length+1+j-l1.length=j+1 by omega,List.getElem?_cons_succ,List.getElem?_append_left (by simpa using h3)]
   exact hj
  have hhi:∀i,i<aos.length→i≠l1.length+1+l2.length→i≠l1.length+1+l2.length+1→highOf ops (writersOf aos) i≤1:=by
   intro i hi hia his
   have hlt:i<(drawOf ops aos).length:=by
    unfold drawOf
    simpa using hi
   obtain⟨d,hd⟩:∃d,(drawOf ops aos)[i]? = some d:=⟨_,List.getElem?_eq_getElem hlt⟩
   rw[ztv hd]
   rw[←g1]at hd
   rcases Nat.lt_trichotomy i l1.length with h3 | h3 | h3
   ·rw[List.getElem?_append_left h3]at hd
    exact(hq d (List.mem_append_left _ (List.mem_of_getElem? hd))).1
   ·rw[List.getElem?_append_right (by omega),h3,Nat.sub_self,List.getElem?_cons_zero,Option.some.injEq]at hd
    rw[←hd]
    exact Nat.le_refl _
   ·rw[List.getElem?_append_right (by omega),show i-l1.length=(i-l1.length-1)+1 by omega,List.getElem?_cons_succ,List.getElem?_append_left (by omega)]at hd
    exact(hq d (List.mem_append_right _ (List.mem_of_getElem? hd))).1
  refine zn4 (c:=l1.length) (al:=l1.length+1+l2.length) (s:=l1.length+1+l2.length+1) (h1:=h1) (c1:=c1) (ca0:=c1) (h0a:=(.loc da,⟨c1,.str,cs.length,[cs]⟩)::st.heap) (ca:=c1+1) (hm:=hm) (cm:=cm) (h2:=h2) (c2:=cm) (K:=Q .normal) rfl hmo hok hl hw (by omega) (fun ao hao'=>by rw[hc1]at hao';cases hao';exact hcw) hhi i1 (Nat.le_refl _) i3 ?_ hr fun st' a' w' g1 g2=>⟨st',g1,g2⟩
  refine zn5 (P:=cx.P) (hs:=[st.heap,h1,(.loc da,⟨c1,.str,cs.length,[cs]⟩)::st.heap,hm]) hget (l1.map (·.ao)) 0 _ e1 (fun j ao hj=>(q1 j ao hj).1) (fun j ao ρ y hj hy=>?_) k1 ?_
  ·obtain⟨h3,h4⟩:=q1 j ao hj
   exact⟨ao,h3,.inr (.inr (.inr ⟨by omega,by omega,by omega,hy _ (by simp),hy _ (by simp),hy _ (by simp),hy _ (by simp)⟩))⟩
  rw[Nat.zero_add,List.length_map]
  obtain⟨o1,ho1,hd1⟩:=hget _ _ hc1
  refine zgt ho1 hd1 ⟨oc,hc1,.inl ⟨rfl,k2,hb,cb,k3,k3a,k3b⟩⟩ ?_
  refine zn5 (P:=cx.P) (hs:=[st.heap,h1,(.loc da,⟨c1,.str,cs.length,[cs]⟩)::st.heap,hm]) hget (l2.map (·.ao)) (l1.length+1) _ e2 (fun j ao hj=>(q2 j ao hj).1) (fun j ao ρ y hj hy=>?_) k4 ?_
  ·obtain⟨h3,h4⟩:=q2 j ao hj
   exact⟨ao,h3,.inr (.inr (.inr ⟨by omega,by omega,by omega,hy _ (by simp),hy _ (by simp),hy _ (by simp),hy _ (by simp)⟩))⟩
  rw[List.length_map]
  obtain⟨o2,ho2,hd2⟩:=hget _ _ ha1
  refine zgt (x:=.ptr (.loc da) c1 cs.length 0 0) ho2 hd2 ⟨_,ha1,.inr (.inl ⟨rfl,rfl,rfl,_,rfl,k6⟩)⟩ ?_
  obtain⟨o3,ho3,hd3⟩:=hget _ _ hs1
  refine zgt (x:=.tup []) ho3 hd3 ⟨_,hs1,.inr (.inr (.inl ⟨rfl,rfl,?_⟩))⟩ ?_
  ·show (storeAV n hm _ _).map (fun h'=>(AV.tup [],h',cm))=_
   rw[k7]
   rfl
  ·have e3:ops.toList.drop (l1.length+1+l2.length+1+1)=[]:=List.drop_eq_nil_of_le (by omega)
   rw[e3]
   exact⟨_,rfl,hK⟩
 all_goals simp[Option.bind_eq_some_iff]at hc
end
end
end Go.Ab