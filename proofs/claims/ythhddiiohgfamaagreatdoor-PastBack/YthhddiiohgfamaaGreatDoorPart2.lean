/-
  A calculus of values, boxes and code, and what functions of the program compute, proved in it.
  Conditions: none beyond those that the theorems state. (Part 2.)
-/
import Derived.Test.YthhddiiohgfamaaGreatDoorPart1
import Derived.Tactics
import Derived.Scope

set_option linter.unusedSectionVars false
set_option linter.unusedVariables false
set_option linter.unusedSimpArgs false
set_option linter.unnecessarySimpa false
set_option linter.defProp false

namespace Go.Ab
section
open Go.RowKit
def okK{α:Type}(o:Option α)(K:α->Prop):Prop:=∃x,o=some x/\K x
def Ze(e:Env)(d:Option Nat)(x:AV):Env:=
 match d with
 | none=>e
 | some d=>(d,x)::e
theorem zbt(e:Env)(d:Option Nat)(x:AV):(Ze e d x).get=upd e.get d x:=by
 cases d with
 | none=>rfl
 | some d=>
  grind[Ze,Env.get,upd]
def Zam:AV->Bool
 | .i .. | .b _ | .s _=>true
 | _=>false
def Zan:AV->Bool
 | .agg cs=>cs.all Zam
 | x=>Zam x
def scalar:AV->Bool
 | .tup vs=>vs.all Zan
 | x=>Zan x
def Zfg(P:Program)(f:FuncId)(xs:List AV)(h:Heap)(K:AV->Heap->Prop):Prop:=
 ∃ys post,xs.mapM (Zaw h)=some ys/\Z6 P f ys post/\∀r,post r->K r (if scalar r then h else Zx (xs.flatMap refs) h)
def Zdt(P:Program)(f:FuncId)(args:List AV)(hb:Heap)(clk:Nat)(post:AV->Heap->Nat->Prop):Prop:=
 Enters P f/\∀(w:World) (S:Nat->Nat->Prop) (M:Map) (cargs:Array Value),cargs.size=args.length ->
  (∀(j:Nat) (v:Value) (c:AV),cargs[j]? = some v->args[j]? = some c->C w S M clk v c) ->
  HeapRel w S M clk hb->(∀k o,S k o->k<w.heap.size)->(∀g k,M g=some (some k)->k<w.heap.size) ->
  Calls P f cargs w fun e w'=>∃v r h' S' M' clk',e=.returned v/\post r h' clk'/\C w' S' M' clk' v r/\∀nt,WRel ⟨P,nt,w,S,M,clk⟩ S' M' clk' h' w'
def Zh3(h:Heap)(id:BId)(g:Nat):Bool:=
 match h.lookup id with
 | some bx=>decide (bx.gen=g)
 | none=>false
def Za0(h:Heap):AV->Bool
 | .bs id g z _ _=>(Zac h id g z).isSome
 | .ptr id g z _ _=>(Zac h id g z).isSome
 | .fnp _ id g _ _ _=>Zh3 h id g
 | .agg _ | .tup _ | .ifc .. => false
 | _=>true
def Zbg(h:Heap):AV->Bool
 | .agg cs=>cs.all (Za0 h)
 | x=>Za0 h x
def Zb2(h:Heap):AV->Bool
 | .tup vs=>vs.all (Zbg h)
 | x=>Zbg h x
def Zgw(h:Heap):Bool:=h.all fun p=>match p.2.kind with
 | .str=>p.2.els.all fun r=>r.all (Za0 h)
 | _=>true
def Zjw(P:Program)(f:FuncId)(xs:List AV)(h:Heap)(clk:Nat)(K:AV->Heap->Nat->Prop):Prop:=
 ∃hb hr post,((∀id bx,hb.lookup id=some bx->h.lookup id=some bx)/\∀id bx,hr.lookup id=some bx->h.lookup id=some bx)/\(∀id,(hb.lookup id).isSome->hr.lookup id=none)/\Zdt P f xs hb clk post /\
  ∀r hb' clk',clk<=clk'->post r hb' clk'->(∀id,(hb'.lookup id).isSome->hr.lookup id=none)/\Zb2 hb' r=true/\Zgw hb'=true/\K r (hb'++hr) clk'
def Zhn(h:Heap):List Bool->List AV->Option (List AV)
 | _,[]=>some []
 | m::ms,x::xs=>(if m then some x else Zaw h x).bind fun y=>(Zhn h ms xs).map fun ys=>y::ys
 | [],_::_=>none
def Zc4:List Bool->List AV->List BId
 | m::ms,x::xs=>(if m then [] else refs x)++Zc4 ms xs
 | _,_=>[]
def Zfh(P:Program)(f:FuncId)(xs:List AV)(h:Heap)(clk:Nat)(K:AV->Heap->Nat->Prop):Prop:=
 ∃ms ys,Zhn h ms xs=some ys/\Zjw P f ys (Zx (Zc4 ms xs) h) clk K
def stepW(op:AOp)(d:Option Nat)(ρ:Nat->AV)(h:Heap)(clk:Nat):Option (AV×Heap×Nat):=
 match op with
 | .alloc zs=>Zet zs d h clk
 | .store n x v=>(Zbf n h (ev ρ x) (ev ρ v)).map fun h'=>(.tup [],h',clk)
 | .mks z zs l c=>Zf9 z zs d h clk (ev ρ l) (ev ρ c)
 | .app z x y=>Zh2 z d h clk (ev ρ x) (ev ρ y)
 | .xop k xs=>Zao k (xs.map (ev ρ)) d h clk
 | _=>none
def opK(P:Program)(op:AOp)(d:Option Nat)(st:St)(K:St->Prop):Prop:=
 match op with
 | .call f args=>
  Zfg P f (args.map (ev st.env.get)) st.heap (fun r h=>K ⟨Ze st.env d r,h,st.clk⟩) \/
  Zfh P f (args.map (ev st.env.get)) st.heap st.clk (fun r h c=>K ⟨Ze st.env d r,h,c⟩)
 | .inv nm _ u r args=>(u=0/\∃t y f,ev st.env.get r=.ifc t y/\Zd6 P t nm=some f /\
  (Zfg P f (y::args.map (ev st.env.get)) st.heap (fun r h=>K ⟨Ze st.env d r,h,st.clk⟩) \/
  Zfh P f (y::args.map (ev st.env.get)) st.heap st.clk (fun r h c=>K ⟨Ze st.env d r,h,c⟩))) \/
  (u=1/\∃f x,ev st.env.get r=.fnv f x /\
  (Zfg P f (x::args.map (ev st.env.get)) st.heap (fun r h=>K ⟨Ze st.env d r,h,st.clk⟩) \/
  Zfh P f (x::args.map (ev st.env.get)) st.heap st.clk (fun r h c=>K ⟨Ze st.env d r,h,c⟩))) \/
  (u=1/\∃f id g z i o,ev st.env.get r=.fnp f id g z i o/\f≠0 /\
  (Zfg P f (args.map (ev st.env.get)++[.ptr id g z i o]) st.heap (fun r h=>K ⟨Ze st.env d r,h,st.clk⟩) \/
  Zfh P f (args.map (ev st.env.get)++[.ptr id g z i o]) st.heap st.clk (fun r h c=>K ⟨Ze st.env d r,h,c⟩)))
 | .alloc .. | .store .. | .mks .. | .app .. | .xop .. => okK (stepW op d st.env.get st.heap st.clk) fun q=>K ⟨Ze st.env d q.1,q.2.1,q.2.2⟩
 | .bsl z zs len ps=>okK (Zds z zs len st.heap (ps.map fun p=>(p.1,ev st.env.get p.2))) fun q=>K ⟨Ze st.env d q.1,q.2,st.clk⟩
 | op=>okK (Zi op st.env.get st.heap) fun x=>K ⟨Ze st.env d x,st.heap,st.clk⟩
def Zgx(P:Program)(o:AO)(st:St)(K:St->Prop):Prop:=
 match o.guard with
 | none=>opK P o.op o.dst st K
 | some (t,want)=>
  match st.env.get t with
  | .b v=>if v=want then opK P o.op o.dst st K else K ⟨Ze st.env o.dst (.tup []),st.heap,st.clk⟩
  | .tup _=>K ⟨Ze st.env o.dst (.tup []),st.heap,st.clk⟩
  | _=>False
def Zdd(P:Program):List AO->St->(St->Prop)->Prop
 | [],st,K=>K st
 | o::r,st,K=>Zgx P o st fun st'=>Zdd P r st' K
section
variable{P:Program}{cx:Cx}{w w':World}{S S':Nat->Nat->Prop}{M:Map}{clk:Nat}{h:Heap}{ρ:Nat->AV}{a:Act}
def Rel.put{st:St}{d:Option Nat}{v:Value}{x:AV}{h':Heap}{clk':Nat}(hr:RelF cx S M clk' h' st.env.get a w)(hd:∀e,d=some e->e<cx.nt)(hC:C w S M clk' v x):Rel cx ⟨Ze st.env d x,h',clk'⟩ (a.put d v) w:=by
 refine⟨S,M,?_⟩;rw[zbt];exact hr.put hd hC
def ziw{v:Value}{x:AV}{S1 S2:Nat->Nat->Prop}(h:CP w S1 v x)(hx:Zam x=true):CP w S2 v x:=by
 cases h<;>first | (cases hx;done) | exact .i _ _ | exact .b _ | exact .s _
def zix{v:Value}{x:AV}{S1 S2:Nat->Nat->Prop}(h:CP w S1 v x)(hx:Zan x=true):CP w S2 v x:=by
 cases x
 case agg cs=>
  cases h with
  | agg vs cs hl h1 h=>
   exact .agg vs cs hl h1 fun j v c hv hc=>ziw (h j v c hv hc) (Yl.1 hx c (Yc hc))
 all_goals exact ziw h hx
def zs2{v:Value}{x:AV}{S1 S2:Nat->Nat->Prop}(h:CP w S1 v x)(hx:scalar x=true):CP w S2 v x:=by
 cases x
 case tup cs=>
  cases h with
  | tup vs cs hl h=>
   exact .tup vs cs hl fun j v c hv hc=>zix (h j v c hv hc) (Yl.1 hx c (Yc hc))
 all_goals exact zix h hx
def z32{xs ys:List AV}(hm:xs.mapM (Zaw h)=some ys)(hh:HeapRel w S M clk h){vs:List Value}(hl:vs.length=xs.length)(hc:∀(j:Nat) (v:Value) (c:AV),vs[j]? = some v->xs[j]? = some c->C w S M clk v c) :
  vs.length=ys.length/\∀(j:Nat) (v:Value) (c:AV),vs[j]? = some v->ys[j]? = some c->CP w (Zbm h M (xs.flatMap refs) S) v c:=by
 grind[zbe,zft]
def zgu{x y:AV}(hf:Zaw h x=some y):frz h x=some y:=by
 cases x<;>first | exact hf | (simp[Zaw,Zby]at hf)
def zs3{xs ys:List AV}(hm:xs.mapM (Zaw h)=some ys):∀id bx,id∈xs.flatMap refs->h.lookup id=some bx->bx.kind≠.str/\bx.kind≠.mp:=by
 obtain⟨h1,h2⟩:=zbe _ _ hm;intro id bx hid hb;obtain⟨x,hx,hid⟩:=Y6.1 hid;obtain⟨j,hj⟩:=Yae hx;have hjl:j<ys.length:=by grind
 exact zc6 (zgu (h2 j x _ hj (Ya hjl))) id bx hid hb
def zj1(ids:List BId):Ext w S M clk w (Zbm h M ids S) M clk:=
 ⟨fun _ _ hs=>.inl hs,fun _ _ _ _ hc=>hc,Yi _,fun _ _ _ hm=>hm,fun _ _ arr _ _ _ hb=>⟨arr,hb,rfl⟩⟩
def RelF.share(hr:RelF cx S M clk h ρ a w)(ids:List BId)(hk:∀id bx,id∈ids->h.lookup id=some bx->bx.kind≠.str/\bx.kind≠.mp):RelF cx (Zbm h M ids S) M clk (Zx ids h) ρ a w:=
 ⟨hr.size,hr.defers,fun t=>(hr.env t).mono (zj1 ids),hr.wr.share ids hk⟩
def zcu{f:FuncId}{xs:List AV}{cargs:Array Value}{K:AV->Heap->Prop}(hr:RelF cx S M clk h ρ a w)(hc:Zfg P f xs h K)(hl:cargs.size=xs.length)(hC:∀(j:Nat) (v:Value) (c:AV),cargs[j]? = some v->xs[j]? = some c->C w S M clk v c) :
  Enters P f/\Calls P f cargs w fun e w'=>∃v r h' S' M',e=.returned v/\K r h'/\RelF cx S' M' clk h' ρ a w'/\C w' S' M' clk v r:=by
 obtain⟨ys,post,hm,hp,hK⟩:=hc;obtain⟨h1,h2⟩:=z32 hm hr.wr.heap (vs:=cargs.toList) (by omega) (fun j v c hv hx=>hC j v c (by grind) hx);have hr1:=hr.share (xs.flatMap refs) (zs3 hm);refine⟨hp.1,(hp.2 w _ cargs (by omega) (fun j v c hv hx=>h2 j v c (by grind) hx) hr1.wr.Slt).mono fun e w' ⟨v,r,he,hpr,hb,hC⟩=>?_⟩;have hk:=hK r hpr;by_cases hsc:scalar r=true
 ·rw[if_pos hsc]at hk;exact⟨v,r,h,_,M,he,hk,hr.below hb,.p (zs2 hC hsc)⟩
 ·rw[if_neg hsc]at hk;exact⟨v,r,_,_,M,he,hk,hr1.below hb,.p hC⟩
def zs4{M':Map}{v:Value}{x:AV}(hv:C w S M clk v x)(hx:Za0 h x=true)(ha:∀id bx,h.lookup id=some bx->M' bx.gen=M bx.gen):C w S M' clk v x:=by
 cases x<;>simp only[Za0]at hx<;>try (exact .p (hv.pureC rfl))
 case bs id g z off n=>
  obtain⟨bx,hb⟩:=Ycb.1 hx;obtain⟨h1,h2,h3⟩:=hv.inv_bs;exact .bs _ _ _ _ _ _ h1 (by obtain⟨hl,hg,_⟩:=zaq hb;rw[<-hg,ha id bx hl,hg];exact h2) h3
 case ptr id g z i o=>
  obtain⟨bx,hb⟩:=Ycb.1 hx;obtain⟨h1,h2,h3⟩:=hv.inv_ptr;exact .ptr _ _ _ _ _ _ h1 (by obtain⟨hl,hg,_⟩:=zaq hb;rw[<-hg,ha id bx hl,hg];exact h2) h3
 case fnp f id g z i o=>
  obtain⟨u,rfl,h1,h2,h3⟩:=hv.inv_fnp;refine .fnp _ _ _ _ _ _ _ h1 ?_ h3;unfold Zh3 at hx;split at hx
  ·rename_i bx hl;have hg:bx.gen=g:=by simpa using hx
   rw[<-hg,ha id bx hl,hg];exact h2
  ·cases hx
 all_goals grind
def zyz{M':Map}{v:Value}{x:AV}(hv:C w S M clk v x)(hx:Zbg h x=true)(ha:∀id bx,h.lookup id=some bx->M' bx.gen=M bx.gen):C w S M' clk v x:=by
 cases x
 case agg cs=>
  obtain⟨vs,rfl,hl,h1,hc⟩:=hv.inv_agg;exact .agg vs cs hl h1 fun j v c hv hc'=>zs4 (hc j v c hv hc') (Yl.1 hx c (Yc hc')) ha
 all_goals exact zs4 hv hx ha
def zaao{M':Map}{v:Value}{x:AV}(hv:C w S M clk v x)(hx:Zb2 h x=true)(ha:∀id bx,h.lookup id=some bx->M' bx.gen=M bx.gen):C w S M' clk v x:=by
 cases x
 case tup cs=>
  obtain⟨vs,rfl,hl,hc⟩:=hv.inv_tup;exact .tup vs cs hl fun j v c hv hc'=>zyz (hc j v c hv hc') (Yl.1 hx c (Yc hc')) ha
 all_goals exact zyz hv hx ha
def zck(hb hr:Heap)(id:BId):(hb++hr).lookup id=(hb.lookup id).or (hr.lookup id):=by
 grind
def zk2{f:FuncId}{xs:List AV}{cargs:Array Value}{K:AV->Heap->Nat->Prop}(hr:RelF cx S M clk h ρ a w)(hc:Zjw P f xs h clk K)(hl:cargs.size=xs.length)(hC:∀(j:Nat) (v:Value) (c:AV),cargs[j]? = some v->xs[j]? = some c->C w S M clk v c) :
  Enters P f/\Calls P f cargs w fun e w'=>∃v r h' S' M' clk',e=.returned v/\K r h' clk'/\RelF cx S' M' clk' h' ρ a w'/\C w' S' M' clk' v r:=by
 obtain⟨hb,hs,post,hsplit,hdis,hp,hK⟩:=hc;obtain⟨hlb,hls⟩:=hsplit;have hno:∀g,Live hb g->Live hs g->False:=by
  intro g ⟨b,bx,h1,h2⟩ ⟨b',bx',h3,h4⟩;have:=hr.wr.heap.gens _ _ _ _ (hlb _ _ h1) (hls _ _ h3) (h2.trans h4.symm)
  grind
 classical
 generalize hMb:(fun g=>if Live hb g then M g else none:Map)=Mb;have hMb1:∀g m,Mb g=some m->Live hb g/\M g=some m:=by
  grind
 have hMb2:∀g,Live hb g->Mb g=M g:=by grind
 have hxb:Ext w S M clk w S Mb clk:=⟨fun _ _ hs=>hs,fun _ _ _ _ hc=>hc,Yi _,fun g m _ hm=>(hMb1 g m hm).2,fun _ _ arr _ _ _ hb=>⟨arr,hb,rfl⟩⟩;have hheap:HeapRel w S Mb clk hb:=by
  refine⟨fun b bx hx=>?_,fun g m hm=>(hMb1 g m hm).1,fun b bx b' bx' h1 h2 hg=>hr.wr.heap.gens _ _ _ _ (hlb _ _ h1) (hlb _ _ h2) hg,fun g g' k h1 h2=>hr.wr.heap.inj _ _ _ (hMb1 _ _ h1).2 (hMb1 _ _ h2).2⟩;exact(hr.wr.heap.box b bx (hlb _ _ hx)).mono hxb (hMb2 _ ⟨b,bx,hx,rfl⟩) (fun _ _=>rfl) fun _ _ _ hs=>hs
 refine⟨hp.1,(hp.2 w S Mb cargs hl (fun j v c hv hc=>(hC j v c hv hc).mono hxb) hheap hr.wr.Slt fun g k hm=>(hr.wr.Mnew g k (hMb1 g _ hm).2).1).mono ?_⟩;intro e w' ⟨v,r,h',S',M',clk',he,hpr,hCr,hw⟩;have hw:=hw 0;have hclk:=hw.ext.hclk;obtain⟨hdis',hro,hho,hk⟩:=hK r h' clk' hclk hpr;generalize hMM:(fun g=>if Live hs g then M g else M' g:Map)=MM;have hMM1:∀g,Live hs g->MM g=M g:=by grind
 have hMM2:∀g,¬ Live hs g->MM g=M' g:=by grind
 have hgs:∀g,Live hs g->g<clk:=by intro g ⟨b,bx,h1,h2⟩;rw[<-h2];exact(hr.wr.heap.box b bx (hls _ _ h1)).1
 have hM's:∀g m,Live hs g->M' g=some m->False:=by
  intro g m hg hm;have:=hw.ext.hM g m (hgs g hg) hm
  grind
 have hbrw:∀g k,Live hs g->M g=some (some k)->¬ (⟨P,0,w,S,Mb,clk⟩:Cx).brw k:=by
  intro g k hg hm ⟨g2,h2⟩;obtain⟨h3,h4⟩:=hMb1 _ _ h2;have:=hr.wr.heap.inj _ _ _ hm h4
  grind
 have hsame:∀g k,Live hs g->M g=some (some k)->w'.heap[k]? = w.heap[k]? := fun g k hg hm=>hw.fr.block k (hr.wr.Mnew g k hm).1 (hbrw g k hg hm);have hx:Ext w S M clk w' S' MM clk':=by
  refine⟨hw.ext.hS,hw.ext.hcell,hclk,fun g m hg hm=>?_,fun g k arr e hg hm hbk=>?_⟩
  ·by_cases hl:Live hs g
   ·grind
   ·rw[hMM2 g hl]at hm;exact(hMb1 g m (hw.ext.hM g m hg hm)).2
  ·by_cases hl:Live hs g
   ·grind
   ·rw[hMM2 g hl]at hm;exact hw.ext.hblk g k arr e hg hm hbk
 have hagree:∀id bx,h'.lookup id=some bx->MM bx.gen=M' bx.gen:=by
  intro id bx hlk;obtain⟨_,_,m,hm,_⟩:=hw.heap.box id bx hlk
  grind
 have hSs:∀g k o,Live hs g->M g=some (some k)->S' k o->S k o:=by
  intro g k o hl hm hs';rcases hw.Snew k o hs' with h1 | h1 | h1
  ·omega
  ·have:=(hr.wr.Mnew g k hm).1;grind
  grind
 refine⟨v,r,h'++hs,S',MM,clk',he,hk,⟨hr.size,hr.defers,fun t=>(hr.env t).mono hx,?_⟩,zaao hCr hro hagree⟩;have hlook:∀id bx,(h'++hs).lookup id=some bx->h'.lookup id=some bx\/(h'.lookup id=none/\hs.lookup id=some bx):=by
  intro id bx hb;rw[zck]at hb
  simp_all
 refine⟨⟨fun b bx hb=>?_,fun g m hm=>?_,fun b bx b' bx' h1 h2 hg=>?_,fun g g' k h1 h2=>?_⟩,hr.wr.ext.trans hx,?_,fun k o hs'=>?_,hw.Slt,fun g k hm=>?_⟩
 ·rcases hlook b bx hb with h1 | ⟨_,h1⟩
  ·obtain⟨b1,b2,m,hm,b3⟩:=hw.heap.box b bx h1;refine⟨b1,b2,m,by grind,?_⟩;cases m with
   | none=>omega
   | some k=>
    by_cases hmp:bx.kind=.mp
    ·exact ckP hmp (ckP' hmp b3)
    obtain⟨arr,e,hh,hsz,hc,ho,hl⟩:=ck' hmp b3;refine ck hmp ⟨arr,e,hh,hsz,fun i r j c hi hj=>?_,ho,hl⟩;obtain⟨u,hu,hone,hC,hP⟩:=hc i r j c hi hj;refine⟨u,hu,hone,?_,hP⟩;by_cases hkd:bx.kind=.str
    ·have hmem:(b,bx)∈h':=by
      induction h' with
      | nil=>grind
      | cons p l ih=>
       obtain⟨b',bx'⟩:=p;simp only[Yas]at h1;split at h1
       ·grind
       ·exact Yh _ (by
         have:∀(l:Heap),l.lookup b=some bx->(b,bx)∈l:=by
          intro l
          induction l with
          | nil=>grind
          | cons q l ih2=>
           grind
         grind)
     have h5:=Yl.1 hho _ hmem;simp only[hkd]at h5;have h6:=Yl.1 (Yl.1 h5 r (Yc hi)) c (Yc hj);exact zs4 hC h6 hagree
    ·exact .p (hP hkd)
  ·have hl:Live hs bx.gen:=⟨b,bx,h1,rfl⟩;exact(hr.wr.heap.box b bx (hls _ _ h1)).mono hx (hMM1 _ hl) (fun k hm=>hsame _ k hl hm) fun k o hm hs'=>hSs _ k o hl hm hs'
 ·by_cases hl:Live hs g
  ·obtain⟨b,bx,h1,h2⟩:=hl
   grind
  ·rw[hMM2 g hl]at hm;obtain⟨b,bx,h1,h2⟩:=hw.heap.live g m hm
   grind
 ·have mix:∀b bx b' bx',h'.lookup b=some bx->hs.lookup b'=some bx'->bx.gen=bx'.gen->False:=by
   intro b bx b' bx' h1 h2 hg;obtain⟨_,_,m,hm,_⟩:=hw.heap.box b bx h1;exact hM's bx'.gen m ⟨b',bx',h2,rfl⟩ (by grind)
  rcases hlook b bx h1 with h1 | ⟨_,h1⟩<;>rcases hlook b' bx' h2 with h2 | ⟨_,h2⟩
  ·exact hw.heap.gens _ _ _ _ h1 h2 hg
  ·grind
  ·grind
  ·exact hr.wr.heap.gens _ _ _ _ (hls _ _ h1) (hls _ _ h2) hg
 ·have mix:∀g1 g2,Live hs g1->M g1=some (some k)->M' g2=some (some k)->False:=by
   intro g1 g2 hl hm1 hm2;rcases(hw.Mnew g2 k hm2).2 with h3 | h3
   ·have:=(hr.wr.Mnew g1 k hm1).1;grind
   grind
  by_cases l1:Live hs g<;>by_cases l2:Live hs g'
  ·rw[hMM1 _ l1]at h1;rw[hMM1 _ l2]at h2;exact hr.wr.heap.inj _ _ _ h1 h2
  ·grind
  ·grind
  ·rw[hMM2 _ l1]at h1;rw[hMM2 _ l2]at h2;exact hw.heap.inj _ _ _ h1 h2
 ·refine⟨hw.fr.os.trans hr.wr.fr.os,hw.fr.tape.trans hr.wr.fr.tape,hw.fr.output.trans hr.wr.fr.output,Yd hr.wr.fr.size hw.fr.size,fun k hk hn=>?_⟩;have:=hr.wr.fr.size;rw[hw.fr.block k (by grind) fun⟨g,hm⟩=>?_]
  ·exact hr.wr.fr.block k hk hn
  ·rcases(hr.wr.Mnew g k (hMb1 g _ hm).2).2 with h3 | h3
   all_goals grind
 ·have hsz:=hr.wr.fr.size;rcases hw.Snew k o hs' with h1 | h1 | ⟨g,h1⟩
  ·exact hr.wr.Snew k o h1
  ·grind
  ·rcases(hr.wr.Mnew g k (hMb1 g _ h1).2).2 with h3 | h3
   all_goals grind
 ·have hsz:=hr.wr.fr.size;by_cases hl:Live hs g
  ·rw[hMM1 g hl]at hm;exact⟨Ym (hr.wr.Mnew g k hm).1 hw.fr.size,(hr.wr.Mnew g k hm).2⟩
  ·rw[hMM2 g hl]at hm;obtain⟨h1,h2⟩:=hw.Mnew g k hm;refine⟨h1,?_⟩;rcases h2 with h2 | ⟨g2,h2⟩
   ·grind
   ·exact(hr.wr.Mnew g2 k (hMb1 g2 _ h2).2).2
def zs5{x y:AV}(hf:Zaw h x=some y):∀id bx,id∈refs x->h.lookup id=some bx->bx.kind≠.str/\bx.kind≠.mp:=zc6 (zgu hf)
theorem zy0(hh:HeapRel w S M clk h):∀(ms:List Bool) (xs ys:List AV),Zhn h ms xs=some ys ->
  ys.length=xs.length/\(∀id bx,id∈Zc4 ms xs->h.lookup id=some bx->bx.kind≠.str/\bx.kind≠.mp) /\
  ∀(ids:List BId),(∀id,id∈Zc4 ms xs->id∈ids)->∀(j:Nat) (v:Value) (x y:AV),xs[j]? = some x->ys[j]? = some y->C w S M clk v x->C w (Zbm h M ids S) M clk v y
 | ms,[],ys,hm=>by
  have:ys=[]:=by cases ms<;>(simp[Zhn]at hm;exact hm)
  subst this;exact⟨rfl,fun id bx hid=>by cases ms<;>simp[Zc4]at hid,fun ids _ j v x y hx=>by simp at hx⟩
 | [],x::xs,ys,hm=>by simp[Zhn]at hm
 | m::ms,x::xs,ys,hm=>by
  obtain⟨y,hy,hm2⟩:=bind_some hm;obtain⟨zs,hz,rfl⟩:=map_some hm2;obtain⟨h1,h2,h3⟩:=zy0 hh ms xs zs hz;refine⟨by simp[h1],fun id bx hid hb=>?_,fun ids hids j v x' y' hx hy' hC=>?_⟩
  ·simp only[Zc4,Yaj]at hid;rcases hid with hid | hid
   ·cases m with
    | true=>simp at hid
    | false=>exact zs5 (by simpa using hy) id bx (by simpa using hid) hb
   ·exact h2 id bx hid hb
  ·simp only[Zc4,Yaj]at hids;cases j with
   | zero=>
    simp at hx hy';subst hx;subst hy';cases m with
    | true=>
     simp at hy;subst hy;exact hC.mono (zj1 ids)
    | false=>exact .p (zft hh hC (by simpa using hy) fun id hid=>hids id (.inl (by simpa using hid)))
   | succ j=>exact h3 ids (fun id hid=>hids id (.inr hid)) j v x' y' (by simpa using hx) (by simpa using hy') hC
def zcv{f:FuncId}{xs:List AV}{cargs:Array Value}{K:AV->Heap->Nat->Prop}(hr:RelF cx S M clk h ρ a w)(hc:Zfh P f xs h clk K)(hl:cargs.size=xs.length)(hC:∀(j:Nat) (v:Value) (c:AV),cargs[j]? = some v->xs[j]? = some c->C w S M clk v c) :
  Enters P f/\Calls P f cargs w fun e w'=>∃v r h' S' M' clk',e=.returned v/\K r h' clk'/\RelF cx S' M' clk' h' ρ a w'/\C w' S' M' clk' v r:=by
 obtain⟨ms,ys,hm,hc0⟩:=hc;obtain⟨h1,h2,h3⟩:=zy0 hr.wr.heap ms xs ys hm;refine zk2 (hr.share (Zc4 ms xs) h2) hc0 (by omega) fun j v c hv hy=>?_
 grind
end
end
section
open Go.RowKit
section
variable{P:Program}{cx:Cx}{w w':World}{S S':Nat->Nat->Prop}{M:Map}{clk:Nat}{h:Heap}{ρ:Nat->AV}{a:Act}
theorem zew(he:Zey w S M clk ρ a):∀(l:List (Nat×Operand)) (ps:List (Nat×Opd)),Zcg l=some ps ->
  (l.map fun p=>(p.1,a.eval p.2)).map (·.1)=(ps.map fun p=>(p.1,ev ρ p.2)).map (·.1) /\
  ∀(j:Nat) v x,(l.map fun p=>(p.1,a.eval p.2))[j]? = some v->(ps.map fun p=>(p.1,ev ρ p.2))[j]? = some x->C w S M clk v.2 x.2
 | [],ps,hr=>by simp only[Zcg,Option.some.injEq]at hr;subst hr;exact⟨rfl,fun j v x hv=>by simp at hv⟩
 | (i,x)::l,ps,hr=>by
  obtain⟨p,hp,hr2⟩:=bind_some hr;obtain⟨qs,hq,rfl⟩:=map_some hr2;obtain⟨h1,h2⟩:=zew he l qs hq;refine⟨by simpa using h1,fun j v y hv hy=>?_⟩;cases j with
  | zero=>simp at hv hy;subst hv;subst hy;exact ev_C he hp
  | succ j=>exact h2 j v y (by simpa using hv) (by simpa using hy)
theorem zcw{o:Oper}{next:Act->World->Prop}{Q:Exit->Act->World->Prop}{v:Value}(hrun:(execOp a.eval o).run P w=.ok (.value v) w')(hn:next (a.put o.dst v) w'):o.wp P a w next Q:=by
 grind[Oper.wp,Oper.upon_value]
def zgf{s:Sem Value}{v:Value}(hs:s.run P w=.ok v w'):(do pure (Next.value (<-s)):Sem Next).run P w=.ok (.value v) w':=by
 simp_all
def AOp.makes:AOp->Bool
 | .alloc .. | .store .. | .mks .. | .bsl .. => true
 | _=>false
def ziy{c:Call}{op:AOp}(hop:Zdr P (.call c)=some op):op.makes=false:=by
 replace hop:=zar hop;rcases hop with hop | ⟨k,xs,rfl,_⟩
 rotate_left
 ·rfl
 obtain⟨callee,args,ats⟩:=c;cases callee with
 | invoke r m=>
  obtain⟨p,hp,hr1⟩:=bind_some hop;obtain⟨l,hl,rfl⟩:=map_some hr1
  rfl
 | builtin b=>
  simp only[Zbe]at hop;revert hop
  repeat' split
  all_goals (intro hop;simp[Yf]at hop)
  all_goals first
   | (obtain⟨_,_,rfl⟩:=hop;rfl)
   | (subst hop;rfl)
   | (obtain⟨_,_,_,rfl⟩:=hop;rfl)
   | (obtain⟨_,_,_,_,rfl⟩:=hop;rfl)
   | (obtain⟨_,_,_,_,_,_,rfl⟩:=hop;rfl)
   | (obtain⟨_,_,_,_,_,rfl⟩:=hop;rfl)
   | (obtain⟨_,_,_,_,_,_,_,rfl⟩:=hop;rfl)
 | value fv=>
  cases fv<;>simp only[Zbe]at hop<;>try (cases hop;done)
  all_goals
   obtain⟨l,hl,rfl⟩:=map_some hop
   rfl
def zql{o:Op}{k:XOp}{xs:List Opd}(hop:Zbe P o=some (.xop k xs)):False:=by
 cases o<;>simp only[Zbe]at hop<;>try (cases hop;done)
 all_goals
  revert hop
  repeat' split
  all_goals simp[Yf]
def zb6{o:Oper}{op:AOp}{x:AV}{h':Heap}{clk':Nat}(hop:Zdr P o.op=some op)(hr:RelF cx S M clk h ρ a w)(hs:stepW op o.dst ρ h clk=some (x,h',clk')) :
  ∃v w' S' M',((execOp a.eval o).run P w=.ok (.value v) w'\/((execOp a.eval o).run P w=.ok .skip w'/\v=undef))/\RelF cx S' M' clk' h' ρ a w'/\C w' S' M' clk' v x:=by
 obtain⟨dst,oop,type,pos,after,guard⟩:=o;have hcall:∀c,oop=.call c->op.makes=false:=fun c hc=>ziy (by rw[<-hc];exact hop);have hop':=zar hop;clear hop;rcases hop' with hop | ⟨k,xs,he,hx⟩
 rotate_left
 ·subst he;rcases hx with hx | ⟨rfl,rfl⟩
  ·exact znz (o:=⟨dst,oop,type,pos,after,guard⟩) hx hr hs
  ·simp[stepW,Zao]at hs
 cases op<;>simp only[stepW]at hs<;>try (cases hs;done)
 case xop k xs=>exact(zql hop).elim
 case alloc zs=>
  obtain⟨t,hz,rfl⟩:∃t,zeros P t=some zs/\oop=.alloc t:=by
   cases oop<;>(try simp only[Zbe]at hop)
   case alloc t=>
    simp_all
   case call c=>exact absurd (hcall c rfl) (by simp[AOp.makes])
   all_goals
    exfalso;revert hop
    repeat' split
    all_goals simp[Yf]
  obtain⟨v',w',S',M',h1,h2,h3⟩:=zng hr hz hs;exact⟨v',w',S',M',.inl (zgf h1),h2,h3⟩
 case store n px pv=>
  obtain⟨t,y,v,hsz,hp,hq,rfl⟩:∃t y v,Zaq P t=some n/\Zj y=some px/\Zj v=some pv/\oop=.store t y v:=by
   cases oop<;>(try simp only[Zbe]at hop)
   case store t y v=>
    obtain⟨n',hn,hop1⟩:=bind_some hop;obtain⟨p,hp,hop2⟩:=bind_some hop1;obtain⟨q,hq,he⟩:=map_some hop2
    grind
   case call c=>exact absurd (hcall c rfl) (by simp[AOp.makes])
   all_goals
    exfalso;revert hop
    repeat' split
    all_goals simp[Yf]
  obtain⟨h1',hs1,he⟩:=map_some hs;cases he;obtain⟨w',S',M',h1,h2⟩:=znh hr hsz (ev_C hr.env hp) (ev_C hr.env hq) hs1;refine⟨undef,w',S',M',.inr ⟨?_,rfl⟩,h2,.p (.tup #[] [] rfl fun j v c hv=>by grind)⟩
  grind[execOp,Sem.run_bind,Result.andThen_ok,Sem.run_pure]
 case mks z zs pl pc=>
  obtain⟨t,l,c,e,inf,ht,hi,hby,hzs,hzl,hp,hq,hz,rfl⟩:∃t l c e inf,P.underlying t=some (.slice e)/\P.info? e=some inf/\inf.bytes<=32768/\zeros P e=some zs/\zs.length=inf.size/\Zj l=some pl/\Zj c=some pc/\inf.size=z/\oop=.makeSlice t l c:=by
   cases oop<;>(try simp only[Zbe]at hop)
   case makeSlice t l c=>
    split at hop
    ·split at hop
     ·split at hop
      ·obtain⟨zs',hzs,hop1⟩:=bind_some hop;split at hop1
       ·obtain⟨p,hp,hop2⟩:=bind_some hop1;obtain⟨q,hq,he⟩:=map_some hop2
        grind
       grind
      grind
     grind
    grind
   case call c=>exact absurd (hcall c rfl) (by simp[AOp.makes])
   all_goals
    exfalso;revert hop
    repeat' split
    all_goals simp[Yf]
  subst hz;obtain⟨v',w',S',M',h1,h2,h3⟩:=zs0 hr ht hi hby hzs hzl (ev_C hr.env hp) (ev_C hr.env hq) hs;exact⟨v',w',S',M',.inl (zgf h1),h2,h3⟩
 case app z px py=>
  cases oop<;>simp only[Zbe]at hop
  case call c=>
   obtain⟨callee,cargs,ats⟩:=c;cases callee with
   | invoke r m=>
    obtain⟨p,hp,hr1⟩:=bind_some hop
    simp_all
   | value fv=>
    cases fv<;>simp only at hop<;>try simp_all
    all_goals simp_all
   | builtin b=>
    simp only at hop;split at hop
    ·revert hop
     repeat' split
     all_goals simp
    ·obtain⟨l,_,hop1⟩:=bind_some hop;grind
    ·obtain⟨l,_,hop1⟩:=bind_some hop;grind
    ·rename_i y1 y2 t u hargs hts;split at hop
     ·rename_i htu;split at hop
      ·rename_i e ht;split at hop
       ·rename_i inf hi;split at hop
        ·rename_i hcond;obtain⟨h0,hby,hzs⟩:=hcond;obtain⟨p,hp,hop1⟩:=bind_some hop;obtain⟨q,hq,he⟩:=map_some hop1;cases he;obtain⟨zv,hzv,hzc⟩:∃zv,inf.zero=some zv/\zv.cells.size=inf.size:=by
          cases hzz:inf.zero with
          | none=>grind
          | some zv=>grind
         obtain⟨v',w',S',M',h1,h2,h3⟩:=zsy (P:=P) (ty:=type) hr ht hi h0 hby.1 hby.2 hzv hzc rfl (ev_C hr.env hp) (ev_C hr.env hq) hs;have ha:cargs=#[y1,y2]:=by grind
         have hat:ats=#[t,t]:=by grind
         subst ha;subst hat;exact⟨v',w',S',M',.inl (by simp[execOp,resolve,invoke,builtin,h1]),h2,h3⟩
        grind
       grind
      grind
     grind
    ·split at hop
     ·split at hop
      ·obtain⟨z,_,hop0⟩:=bind_some hop;split at hop0
       ·obtain⟨p,_,hop1⟩:=bind_some hop0
        simp_all
       grind
      grind
     grind
    grind
  all_goals
   exfalso;revert hop
   repeat' split
   all_goals simp[Yf]
def ziz{dst:Option Nat}{type:TypeId}{pos:_}{after:_}{guard:_}{cargs:Array Operand}{ats:Array TypeId}{rr:Operand}{nm:String}{t f:Nat}{v:Value}(hv:a.eval rr=.iface t v)(hm:Zd6 P t nm=some f)(hent:Enters P f) :
  (execOp a.eval { dst:=dst,op:=.call { callee:=.invoke rr nm,args:=cargs,argTypes:=ats },type:=type,pos:=pos,after:=after,guard:=guard }).run P w=.ok (.enter f (#[v]++cargs.map a.eval)) w:=by
 have e1:(#[Value.iface t v]++cargs.map a.eval)[0]? = some (.iface t v):=by grind
 have e2:(#[Value.iface t v]++cargs.map a.eval).extract 1 (#[Value.iface t v]++cargs.map a.eval).size=cargs.map a.eval:=by simp
 simp only[execOp,resolve,Sem.run_bind,Sem.run_pure,Result.andThen_ok,invoke,hv,e1,e2];rw[zqv hm];exact hent _ _
def zws{dst:Option Nat}{type:TypeId}{pos:_}{after:_}{guard:_}{cargs:Array Operand}{ats:Array TypeId}{t f:Nat}{v:Value}(hv:a.tmps.getD t undef=.func (.func f) #[] #[v])(hent:Enters P f) :
  (execOp a.eval { dst:=dst,op:=.call { callee:=.value (.tmp t),args:=cargs,argTypes:=ats },type:=type,pos:=pos,after:=after,guard:=guard }).run P w=.ok (.enter f (cargs.map a.eval ++ #[v])) w:=by
 have hv':a.eval (.tmp t)=.func (.func f) #[] #[v]:=hv;simp only[execOp,resolve,hv',Deferred.ofValue,Sem.run_bind,Sem.run_pure,Result.andThen_ok,invoke];have:=hent (cargs.map a.eval ++ #[v]) w
 grind
def zs6{dst:Option Nat}{type:TypeId}{pos:_}{after:_}{guard:_}{cargs:Array Operand}{ats:Array TypeId}{t f:Nat}{v:Value}(hv:a.tmps.getD t undef=.func (.func f) #[v] #[])(hent:Enters P f) :
  (execOp a.eval { dst:=dst,op:=.call { callee:=.value (.tmp t),args:=cargs,argTypes:=ats },type:=type,pos:=pos,after:=after,guard:=guard }).run P w=.ok (.enter f (#[v]++cargs.map a.eval)) w:=by
 have hv':a.eval (.tmp t)=.func (.func f) #[v] #[]:=hv;simp only[execOp,resolve,hv',Deferred.ofValue,Sem.run_bind,Sem.run_pure,Result.andThen_ok,invoke];have:=hent (#[v]++cargs.map a.eval) w
 grind
theorem zk3{st:St}{o:Oper}{op:AOp}{K:St->Prop}{next:Act->World->Prop}{Q:Exit->Act->World->Prop}(hop:Zdr P o.op=some op)(hd:∀e,o.dst=some e->e<cx.nt)
  (hr:RelF cx S M st.clk st.heap st.env.get a w) (hk:opK P op o.dst st K) (hn:∀st' a' w',K st'->Rel cx st' a' w'->next a' w'):o.wp P a w next Q:=by
 have quiet:okK (Zi op st.env.get st.heap) (fun x=>K ⟨Ze st.env o.dst x,st.heap,st.clk⟩)->o.wp P a w next Q:=by
  intro ⟨x,hx,hK⟩;obtain⟨v,hv,hC⟩:=zhb (P:=P) hop hr.env hr.wr.heap hx;exact zcw hv (hn _ _ _ hK (Rel.put hr hd hC))
 have wr:okK (stepW op o.dst st.env.get st.heap st.clk) (fun q=>K ⟨Ze st.env o.dst q.1,q.2.1,q.2.2⟩)->o.wp P a w next Q:=by
  intro ⟨⟨x,h',c'⟩,hs,hK⟩;obtain⟨v,w',S',M',h1,h2,h3⟩:=zb6 hop hr hs;rcases h1 with h1 | ⟨h1,rfl⟩
  ·exact zcw h1 (hn _ _ _ hK (Rel.put h2 hd h3))
  ·unfold Oper.wp;rw[h1,Oper.upon_skip];exact hn _ _ _ hK (Rel.put h2 hd h3)
 have call:∀f args,op=.call f args->o.wp P a w next Q:=by
  intro f args he;subst he;obtain⟨dst,oop,type,pos,after,guard⟩:=o;obtain⟨cargs,ats,hcall,hl⟩:=zco hop;subst hcall;obtain⟨h1,h2⟩:=zbp hr.env _ _ hl;have hsz:(cargs.map a.eval).size=(args.map (ev st.env.get)).length:=by grind
  have hC:∀(j:Nat) (v:Value) (c:AV),(cargs.map a.eval)[j]? = some v->(args.map (ev st.env.get))[j]? = some c->C w S M st.clk v c:=
   fun j v c hv hc=>h2 j v c (by grind) hc
  have hexec:Enters P f->(execOp a.eval { dst:=dst,op:=.call { callee:=.value (.func f),args:=cargs,argTypes:=ats },type:=type,pos:=pos,after:=after,guard:=guard }).run P w=.ok (.enter f (cargs.map a.eval)) w:=by
   intro hent;simp only[execOp,resolve,Act.eval,Deferred.ofValue,Sem.run_bind,Sem.run_pure,Result.andThen_ok,invoke];have:=hent (cargs.map a.eval) w
   grind
  rcases hk with hk | hk
  ·obtain⟨hent,hc⟩:=zcu hr hk hsz hC;unfold Oper.wp;rw[hexec hent,Oper.upon_enter];refine hc.mono fun e w' ⟨v,r,h',S',M',he,hK,hr',hC'⟩=>?_;subst he;exact hn _ _ _ hK (Rel.put hr' hd hC')
  ·obtain⟨hent,hc⟩:=zcv hr hk hsz hC;unfold Oper.wp;rw[hexec hent,Oper.upon_enter];refine hc.mono fun e w' ⟨v,r,h',S',M',clk',he,hK,hr',hC'⟩=>?_;subst he;exact hn _ _ _ hK (Rel.put hr' hd hC')
 obtain⟨dst,oop,type,pos,after,guard⟩:=o;have hop':=zar hop;clear hop;rcases hop' with hop | ⟨k,xs,he,hx⟩
 rotate_left
 ·subst he;exact wr hk
 cases oop<;>simp only[Zbe]at hop<;>try (cases hop;done)
 case alloc t=>
  obtain⟨zs,hz,rfl⟩:=map_some hop;exact wr hk
 case makeInterface t y=>
  split at hop
  ·split at hop
   ·grind
   ·obtain⟨p,hp,rfl⟩:=map_some hop;exact quiet hk
  grind
 case buildSlice t len parts=>
  split at hop
  ·rename_i e ht;obtain⟨z,hz,hop1⟩:=bind_some hop;split at hop1
   ·rename_i hlim;obtain⟨zs,hzs,hop2⟩:=bind_some hop1;split at hop2
    ·rename_i hzl;obtain⟨ps,hps,rfl⟩:=map_some hop2;obtain⟨⟨r,h'⟩,hs,hK⟩:=hk;obtain⟨h1,h2⟩:=zew hr.env _ _ hps;obtain⟨v',w',S',M',h3,h4,h5⟩:=zk1 (parts:=Array.map (fun(x:Nat×Operand)=>(x.fst,a.eval x.snd)) parts) hr ht hz hlim.1 hlim.2 hzs hzl (by simp_all) (fun j v x hv hx=>h2 j v x (by grind) hx) hs;exact zcw (w':=w') (zgf h3) (hn _ _ _ hK (Rel.put h4 hd h5))
    grind
   grind
  grind
 case store t y v=>
  obtain⟨n,hsz,hop1⟩:=bind_some hop;obtain⟨p,hp,hop2⟩:=bind_some hop1;obtain⟨q,hq,rfl⟩:=map_some hop2;exact wr hk
 case makeSlice t l c=>
  split at hop
  ·split at hop
   ·split at hop
    ·obtain⟨zs,hzs,hop1⟩:=bind_some hop;split at hop1
     ·obtain⟨p,hp,hop2⟩:=bind_some hop1;obtain⟨q,hq,rfl⟩:=map_some hop2;exact wr hk
     grind
    grind
   grind
  grind
 case call c=>
  obtain⟨callee,cargs,ats⟩:=c;cases callee with
  | invoke r m=>
   obtain⟨p,hp,hr1⟩:=bind_some hop;obtain⟨l,hl,rfl⟩:=map_some hr1;rcases hk with ⟨_,hk⟩ | ⟨h0,_⟩ | ⟨h0,_⟩
   rotate_left
   ·omega
   ·omega
   obtain⟨t,y,f,hy,hm,hk⟩:=hk;have hCr:=ev_C hr.env hp;rw[hy]at hCr;obtain⟨v,hv,hCy⟩:=hCr.inv_ifc;obtain⟨h1,h2⟩:=zbp hr.env _ _ hl;have hsz:(#[v]++cargs.map a.eval).size=(y::l.map (ev st.env.get)).length:=by
    grind
   have hC:∀(j:Nat) (u:Value) (c:AV),(#[v]++cargs.map a.eval)[j]? = some u->(y::l.map (ev st.env.get))[j]? = some c->C w S M st.clk u c:=by
    grind
   have hexec:=ziz (P:=P) (w:=w) (dst:=dst) (type:=type) (pos:=pos) (after:=after) (guard:=guard) (ats:=ats) (cargs:=cargs) hv hm;rcases hk with hk | hk
   ·obtain⟨hent,hc⟩:=zcu hr hk hsz hC;unfold Oper.wp;rw[hexec hent,Oper.upon_enter];refine hc.mono fun e w' ⟨v,r,h',S',M',he,hK,hr',hC'⟩=>?_;subst he;exact hn _ _ _ hK (Rel.put hr' hd hC')
   ·obtain⟨hent,hc⟩:=zcv hr hk hsz hC;unfold Oper.wp;rw[hexec hent,Oper.upon_enter];refine hc.mono fun e w' ⟨v,r,h',S',M',clk',he,hK,hr',hC'⟩=>?_;subst he;exact hn _ _ _ hK (Rel.put hr' hd hC')
  | value fv=>
   cases fv<;>simp only at hop<;>try (cases hop;done)
   case func f=>obtain⟨l,hl,rfl⟩:=map_some hop;grind
   case tmp tt=>
    obtain⟨l,hl,rfl⟩:=map_some hop;rcases hk with ⟨h0,_⟩ | ⟨_,hk⟩ | ⟨_,hk⟩
    ·omega
    ·obtain⟨f,y,hy,hk⟩:=hk;have hCr:=hr.env tt;rw[show st.env.get tt=_ from hy]at hCr;obtain⟨v,hv,hCy⟩:=hCr.inv_fnv;obtain⟨h1,h2⟩:=zbp hr.env _ _ hl;have hsz:(#[v]++cargs.map a.eval).size=(y::l.map (ev st.env.get)).length:=by
      grind
     have hC:∀(j:Nat) (u:Value) (c:AV),(#[v]++cargs.map a.eval)[j]? = some u->(y::l.map (ev st.env.get))[j]? = some c->C w S M st.clk u c:=by
      intro j u c hu hc;cases j with
      | zero=>
       rw[Yb4 (by simp)]at hu;cases hu;cases hc;exact .p hCy
      | succ j=>
       grind
     have hexec:=zs6 (P:=P) (a:=a) (w:=w) (dst:=dst) (type:=type) (pos:=pos) (after:=after) (guard:=guard) (ats:=ats) (cargs:=cargs) hv;rcases hk with hk | hk
     ·obtain⟨hent,hc⟩:=zcu hr hk hsz hC;unfold Oper.wp;rw[hexec hent,Oper.upon_enter];refine hc.mono fun e w' ⟨v,r,h',S',M',he,hK,hr',hC'⟩=>?_;subst he;exact hn _ _ _ hK (Rel.put hr' hd hC')
     ·obtain⟨hent,hc⟩:=zcv hr hk hsz hC;unfold Oper.wp;rw[hexec hent,Oper.upon_enter];refine hc.mono fun e w' ⟨v,r,h',S',M',clk',he,hK,hr',hC'⟩=>?_;subst he;exact hn _ _ _ hK (Rel.put hr' hd hC')
    obtain⟨f,id,g,z,i,oo,hy,hf0,hk⟩:=hk;have hCr:=hr.env tt;rw[show st.env.get tt=_ from hy]at hCr;obtain⟨v,hv,hg,hpo,h1v⟩:=hCr.inv_fnp;rw[znd hf0]at hv;obtain⟨h1,h2⟩:=zbp hr.env _ _ hl;have hsz:(cargs.map a.eval ++ #[v]).size=(l.map (ev st.env.get)++[AV.ptr id g z i oo]).length:=by
     grind
    have hC:∀(j:Nat) (u:Value) (c:AV),(cargs.map a.eval ++ #[v])[j]? = some u->(l.map (ev st.env.get)++[AV.ptr id g z i oo])[j]? = some c->C w S M st.clk u c:=by
     intro j u c hu hc;have hs:cargs.size=l.length:=by omega
     rcases Yv j l.length with hj | hj
     ·grind
     ·rw[Array.getElem?_append_right (by grind)]at hu;rw[Ye (by grind)]at hc;simp only[Array.size_map,Yw,hs]at hu hc;cases hq:j-l.length with
      | succ q=>grind
      | zero=>
       rw[hq]at hu hc;simp at hu hc;subst hu;subst hc;exact .ptr _ _ _ _ _ _ hg hpo h1v
    have hexec:=zws (P:=P) (a:=a) (w:=w) (dst:=dst) (type:=type) (pos:=pos) (after:=after) (guard:=guard) (ats:=ats) (cargs:=cargs) hv;rcases hk with hk | hk
    ·obtain⟨hent,hc⟩:=zcu hr hk hsz hC;unfold Oper.wp;rw[hexec hent,Oper.upon_enter];refine hc.mono fun e w' ⟨v,r,h',S',M',he,hK,hr',hC'⟩=>?_;subst he;exact hn _ _ _ hK (Rel.put hr' hd hC')
    ·obtain⟨hent,hc⟩:=zcv hr hk hsz hC;unfold Oper.wp;rw[hexec hent,Oper.upon_enter];refine hc.mono fun e w' ⟨v,r,h',S',M',clk',he,hK,hr',hC'⟩=>?_;subst he;exact hn _ _ _ hK (Rel.put hr' hd hC')
  | builtin b=>
   simp only at hop;split at hop
   ·split at hop
    ·obtain⟨p,_,rfl⟩:=map_some hop;exact quiet hk
    ·obtain⟨p,_,rfl⟩:=map_some hop;exact quiet hk
    ·cases hop;exact quiet hk
    grind
   ·obtain⟨l,_,hop1⟩:=bind_some hop;split at hop1<;>cases hop1;exact quiet hk
   ·obtain⟨l,_,hop1⟩:=bind_some hop;split at hop1<;>cases hop1;exact quiet hk
   ·split at hop
    ·rename_i htu;split at hop
     ·split at hop
      ·split at hop
       ·obtain⟨p,hp,hop1⟩:=bind_some hop;obtain⟨q,hq,rfl⟩:=map_some hop1;exact wr hk
       grind
      grind
     grind
    grind
   ·split at hop
    ·split at hop
     ·obtain⟨z,_,hop0⟩:=bind_some hop;split at hop0
      ·obtain⟨p,_,hop1⟩:=bind_some hop0;obtain⟨q,_,rfl⟩:=map_some hop1;exact quiet hk
      grind
     grind
    grind
   grind
 case convert s d y=>
  split at hop
  ·obtain⟨p,hp,rfl⟩:=map_some hop;exact quiet hk
  ·split at hop
   ·obtain⟨p,hp,rfl⟩:=map_some hop;exact quiet hk
   grind
  grind
 case move y=>obtain⟨p,hp,rfl⟩:=map_some hop;exact quiet hk
 case assign y=>obtain⟨p,hp,rfl⟩:=map_some hop;exact quiet hk
 case pick c u v=>
  obtain⟨c',hc,hop1⟩:=bind_some hop;obtain⟨u',hu,hop2⟩:=bind_some hop1;obtain⟨v',hv,rfl⟩:=map_some hop2;exact quiet hk
 case build t parts=>
  split at hop
  ·split at hop
   ·obtain⟨zs,hz,hop1⟩:=bind_some hop;obtain⟨ps,hp,rfl⟩:=map_some hop1;exact quiet hk
   grind
  ·obtain⟨n,_,hop0⟩:=bind_some hop;obtain⟨zs,hz,hop1⟩:=bind_some hop0;obtain⟨ps,hp,rfl⟩:=map_some hop1;exact quiet hk
  grind
 case load t y=>
  obtain⟨n,hn',hop1⟩:=bind_some hop;obtain⟨p,hp,rfl⟩:=map_some hop1;exact quiet hk
 case nilCheck y=>obtain⟨p,hp,rfl⟩:=map_some hop;exact quiet hk
 case binOp op' t y z _=>
  obtain⟨p,hp,hop1⟩:=bind_some hop;obtain⟨q,hq,hop2⟩:=bind_some hop1;split at hop2
  ·cases hop2;exact quiet hk
  ·cases hop2;exact quiet hk
  ·cases op'<;>cases hop2<;>exact quiet hk
  ·split at hop2
   ·cases op'<;>try cases hop2
    ·obtain⟨ls,hl,rfl⟩:=map_some hop2;exact quiet hk
    ·obtain⟨ls,hl,rfl⟩:=map_some hop2;exact quiet hk
   grind
  ·split at hop2
   ·cases op'<;>cases hop2<;>exact quiet hk
   grind
  grind
 case unOp op' t y=>obtain⟨p,hp,rfl⟩:=map_some hop;exact quiet hk
 case slice t y lo hi mx=>
  split at hop
  ·obtain⟨z,hz,hop1⟩:=bind_some hop;obtain⟨p,hp,hop2⟩:=bind_some hop1;obtain⟨lo',hlo,hop3⟩:=bind_some hop2;obtain⟨hi',hhi,hop4⟩:=bind_some hop3;obtain⟨mx',hmx,hop5⟩:=bind_some hop4;split at hop5<;>cases hop5;exact quiet hk
  ·split at hop
   ·obtain⟨p,hp,hop2⟩:=bind_some hop;obtain⟨lo',hlo,hop3⟩:=bind_some hop2;obtain⟨hi',hhi,rfl⟩:=map_some hop3;exact quiet hk
   grind
  grind
 case fieldAddr t y i=>
  split at hop
  ·split at hop
   ·obtain⟨n,hn',hop1⟩:=bind_some hop;split at hop1
    ·grind
    ·obtain⟨p,hp,rfl⟩:=map_some hop1;exact quiet hk
   grind
  grind
 case field t y i=>
  split at hop
  ·split at hop
   ·obtain⟨n,hn',hop1⟩:=bind_some hop;obtain⟨p,hp,rfl⟩:=map_some hop1;exact quiet hk
   grind
  grind
 case indexAddr t y i=>
  split at hop
  ·obtain⟨z,hz,hop1⟩:=bind_some hop;obtain⟨p,hp,hop2⟩:=bind_some hop1;obtain⟨q,hq,rfl⟩:=map_some hop2;exact quiet hk
  ·obtain⟨z,hz,hop1⟩:=bind_some hop;obtain⟨p,hp,hop2⟩:=bind_some hop1;obtain⟨q,hq,rfl⟩:=map_some hop2;exact quiet hk
  grind
 case index t y i=>
  split at hop
  ·obtain⟨p,hp,hop2⟩:=bind_some hop;obtain⟨q,hq,rfl⟩:=map_some hop2;exact quiet hk
  ·obtain⟨z,hz,hop1⟩:=bind_some hop;obtain⟨k,hk',hop3⟩:=bind_some hop1;obtain⟨p,hp,hop2⟩:=bind_some hop3;obtain⟨q,hq,rfl⟩:=map_some hop2;exact quiet hk
  grind
 case extract y i=>obtain⟨p,hp,rfl⟩:=map_some hop;exact quiet hk
 case lookup t y i ok=>
  split at hop
  ·obtain⟨k,_,hr1⟩:=bind_some hop;obtain⟨zv,_,hr2⟩:=bind_some hr1;obtain⟨p,_,hr3⟩:=bind_some hr2;obtain⟨q,_,rfl⟩:=map_some hr3;exact quiet hk
  ·cases hop
end
end
section
open Go.RowKit
def opQ(P:Program)(op:AOp)(e:Env)(h:Heap)(older:List Heap)(K:AV->Prop):Prop:=
 match op with
 | .call f args=>∃ys,(Zb0 h (args.map (ev e.get))=some ys/\((args.map (ev e.get)).all noRef=false->∀h'∈older,Zb0 h' (args.map (ev e.get))=some ys))/\∃r,Z6 P f ys (·=r)/\K r
 | .inv nm _ u r args=>u=0/\∃t y f,ev e.get r=.ifc t y/\Zd6 P t nm=some f/\((drp1 y::args.map (ev e.get)).all noRef=true)/\∃x,Z6 P f (drp1 y::args.map (ev e.get)) (·=x)/\K x
 | .bsl z zs len ps=>((ps.map fun p=>(p.1,ev e.get p.2)).all fun p=>noRef p.2)=true/\okK (Zds z zs len [] (ps.map fun p=>(p.1,ev e.get p.2))) fun q=>K q.1
 | .app z (.c (.sl [] .nl)) y=>okK (Zf8 z (ev e.get y)) K
 | op=>okK (Zi op e.get h) fun x=>(match op.free with | true=>True | false=>∀h'∈older,Zi op e.get h'=some x)/\K x
def qK(P:Program)(o:AO)(e:Env)(h:Heap)(older:List Heap)(K:AV->Prop):Prop:=
 match o.guard with
 | none=>opQ P o.op e h older K
 | some (t,want)=>
  match e.get t with
  | .b v=>if v=want then opQ P o.op e h older K else K (.tup [])
  | .tup []=>K (.tup [])
  | _=>False
abbrev Zho:=List (Nat×(Heap->Prop))
def Ze0(P:Program):List DO->Env->Heap->Nat->List Heap->Zho->(St->Prop)->Prop
 | [],e,h,clk,_,_,K=>K ⟨e,h,clk⟩
 | o::r,e,h,clk,older,pend,K=>
  match o.ao.op.writes with
  | true=>o.ao.guard=none/\okK (stepW o.ao.op o.ao.dst e.get h clk) fun q=>(∀p∈pend,0<p.1->p.2 q.2.1)/\Ze0 P r (Ze e o.ao.dst q.1) q.2.1 q.2.2 (h::older) (pend.map fun p=>(p.1-1,p.2)) K
  | false=>qK P o.ao e h (older.take (older.length-o.lo)) fun x=>Ze0 P r (Ze e o.ao.dst x) h clk older ((o.hi-older.length,fun h'=>QF P h' o.ao e.get x)::pend) K
def Zli(P:Program)(l:List DO)(st:St)(K:St->Prop):Prop:=Ze0 P l st.env st.heap st.clk [] [] K
section
variable{P:Program}{cx:Cx}{w w':World}{S S':Nat->Nat->Prop}{M:Map}{clk:Nat}{h:Heap}{ρ:Nat->AV}{a:Act}
theorem zag{nt:Nat}{ops:Array Oper}{o:Oper}{ao:AO}(hao:Za6 P nt ops o=some ao):∃op g,Zdr P o.op=some op/\Zaz ops o.guard=some g/\ao=⟨o.dst,g,op⟩/\∀e,o.dst=some e->e<nt:=by
 obtain⟨op,hop,hao1⟩:=bind_some hao;obtain⟨g,hg,hao2⟩:=bind_some hao1
 grind
theorem zbj{ops:Array Oper}{o:Oper}(hg:Zaz ops o.guard=some none)(a:Act):Region.wanted o (yielded ops a.tmps)=true:=by
 have hgn:o.guard=none:=by
  unfold Zaz at hg;split at hg
  ·omega
  ·obtain⟨d,_,hd⟩:=map_some hg;grind
 unfold Region.wanted
 grind
theorem zni{ops:Array Oper}{o:Oper}{t:Nat}{want v:Bool}{x:AV}(hg:Zaz ops o.guard=some (some (t,want)))(hC:C w S M clk (a.tmps.getD t undef) x)(hx:x=.b v):Region.wanted o (yielded ops a.tmps)=(v == want):=by
 obtain⟨j,hgj,hjd⟩:∃j,o.guard=some (j,want)/\(ops[j]?).bind (·.dst)=some t:=by
  unfold Zaz at hg;split at hg
  ·grind
  ·obtain⟨d,hd,he⟩:=map_some hg
   grind
 subst hx;have hv:=hC.inv_b;unfold Region.wanted;simp only[yielded];cases hq:a.tmps[t]? with
 | none=>simp[hq,undef]at hv
 | some u=>
  simp_all
theorem zk4{ops:Array Oper}{o:Oper}{t:Nat}{want:Bool}{x:AV}{vs:List AV}(hg:Zaz ops o.guard=some (some (t,want)))(hC:C w S M clk (a.tmps.getD t undef) x)(hx:x=.tup vs):Region.wanted o (yielded ops a.tmps)=false:=by
 obtain⟨j,hgj,hjd⟩:∃j,o.guard=some (j,want)/\(ops[j]?).bind (·.dst)=some t:=by
  unfold Zaz at hg;split at hg
  ·grind
  ·obtain⟨d,hd,he⟩:=map_some hg
   grind
 subst hx;obtain⟨us,hv,_⟩:=hC.inv_tup;unfold Region.wanted;simp only[yielded];cases hq:a.tmps[t]? with
 | none=>grind
 | some u=>
  simp_all
def zs7:C w S M clk undef (.tup []):=.p (.tup #[] [] rfl fun j v c hv=>by grind)
theorem zcp{nt:Nat}{ops:Array Oper}{Q:Exit->Act->World->Prop}(hnt:nt=cx.nt):∀(l:List Oper) (aos:List AO) (st:St) (K:St->Prop) (a:Act) (w:World),Z8 P nt ops l=some aos->Zdd P aos st K->Rel cx st a w ->
  (∀st' a' w',K st'->Rel cx st' a' w'->Q .normal a' w')->wpList P ops Q l a w
 | [],aos,st,K,a,w,hres,hk,hr,hQ=>by
  simp only[Z8,Option.some.injEq]at hres;subst hres;exact hQ st a w hk hr
 | o::l,aos,st,K,a,w,hres,hk,hr,hQ=>by
  obtain⟨ao,hao,hres1⟩:=bind_some hres;obtain⟨rest,hrest,rfl⟩:=map_some hres1;obtain⟨op,g,hop,hg,rfl,hd⟩:=zag hao;subst hnt;simp only[Zdd,Zgx]at hk;refine wpList_step fun N hN=>?_;have next:∀st' a' w',Zdd P rest st' K->Rel cx st' a' w'->N a' w':=fun st' a' w' h1 h2=>hN a' w' (zcp rfl l rest st' K a' w' hrest h1 h2 hQ)
  obtain⟨S,M,hrf⟩:=hr;have skip:Zdd P rest ⟨Ze st.env o.dst (.tup []),st.heap,st.clk⟩ K->N (a.put o.dst undef) w:=fun h1=>next _ _ _ h1 (Rel.put hrf hd zs7)
  cases g with
  | none=>
   grind[zbj,zk3]
  | some tw=>
   obtain⟨t,want⟩:=tw;have hC:=hrf.env t
   grind[zni,zk3,zk4]
def zs8{o:Op}{nm:String}{k u:Nat}{r:Opd}{args:List Opd}(hop:Zdr P o=some (.inv nm k u r args))(hu:u=0) :
  ∃rr cargs ats,o=.call { callee:=.invoke rr nm,args:=cargs,argTypes:=ats }/\Zj rr=some r/\Zbu cargs.toList=some args:=by
 replace hop:=zar hop;rcases hop with hop | ⟨k,xs,he,_⟩
 rotate_left
 ·grind
 cases o<;>simp only[Zbe]at hop
 case call c=>
  obtain⟨callee,cargs,ats⟩:=c;cases callee with
  | invoke rr m=>
   obtain⟨p,hp,hr1⟩:=bind_some hop;obtain⟨l,hl,he⟩:=map_some hr1;injection he with h1 h2 h3 h4 h5
   subst h1 h4 h5
   grind
  | builtin b=>
   exfalso;revert hop;simp only
   repeat' split
   all_goals simp[Yf]
  | value fv=>
   cases fv<;>simp only at hop<;>try simp_all
   all_goals simp_all
 all_goals
  exfalso;revert hop
  repeat' split
  all_goals simp[Yf]
def RelF.heap_congr{cx:Cx}{h h2:Heap}{ρ:Nat->AV}{a:Act}(he:∀id,h2.lookup id=h.lookup id)(hr:RelF cx S M clk h ρ a w):RelF cx S M clk h2 ρ a w:=
 ⟨hr.size,hr.defers,hr.env,⟨⟨fun b bx hb=>hr.wr.heap.box b bx (by grind),fun g m hm=>by
   obtain⟨b,bx,h1,h2⟩:=hr.wr.heap.live g m hm
   grind,fun b bx b' bx' h1 h2 hg=>hr.wr.heap.gens b bx b' bx' (by grind) (by grind) hg,hr.wr.heap.inj⟩,hr.wr.ext,hr.wr.fr,hr.wr.Snew,hr.wr.Slt,hr.wr.Mnew⟩⟩
def zqm{ids:List BId}(hk:∀id bx,id∈ids->h.lookup id=some bx->bx.kind=.sh)(b:BId):h.lookup b=(Zx ids h).lookup b:=by
 rw[zdw];cases hb:h.lookup b with
 | none=>rfl
 | some bx=>
  split
  ·rename_i hc;cases bx
   grind
  ·rfl
theorem zwt{x:AV}(hx:shR h x=true):∀id bx,id∈refs x->h.lookup id=some bx->bx.kind=.sh:=by
 intro id bx hid hb;have:=Yl.1 hx id hid
 grind
def zzv{vs:List Value}:∀{xs ys:List AV},Zb0 h xs=some ys->vs.length=xs.length->HeapRel w S M clk h->(∀(j:Nat) (v:Value) (c:AV),vs[j]? = some v->xs[j]? = some c->C w S M clk v c) ->
  ∃ids:List BId,(∀id bx,id∈ids->h.lookup id=some bx->bx.kind=.sh)/\vs.length=ys.length/\∀(j:Nat) (v:Value) (c:AV),vs[j]? = some v->ys[j]? = some c->CP w (Zbm h M ids S) v c:=by
 intro xs ys hf hl hh hc;refine⟨(xs.filter fun x=>!noRef x).flatMap refs,fun id bx hid hb=>?_,?_⟩
 ·obtain⟨x,hx,hix⟩:=Y6.1 hid;clear hc hl hid
  induction xs generalizing ys with
  | nil=>grind
  | cons x0 xs ih=>
   obtain⟨y,hy,hf1⟩:=bind_some hf;obtain⟨ys',hys,_⟩:=map_some hf1
   grind[Zhq,zwt]
 ·have key:∀(xs ys:List AV),Zb0 h xs=some ys->xs.length=ys.length/\∀(j:Nat) (x y:AV),xs[j]? = some x->ys[j]? = some y->Zhq h x=some y:=by
   intro xs
   induction xs with
   | nil=>grind[Zb0]
   | cons x0 xs ih=>
    intro ys h0;obtain⟨y,hy,hf1⟩:=bind_some h0;obtain⟨ys',hys,rfl⟩:=map_some hf1
    grind
  obtain⟨k1,k2⟩:=key xs ys hf;refine⟨by omega,fun j v y hv hy=>?_⟩;have hj:j<xs.length:=by grind
  have hx:xs[j]? = some (xs[j]'hj):=Ya hj;have hC:=hc j v _ hv hx;have hfj:=k2 j _ _ hx hy;unfold Zhq at hfj;split at hfj
  ·rename_i hn;cases hfj;exact(hC.mono (zj1 _)).noRef hn
  grind[zft]
theorem za1{nt:Nat}{ops:Array Oper}{Q':Exit->Act->World->Prop}{i:Nat}{o:Oper}{ao:AO}{x:AV}{K:Act->World->Prop}(ho:ops[i]? = some o)(hnt:nt=cx.nt)
  (hao:Za6 P nt ops o=some ao) (hq:QF P h ao ρ x) (hr:Zb1 cx clk h ρ a w) (hK:∀a' w',Zb1 cx clk h (upd ρ o.dst x) a' w'->K a' w'):wpOp P ops Q' i K a w:=by
 subst hnt;obtain⟨S,M,hr⟩:=hr;obtain⟨op,g,hop,hg,rfl,hd⟩:=zag hao;unfold wpOp;simp only[ho];have skip:x=.tup []->Region.wanted o (yielded ops a.tmps)=false->if Region.wanted o (yielded ops a.tmps)=true then o.wp P a w K Q'\/o.asks P a w/\LetsOut Q' else K (a.put o.dst undef) w:=by
  intro hx hw;rw[hw];subst hx;exact hK _ _ ⟨S,M,hr.put hd zs7⟩
 have run:Region.wanted o (yielded ops a.tmps)=true->QOp P op ρ h x->if Region.wanted o (yielded ops a.tmps)=true then o.wp P a w K Q'\/o.asks P a w/\LetsOut Q' else K (a.put o.dst undef) w:=by
  intro hw hqo;rw[hw];refine .inl ?_;have quiet:Zi op ρ h=some x->o.wp P a w K Q':=by
   intro hs;obtain⟨v,hv,hC⟩:=zhb (P:=P) hop hr.env hr.wr.heap hs;exact zcw hv (hK _ _ ⟨S,M,hr.put hd hC⟩)
  cases op with
  | call f args=>
   obtain⟨ys,hfr,hent1,hp⟩:=hqo;obtain⟨dst,oop,type,pos,after,guard⟩:=o;obtain⟨cargs,ats,hcall,hl⟩:=zco hop;subst hcall;obtain⟨r1,r2⟩:=zbp hr.env _ _ hl;obtain⟨ids,hk,h1,h2⟩:=zzv (vs:=cargs.toList.map a.eval) hfr (by grind) hr.wr.heap (fun j v c hv hc=>r2 j v c hv hc);replace hr:=(hr.share ids fun id bx hid hb=>by grind).heap_congr (h2:=h) (zqm hk);have hc:=hp w _ (cargs.map a.eval) (by grind) (fun j v c hv hc=>h2 j v c (by grind) hc) hr.wr.Slt;unfold Oper.wp;have hrun:(execOp a.eval { dst:=dst,op:=.call { callee:=.value (.func f),args:=cargs,argTypes:=ats },type:=type,pos:=pos,after:=after,guard:=guard }).run P w=.ok (.enter f (cargs.map a.eval)) w:=by
    simp only[execOp,resolve,Act.eval,Deferred.ofValue,Sem.run_bind,Sem.run_pure,Result.andThen_ok,invoke];have:=hent1 (cargs.map a.eval) w
    grind
   rw[hrun,Oper.upon_enter];refine hc.mono fun e w' ⟨v,r,he,hpr,hb,hC⟩=>?_;subst he;subst hpr;exact hK _ _ ⟨_,M,(hr.below hb).put hd (.p hC)⟩
  | inv nm k u r args=>
   obtain⟨hu0,t,y,f,hy,hm,hn,hent1,hp⟩:=hqo;obtain⟨dst,oop,type,pos,after,guard⟩:=o;obtain⟨rr,cargs,ats,rfl,hrr,hl⟩:=zs8 hop hu0;have hCr:=ev_C hr.env hrr;rw[hy]at hCr;obtain⟨v,hv,hCy⟩:=hCr.inv_ifc;obtain⟨h1,h2⟩:=zbp hr.env _ _ hl;have hsz:(#[v]++cargs.map a.eval).size=(drp1 y::args.map (ev ρ)).length:=by
    grind
   have hC:∀(j:Nat) (u:Value) (c:AV),(#[v]++cargs.map a.eval)[j]? = some u->(drp1 y::args.map (ev ρ))[j]? = some c->CP w S u c:=by
    intro j u c hu hc;have hnr:=Yl.1 hn c (Yc hc);cases j with
    | zero=>
     rw[Yb4 (by simp)]at hu;cases hu;cases hc;exact hCy.drp1.noRef hnr
    | succ j=>
     exact(h2 j u c (by grind) (by grind)).noRef hnr
   have hc:=hp w S (#[v]++cargs.map a.eval) hsz hC hr.wr.Slt;unfold Oper.wp;rw[ziz hv hm hent1,Oper.upon_enter];refine hc.mono fun e w' ⟨v,r,he,hpr,hb,hC⟩=>?_;subst he;subst hpr;exact hK _ _ ⟨_,M,(hr.below hb).put hd (.p hC)⟩
  | bsl z zs len ps=>
   obtain⟨hn,h0,hb⟩:=hqo;obtain⟨dst,oop,type,pos,after,guard⟩:=o;obtain⟨t,parts,e,ht,hz,hlim,hzs,hzl,hps,rfl⟩:∃t parts e,P.underlying t=some (.slice e)/\Zaq P e=some z/\(len*z<=16777216/\z≠0)/\zeros P e=some zs/\zs.length=z/\Zcg parts.toList=some ps/\oop=.buildSlice t len parts:=by
    have hcall:∀c,oop=.call c->(AOp.bsl z zs len ps).makes=false:=fun c hc=>ziy (P:=P) (by rw[<-hc];omega);have hop':=zar hop;clear hop;rcases hop' with hop | ⟨k,xs,he,_⟩
    rotate_left
    ·grind
    cases oop<;>simp only[Zbe]at hop
    case buildSlice t len' parts=>
     split at hop
     ·obtain⟨z',hz,hop1⟩:=bind_some hop;split at hop1
      ·obtain⟨zs',hzs,hop2⟩:=bind_some hop1;split at hop2
       ·obtain⟨ps',hps,he⟩:=map_some hop2
        grind
       grind
      grind
     grind
    case call c=>exact absurd (hcall c rfl) (by simp[AOp.makes])
    all_goals
     exfalso;revert hop
     repeat' split
     all_goals simp[Yf]
   obtain⟨h1,h2⟩:=zew hr.env _ _ hps
   -- parts without boxes are the same,whatever boxes there are
   have pure1:∀x:AV,noRef x=true->Zaw h x=Zaw [] x/\refs x=[]:=by
    intro x hx;have hc:∀c:AV,pureC c=true->Zby h c=Zby [] c:=by intro c hc;cases c<;>first | rfl | cases hc
    cases x<;>try (exact⟨rfl,rfl⟩)
    case agg cs=>
     simp only[noRef,Yl]at hx;refine⟨?_,?_⟩
     ·simp only[Zaw];have:cs.mapM (Zby h)=cs.mapM (Zby []):=by
       induction cs with
       | nil=>rfl
       | cons c cs ih=>grind
      grind
     ·simp only[refs,List.flatMap_eq_nil_iff];intro c hcm;have:=hx c hcm;cases c<;>first | rfl | cases this
    all_goals cases hx
   have hq:∀qs:List (Nat×AV),(qs.all fun p=>noRef p.2)=true->Zgv h qs=Zgv [] qs/\(qs.flatMap fun p=>refs p.2)=[]:=by
    intro qs
    induction qs with
    | nil=>intro _;exact⟨rfl,rfl⟩
    | cons q qs ih=>
     intro hall;obtain⟨i,y⟩:=q;simp only[Ybk,Yk]at hall;obtain⟨e1,e2⟩:=ih hall.2;obtain⟨e3,e4⟩:=pure1 y hall.1;exact⟨by simp only[Zgv,e1,e3],by grind⟩
   obtain⟨e1,e2⟩:=hq _ hn;have hb':Zds z zs len h (ps.map fun p=>(p.1,ev ρ p.2))=some (x,h):=by
    unfold Zds at hb ⊢;obtain⟨qs,hqs,hb1⟩:=bind_some hb;obtain⟨els,hels,he⟩:=map_some hb1
    grind[Zx]
   obtain⟨v',w',S',M',h3,h4,h5⟩:=zk1 (parts:=Array.map (fun(x:Nat×Operand)=>(x.fst,a.eval x.snd)) parts) hr ht hz hlim.1 hlim.2 hzs hzl (by simp_all) (fun j v x hv hx=>h2 j v x (by grind) hx) hb';exact zcw (w':=w') (zgf h3) (hK _ _ ⟨S',M',h4.put hd h5⟩)
  | app z px py=>
   by_cases hx:px=.c (.sl [] .nl)
   ·subst hx;have hs:Zf8 z (ev ρ py)=some x:=hqo;obtain⟨dst,oop,type,pos,after,guard⟩:=o;have hop':=zar hop;clear hop;rcases hop' with hop | ⟨k,xs,he,_⟩
    rotate_left
    ·grind
    cases oop<;>simp only[Zbe]at hop
    case call c=>
     obtain⟨callee,cargs,ats⟩:=c;cases callee with
     | invoke r m=>
      obtain⟨p,hp,hr1⟩:=bind_some hop
      simp_all
     | value fv=>
      cases fv<;>simp only at hop<;>try simp_all
      all_goals simp_all
     | builtin b=>
      simp only at hop;split at hop
      ·revert hop
       repeat' split
       all_goals simp
      ·obtain⟨l,_,hop1⟩:=bind_some hop;grind
      ·obtain⟨l,_,hop1⟩:=bind_some hop;grind
      ·rename_i y1 y2 t u hargs hts;split at hop
       ·rename_i htu;split at hop
        ·rename_i e ht;split at hop
         ·rename_i inf hi;split at hop
          ·rename_i hcond;obtain⟨h0,hby,hzs⟩:=hcond;obtain⟨p,hp,hop1⟩:=bind_some hop;obtain⟨q,hq,he⟩:=map_some hop1;cases he;obtain⟨zv,hzv,hzc⟩:∃zv,inf.zero=some zv/\zv.cells.size=inf.size:=by
            cases hzz:inf.zero with
            | none=>grind
            | some zv=>grind
           obtain⟨v',w',S',M',h1,h2,h3⟩:=zs1 (P:=P) (ty:=type) hr ht hi h0 hby.1 hzv hzc rfl (ev_C hr.env hp) (ev_C hr.env hq) hs;have ha:cargs=#[y1,y2]:=by grind
           have hat:ats=#[t,t]:=by grind
           subst ha;subst hat;exact zcw (w':=w') (by simp[execOp,resolve,invoke,builtin,h1]) (hK _ _ ⟨S',M',h2.put hd h3⟩)
          grind
         grind
        grind
       grind
      ·split at hop
       ·split at hop
        ·obtain⟨z,_,hop0⟩:=bind_some hop;split at hop0
         ·obtain⟨p,_,hop1⟩:=bind_some hop0
          simp_all
         grind
        grind
       grind
      grind
    all_goals
     exfalso;revert hop
     repeat' split
     all_goals simp[Yf]
   ·exact((ztw hx).1 hqo).elim
  | _=>exact quiet hqo
 unfold QF at hq;cases g with
 | none=>exact run (zbj hg a) hq
 | some tw=>
  obtain⟨t,want⟩:=tw;rcases hq with ⟨hb,hqo⟩ | ⟨hb,hx⟩
  ·exact run (by rw[zni hg (hr.env t) hb];simp) hqo
  ·refine skip hx ?_;rcases hb with hb | hb
   ·rw[zni hg (hr.env t) hb];grind
   ·exact zk4 hg (hr.env t) hb
end
end
section
open Go.RowKit
section
variable{P:Program}{ops:Array Oper}
theorem zeq{md:Region.Mode}:∀(n k:Nat) (listed:Array Bool),Region.lexFrom md ops n k listed=true->(∀i,listed.getD i false=true->i<k)->∀i o,k<=i->i<k+n->ops[i]? = some o->∀e∈o.after,Region.binds md e=true->e.on<i
 | 0,k,listed,_,_,i,o,h1,h2,_,_,_,_=>by omega
 | n+1,k,listed,hB,hl,i,o,h1,h2,ho,e,he,hb=>by
  simp only[Region.lexFrom,Yk]at hB;obtain⟨⟨hr,_⟩,hB'⟩:=hB;by_cases hik:i=k
  ·grind[mem_ready]
  ·refine zeq n (k+1) _ hB' (fun j hj=>?_) i o (by omega) (by omega) ho e he hb;by_cases hjk:k=j
   ·omega
   ·rw[getD_set_ne false hjk]at hj
    grind
theorem zk5(hB:Region.lexB .any ops=true):∀(i:Nat) (o:Oper),ops[i]? = some o->∀e∈o.after,Region.binds .any e=true->e.on<i:=by
 simp only[Region.lexB,Yk]at hB;intro i o ho;have hi:i<ops.size:=(Ya7.1 ho).1
 grind[zeq,getD_replicate_false]
def zfu{listed:Array Bool}(hB:Region.lexB .any ops=true)(hr:Region.ready .any ops listed=[])(hsz:listed.size=ops.size):∀i,i<ops.size->listed.getD i false=true:=by
 intro i
 induction i using Nat.strongRecOn with
 | _ i ih=>
  intro hi;cases hl:listed.getD i false with
  | true=>rfl
  | false=>
   have ho:ops[i]? = some (ops[i]'hi):=Yz hi;have:i∈Region.ready .any ops listed:=mem_ready.2 ⟨getD_in (by omega) hl,_,ho,fun e he hb=>by
    grind[zk5]⟩
   grind
theorem zas{listed:Array Bool}(hc:Clo .any ops listed):∀(n v i:Nat),(listed.getD i false=true\/i∈Region.ready .any ops listed)->Zad ops n v i=true->listed.getD v false=true
 | 0,_,_,_,h=>by cases h
 | n+1,v,i,hi,h=>by
  simp only[Zad]at h;split at h
  ·cases h
  ·rename_i o ho;obtain⟨e,he,hb⟩:=Ydt.1 h;simp only[Yk,Yck,beq_iff_eq]at hb;have hl:listed.getD e.on false=true:=by
    rcases hi with hi | hi
    ·exact hc.closed i o ho hi e he hb.1
    ·obtain⟨_,o',ho',hall⟩:=mem_ready.1 hi;rw[ho]at ho';cases ho';exact hall e he hb.1
   rcases hb.2 with hb2 | hb2
   ·rw[<-hb2];exact hl
   ·exact zas hc n v e.on (.inl hl) hb2
theorem zcg:∀(ws:List Nat) (m a b:Nat),chained ops ws=true->ws[m]? = some a->ws[m+1]? = some b->∃o,ops[b]? = some o/\∃e∈o.after,Region.binds .any e=true/\e.on=a
 | [],_,_,_,_,h,_=>by simp at h
 | [x],m,_,_,_,_,h=>by cases m<;>simp at h
 | x::y::r,m,a,b,hc,h1,h2=>by
  simp only[chained,Yk]at hc;cases m with
  | zero=>
   simp at h1 h2;subst h1;subst h2;have h3:=hc.1;split at h3
   ·rename_i o ho;obtain⟨e,he,hb⟩:=Ydt.1 h3;simp only[Yk,beq_iff_eq]at hb;exact⟨o,ho,e,he,hb.1,hb.2⟩
   ·cases h3
  | succ m=>exact zcg (y::r) m a b hc.2 (by simpa using h1) (by simpa using h2)
theorem zby{ws:List Nat}{listed:Array Bool}(hch:chained ops ws=true)(hc:Clo .any ops listed):∀(d p v u:Nat),ws[p]? = some v->ws[p+d]? = some u->listed.getD u false=true->listed.getD v false=true
 | 0,p,v,u,h1,h2,hl=>by rw[Yaa,h1]at h2;cases h2;exact hl
 | d+1,p,v,u,h1,h2,hl=>by
  have hlt:p+d<ws.length:=by have:=zb1 h2;omega
  have hx:ws[p+d]? = some (ws[p+d]'hlt):=Ya hlt;obtain⟨o,ho,e,he,hb,hon⟩:=zcg ws (p+d) _ u hch hx h2;have:=hc.closed u o ho hl e he hb;rw[hon]at this;exact zby hch hc d p v _ h1 hx this
def za5{ws:List Nat}{f:Nat->Bool}:∀(p:Nat),p<=ws.length->(∀m v,ws[m]? = some v->(f v=true↔m<p))->(ws.filter f).length=p:=by
 induction ws with
 | nil=>grind
 | cons x ws ih=>
  intro p hp h;have h0:=h 0 x rfl;cases p with
  | zero=>
   have hx:f x=false:=by grind
   simp only[Ybq,hx,Yad,if_false];exact ih 0 (Y4 _) fun m v hv=>by
    have:=h (m+1) v (by grind)
    grind
  | succ p=>
   have hx:f x=true:=h0.2 (Nat.succ_pos _);simp only[Ybq,hx,if_true,Yg];rw[ih p (by grind) fun m v hv=>by
    have:=h (m+1) v (by grind)
    grind]
theorem zbu(l:List AO)(k:Nat):k∈Zh l↔∃ao,l[k]? = some ao/\ao.op.writes=true:=by
 unfold Zh;simp only[Yy,Ydm];constructor
 ·grind
 ·rintro⟨ao,h1,h2⟩
  exact⟨(ao,k),⟨by grind,h2⟩,rfl⟩
def zdc(l:List AO):(Zh l).Pairwise (· < ·):=by
 unfold Zh;rw[List.pairwise_map];have key:∀(l:List AO) (k:Nat),(l.zipIdx k).Pairwise (fun a b=>a.2<b.2):=by
  intro l
  induction l with
  | nil=>simp_all
  | cons x l ih=>
   grind[List.zipIdx_cons,List.pairwise_cons]
 grind
theorem zbk{ws:List Nat}(hs:ws.Pairwise (· < ·)){p q a b:Nat}(h1:ws[p]? = some a)(h2:ws[q]? = some b)(hpq:p<q):a<b:=by
 grind[List.pairwise_iff_getElem]
def zj2{o:AO}{ρ:Nat->AV}{x:AV}(hf:o.op.freeE ρ=true)(h1 h2:Heap)(hq:QF P h1 o ρ x):QF P h2 o ρ x:=by
 grind[QF,zxb]
def zqn{o:AO}{e:Env}{h:Heap}{older:List Heap}{K:AV->Prop}(hw:o.op.writes=false)(hk:qK P o e h older K):∃x,QF P h o e.get x/\(o.op.freeE e.get=false->∀h'∈older,QF P h' o e.get x)/\K x:=by
 obtain⟨dst,guard,op⟩:=o;have one:opQ P op e h older K->∃x,QOp P op e.get h x/\(op.freeE e.get=false->∀h'∈older,QOp P op e.get h' x)/\K x:=by
  intro hk;by_cases hap:∃z x0 y,op=.app z x0 y
  ·obtain⟨z,x0,y,rfl⟩:=hap;by_cases hx:x0=.c (.sl [] .nl)
   ·subst hx;obtain⟨x,h1,h2⟩:=hk;exact⟨x,h1,fun hf=>(by cases hf),h2⟩
   grind[zqi]
  cases op
  case app=>grind
  case call f args=>
   obtain⟨ys,⟨h1,h2⟩,r,h3,h4⟩:=hk;exact⟨r,⟨ys,h1,h3⟩,fun hf h' hh=>⟨ys,h2 hf h' hh,h3⟩,h4⟩
  all_goals first
   | (obtain⟨h1,r,h2,h3⟩:=hk;exact⟨r,⟨h1,h2⟩,fun hf=>(by cases hf),h3⟩)
   | (obtain⟨h0,t,y,f,h1,h2,h3,r,h4,h5⟩:=hk;exact⟨r,⟨h0,t,y,f,h1,h2,h3,h4⟩,fun hf=>(by cases hf),h5⟩)
   | (obtain⟨h1,⟨r,h'⟩,h2,h3⟩:=hk;exact⟨r,⟨h1,h',h2⟩,fun hf=>(by cases hf),h3⟩)
   | (obtain⟨x,hx,h2,hK⟩:=hk;exact⟨x,hx,fun hf=>(by simp only[AOp.freeE]at hf;simp only[hf]at h2;exact h2),hK⟩)
 unfold qK at hk;unfold QF;cases guard with
 | none=>grind
 | some tw=>
  obtain⟨t,want⟩:=tw;simp only at hk ⊢;split at hk
  ·rename_i v hv;by_cases hvw:v=want
   ·grind
   ·have:e.get t=.b (!want):=by
     cases v<;>cases want<;>simp_all
    grind
  all_goals grind
def FD(P:Program)(ops:Array Oper)(aos:List AO)(H:Nat->Heap)(C:Nat->Nat)(i:Nat)(ρ:Nat->AV)(x:AV):Prop:=
 ∃ao,aos[i]? = some ao /\
  match ao.op.writes with
  | true=>ao.guard=none/\∃p,(Zh aos)[p]? = some i/\stepW ao.op ao.dst ρ (H p) (C p)=some (x,H (p+1),C (p+1))
  | false=>∀j,Zec ops (Zh aos) i<=j->j<=Zbx ops (Zh aos) i->QF P (H j) ao ρ x
theorem znj{aos:List AO}{K:St->Prop}(hok:Zco ops aos=true)(hdst:∀(i:Nat) (o:Oper),ops[i]? = some o->∃ao:AO,aos[i]? = some ao/\ao.dst=o.dst) :
  ∀(l:List Oper) (k:Nat) (rest:List AO) (e:Env) (h:Heap) (clk:Nat) (older:List Heap) (oc:List Nat) (pend:Zho),(∀i,l[i]? = ops[k+i]?)->(∀i,rest[i]? = aos[k+i]?)->l.length=rest.length->oc.length=older.length ->
   older.length<=(Zh aos).length->(∀m v,(Zh aos)[m]? = some v->(v<k↔m<older.length)) ->
   Ze0 P ((rest.zipIdx k).map fun p=>⟨p.1,Zec ops (Zh aos) p.2,Zbx ops (Zh aos) p.2⟩) e h clk older pend K ->
   ∃(H:Nat->Heap) (C:Nat->Nat),(∀m x,older.reverse[m]? = some x->H m=x)/\(∀m x,oc.reverse[m]? = some x->C m=x)/\H older.length=h/\C older.length=clk/\(∀p∈pend,∀j,older.length<j->j<=older.length+p.1->j<=(Zh aos).length->p.2 (H j)) /\
    Zc3 ops (FD P ops aos H C) (fun ρ=>∃e,ρ=Env.get e/\K ⟨e,H (Zh aos).length,C (Zh aos).length⟩) l k e.get
 | [],k,rest,e,h,clk,older,oc,pend,hl,hr,hlen,hoc,hle,hws,hk=>by
  have:rest=[]:=by grind
  subst this;simp only[List.zipIdx_nil,Ybl,Ze0]at hk;have hfull:older.length=(Zh aos).length:=by
   rcases Yv older.length (Zh aos).length with hlt | hge
   ·have hx:(Zh aos)[older.length]? = some ((Zh aos)[older.length]'hlt):=Ya hlt;have h1:=(hws _ _ hx);have hmem:((Zh aos)[older.length]'hlt)∈Zh aos:=Y0 _;obtain⟨ao,h2,_⟩:=(zbu aos _).1 hmem;have h4:=hr (((Zh aos)[older.length]'hlt)-k)
    grind
   omega
  refine⟨fun m=>if m=older.length then h else (older.reverse[m]?).getD [],fun m=>if m=older.length then clk else (oc.reverse[m]?).getD 0,fun m x hx=>?_,fun m x hx=>?_,by simp,by simp,fun p _ j h1 _ h3=>by omega,⟨e,rfl,?_⟩⟩
  all_goals grind
 | o::l,k,rest,e,h,clk,older,oc,pend,hl,hr,hlen,hoc,hle,hws,hk=>by
  cases rest with
  | nil=>grind
  | cons ao rest=>
   have ho:ops[k]? = some o:=by simpa using (hl 0).symm
   have hao:aos[k]? = some ao:=by simpa using (hr 0).symm
   obtain⟨ao',h1,hd⟩:=hdst k o ho;rw[hao]at h1;cases h1;have hl':∀i,l[i]? = ops[(k+1)+i]? := fun i=>by have:=hl (i+1);grind
   have hr':∀i,rest[i]? = aos[(k+1)+i]? := fun i=>by have:=hr (i+1);grind
   have hlen':l.length=rest.length:=by grind
   simp only[Yde,Yx,Ze0]at hk;have hsort:=zdc aos;unfold Zco at hok;cases hwr:ao.op.writes with
   | true=>
    rw[hwr]at hk;simp only at hk;obtain⟨hgn,⟨x,h',clk'⟩,hst,hpd,hk2⟩:=hk;have hkm:k∈Zh aos:=(zbu aos k).2 ⟨ao,hao,hwr⟩;obtain⟨m,hm⟩:=Yae hkm;have hmo:m=older.length:=by
     have h1:=hws m k hm;have h2:¬ m<older.length:=fun hh=>Ya6 k (h1.2 hh);rcases Yv older.length m with h3 | h3
     ·have hlt:older.length<(Zh aos).length:=by grind
      have hx:(Zh aos)[older.length]? = some ((Zh aos)[older.length]'hlt):=Ya hlt
      grind[zbk]
     omega
    subst hmo;obtain⟨H,C,hH,hC,hHe,hCe,hPe,hlex⟩:=znj (K:=K) (by grind[Zco]) hdst l (k+1) rest (Ze e ao.dst x) h' clk' (h::older) (clk::oc) (pend.map fun p=>(p.1-1,p.2)) hl' hr' hlen' (by grind) (by grind) (fun m v hv=>by
     grind[zbk]) hk2
    refine⟨H,C,fun m x hx=>hH m x ?_,fun m x hx=>hC m x ?_,?_,?_,fun p hp j h1 h2 h3=>?_,?_⟩
    ·grind
    ·grind
    ·exact hH older.length h (by simp)
    ·grind
    ·simp only[Yg]at hHe hPe;rcases Yv (older.length+1) j with h4 | h4
     ·exact hPe (p.1-1,p.2) (Yy.2 ⟨p,hp,rfl⟩) j h4 (by omega) h3
     grind
    ·refine⟨x,⟨ao,hao,?_⟩,?_⟩
     ·simp only[hwr];refine⟨hgn,older.length,hm,?_⟩;have e1:H older.length=h:=hH older.length h (by simp)
      grind
     grind[zbt]
   | false=>
    rw[hwr]at hk;obtain⟨x,hq1,hq2,hk2⟩:=zqn hwr hk;have hkm:k∉Zh aos:=fun hmem=>by
     grind[zbu]
    obtain⟨H,C,hH,hC,hHe,hCe,hPe,hlex⟩:=znj (K:=K) (by grind[Zco]) hdst l (k+1) rest (Ze e ao.dst x) h clk older oc ((Zbx ops (Zh aos) k-older.length,fun h'=>QF P h' ao e.get x)::pend) hl' hr' hlen' hoc hle (fun m v hv=>by
     grind) hk2
    refine⟨H,C,hH,hC,hHe,hCe,fun p hp=>hPe p (Yh _ hp),x,⟨ao,hao,?_⟩,?_⟩
    ·simp only[hwr];intro j hlo hhi;cases hfr:ao.op.freeE e.get with
     | true=>exact zj2 hfr h _ hq1
     | false=>
      rcases Yv j older.length with hj | hj
      ·have hx:older.reverse[j]? = some (older.reverse[j]'(by grind)):=Ya _;rw[hH j _ hx];have hx2:(older.take (older.length-Zec ops (Zh aos) k))[older.length-1-j]? = some (older[older.length-1-j]'(by omega)):=by
        grind
       grind
      ·rcases Yv older.length j with hj2 | hj2
       ·grind[Zbx,List.mem_cons_self]
       grind
    ·rw[<-hd,<-zbt];omega
end
end
section
open Go.RowKit
section
variable{P:Program}{ops:Array Oper}{cx:Cx}{w:World}{a:Act}
theorem zau{nt:Nat}{ops:Array Oper}:∀(l:List Oper) (aos:List AO),Z8 P nt ops l=some aos->∀(i:Nat) (o:Oper),l[i]? = some o->∃ao,aos[i]? = some ao/\Za6 P nt ops o=some ao
 | [],aos,_,i,o,h=>by simp at h
 | o'::l,aos,hres,i,o,h=>by
  obtain⟨ao,hao,hres1⟩:=bind_some hres;obtain⟨rest,hrest,rfl⟩:=map_some hres1;cases i with
  | zero=>simp at h;subst h;exact⟨ao,rfl,hao⟩
  | succ i=>exact zau l rest hrest i o (by simpa using h)
theorem zav{nt:Nat}{ops:Array Oper}:∀(l:List Oper) (m:List AO),Z8 P nt ops l=some m->l.length=m.length
 | [],m,h=>by simp only[Z8,Option.some.injEq]at h;subst h;rfl
 | o::l,m,h=>by
  obtain⟨ao,_,h1⟩:=bind_some h;obtain⟨rest,hr,rfl⟩:=map_some h1;simp[zav l rest hr]
theorem zbv{o:Oper}{op:AOp}{ρ ρ':Nat->AV}{d:Option Nat}{h:Heap}{clk:Nat}(hop:Zdr P o.op=some op)(hρ:∀t,Operand.tmp t∈o.op.operands.toList->ρ t=ρ' t):stepW op d ρ h clk=stepW op d ρ' h clk:=by
 obtain⟨dst,oop,type,pos,after,guard⟩:=o;have hop':=zar hop;clear hop;rcases hop' with hop | ⟨k,xs,he,hx⟩
 rotate_left
 ·subst he;rcases hx with hx | ⟨rfl,rfl⟩
  ·have e1:xs.map (ev ρ)=xs.map (ev ρ'):=List.map_congr_left fun y hy=>by
    cases y with
    | t t=>exact hρ t (zpi hx t hy)
    | c v=>rfl
   simp only[stepW,e1]
  ·rfl
 cases oop<;>simp only[Zbe]at hop<;>try (cases hop;done)
 case alloc t=>obtain⟨zs,_,rfl⟩:=map_some hop;rfl
 case store t y v=>
  obtain⟨n,hn,hop1⟩:=bind_some hop;obtain⟨p,hp,hop2⟩:=bind_some hop1;obtain⟨q,hq,rfl⟩:=map_some hop2
  grind[stepW,zak,Op.operands]
 case makeSlice t l c=>
  split at hop
  ·split at hop
   ·split at hop
    ·obtain⟨zs,_,hop1⟩:=bind_some hop;split at hop1
     ·obtain⟨p,hp,hop2⟩:=bind_some hop1;obtain⟨q,hq,rfl⟩:=map_some hop2
      grind[stepW,zak,Op.operands]
     grind
    grind
   grind
  grind
 case call c=>
  obtain⟨callee,cargs,ats⟩:=c;cases callee with
  | invoke r m=>
   obtain⟨p,hp,hr1⟩:=bind_some hop;obtain⟨l,hl,rfl⟩:=map_some hr1
   rfl
  | value fv=>
   cases fv<;>simp only at hop<;>try (cases hop;done)
   all_goals
    obtain⟨l,hl,rfl⟩:=map_some hop
    rfl
  | builtin b=>
   simp only at hop;split at hop
   ·split at hop
    ·obtain⟨p,_,rfl⟩:=map_some hop;rfl
    ·obtain⟨p,_,rfl⟩:=map_some hop;rfl
    ·cases hop;rfl
    grind
   ·obtain⟨l,_,hop1⟩:=bind_some hop;split at hop1<;>cases hop1;rfl
   ·obtain⟨l,_,hop1⟩:=bind_some hop;split at hop1<;>cases hop1;rfl
   ·split at hop
    ·split at hop
     ·split at hop
      ·split at hop
       ·obtain⟨p,hp,hop1⟩:=bind_some hop;obtain⟨q,hq,rfl⟩:=map_some hop1
        grind[stepW,zak,Op.operands,Call.operands]
       grind
      grind
     grind
    grind
   ·split at hop
    ·split at hop
     ·obtain⟨z,_,hop0⟩:=bind_some hop;split at hop0
      ·obtain⟨p,_,hop1⟩:=bind_some hop0;obtain⟨q,_,rfl⟩:=map_some hop1
       rfl
      grind
     grind
    grind
   grind
 all_goals
  have:stepW op d ρ h clk=none/\stepW op d ρ' h clk=none:=by
   revert hop
   repeat' split
   all_goals (intro hop;simp[Yf]at hop)
   all_goals first
    | (subst hop;exact⟨rfl,rfl⟩)
    | (obtain⟨_,_,rfl⟩:=hop;exact⟨rfl,rfl⟩)
    | (obtain⟨_,_,_,rfl⟩:=hop;exact⟨rfl,rfl⟩)
    | (obtain⟨_,_,_,_,rfl⟩:=hop;exact⟨rfl,rfl⟩)
    | (obtain⟨_,_,_,_,_,rfl⟩:=hop;exact⟨rfl,rfl⟩)
    | (obtain⟨_,_,_,_,_,_,rfl⟩:=hop;exact⟨rfl,rfl⟩)
    | (obtain⟨_,_,_,_,_,_,_,rfl⟩:=hop;exact⟨rfl,rfl⟩)
    | (obtain⟨_,_,_,_,_,_,_,_,rfl⟩:=hop;exact⟨rfl,rfl⟩)
    | (obtain⟨_,_,_,_,_,_,_,_,_,rfl⟩:=hop;exact⟨rfl,rfl⟩)
    | (obtain⟨_,_,_,_,_,_,_,_,_,_,_,rfl⟩:=hop;exact⟨rfl,rfl⟩)
  rw[this.1,this.2]
def cnt(ws:List Nat)(listed:Array Bool):Nat:=(ws.filter fun v=>listed.getD v false).length
theorem zch{f g:Nat->Bool}:∀(ws:List Nat),(∀v∈ws,f v=true->g v=true)->(ws.filter f).length<=(ws.filter g).length
 | [],_=>Yi _
 | x::ws,h=>by
  have ih:=zch ws fun v hv=>h v (by grind)
  grind
theorem znk{nt id:Nat}{aos:List AO}{st:St}{K:St->Prop}{Q:Exit->Act->World->Prop}(hnt:nt=cx.nt)(hm:P.follows .mixedOrders=true)(hB:Zco ops aos=true)
  (hres:Z8 P nt ops ops.toList=some aos) (hk:Zli P (Zcp ops aos) st K) (hr:Rel cx st a w) (hQ:∀st' a' w',K st'->Rel cx st' a' w'->Q .normal a' w'):(Code.region id ops true).wp P Q a w:=by
 have hget':∀i o,ops[i]? = some o->∃ao,aos[i]? = some ao/\Za6 P nt ops o=some ao:=fun i o ho=>zau ops.toList aos hres i o (by grind);have hlen:=zav ops.toList aos hres;obtain⟨S,M,hrf⟩:=hr;have hok:=hB;unfold Zco at hB;simp only[Yk,Yl]at hB;obtain⟨⟨hlexB,hch⟩,hall⟩:=hB;obtain⟨H,C,_,_,hH0,hC0,_,hlex⟩:=znj (P:=P) (ops:=ops) (aos:=aos) (K:=K) hok (fun i o ho=>by
  grind[zag]) ops.toList 0 aos st.env st.heap st.clk [] [] [] (fun i=>by simp) (fun i=>by simp) hlen rfl (Y4 _) (fun m v _=>by simp) hk
 simp only[Yam]at hH0 hC0;generalize hws:Zh aos=ws at *
 -- the writers that are done are the first ones
 have prefixOf:∀(listed:Array Bool),Clo .any ops listed->∀(p i:Nat),ws[p]? = some i->(i∈Region.ready .any ops listed)->∀m v,ws[m]? = some v->(listed.getD v false=true↔m<p):=by
  intro listed hc p i hp hi m v hv;have hun:=(mem_ready.1 hi).1;constructor
  ·intro hl;rcases Yv m p with h | h
   ·exact h
   ·have hp':ws[p+(m-p)]? = some v:=by grind
    have:=zby hch hc (m-p) p i v hp hp' hl
    grind
  ·intro hmp;have hp1:ws[(p-1)+1]? = some i:=by grind
   have hx:ws[p-1]? = some (ws[p-1]'(by grind)):=Ya _;obtain⟨o,ho,e,he,hb,hon⟩:=zcg ws (p-1) _ i hch hx hp1;obtain⟨_,o',ho',hall'⟩:=mem_ready.1 hi;rw[ho]at ho';cases ho';have hl:=hall' e he hb;rw[hon]at hl;have hx':ws[m+(p-1-m)]? = some (ws[p-1]'(by grind)):=by grind
   exact zby hch hc (p-1-m) m v _ hv hx' hl
 refine zct (F:=FD P ops aos H C) (R:=fun listed ρ a w=>Zb1 cx (C (cnt ws listed)) (H (cnt ws listed)) ρ a w) (Q:=fun ρ=>∃e,ρ=Env.get e/\K ⟨e,H ws.length,C ws.length⟩) (ρ:=st.env.get) hm hlexB ?_ ?_ ?_ ?_ hlex
 ·-- each value hangs on what the operation looks at
  intro i o ho ρ ρ' hρ x ⟨ao,hao,hq⟩;obtain⟨ao',h1,h2⟩:=hget' i o ho;rw[hao]at h1;cases h1;refine⟨ao,hao,?_⟩;obtain⟨op,g,hop,hg,rfl,_⟩:=zag h2;have hops:∀t,Operand.tmp t∈o.op.operands.toList->ρ t=ρ' t:=fun t ht=>hρ t (by
   grind[Oper.looksAt])
  have quiet:∀h,QF P h ⟨o.dst,g,op⟩ ρ x->QF P h ⟨o.dst,g,op⟩ ρ' x:=by
   intro h hq;unfold QF at hq ⊢;cases g with
   | none=>exact(zbq hop hops).1 hq
   | some tw=>
    grind[Zaz,map_some,Oper.looksAt,zbq]
  cases hwr:op.writes with
  | true=>
   simp only[hwr]at hq ⊢;obtain⟨h3,p,h4,h5⟩:=hq;exact⟨h3,p,h4,by rw[<-zbv hop hops];omega⟩
  | false=>
   grind
 ·intro i o ho listed ρ x a w K' hc hi ⟨ao,hao,hq⟩ hr hK';obtain⟨ao',h1,h2⟩:=hget' i o ho;rw[hao]at h1;cases h1;have hun:=(mem_ready.1 hi).1;have hisz:i<listed.size:=by grind
  cases hwr:ao.op.writes with
  | true=>
   simp only[hwr]at hq;obtain⟨hgn,p,hp,hst⟩:=hq;rw[hws]at hp;have hpre:=prefixOf listed hc p i hp hi;have hple:=zb1 hp;have hcnt:cnt ws listed=p:=za5 p (by omega) fun m v hv=>hpre m v hv;have hcnt':cnt ws (listed.setIfInBounds i true)=p+1:=za5 (p+1) (by omega) fun m v hv=>by
    by_cases hvi:i=v
    ·have hmp:m=p:=by
      grind
     simp_all
    ·rw[getD_set_ne false hvi,hpre m v hv];constructor
     all_goals grind
   rw[hcnt]at hr;obtain⟨S,M,hr⟩:=hr;subst hnt;obtain⟨op,g,hop,hg,rfl,hd⟩:=zag h2;simp only at hgn hst;subst hgn;obtain⟨v,w',S',M',h3,h4,h5⟩:=zb6 hop hr hst;have hfin:K' (a.put o.dst v) w':=hK' _ _ (by
    rw[hcnt'];exact⟨S',M',h4.put hd h5⟩)
   unfold wpOp;simp only[ho,zbj hg a,if_true]
   grind[zcw,Oper.wp,Oper.upon_skip]
  | false=>
   simp only[hwr]at hq;rw[hws]at hq;have hnm:i∉ws:=fun hmem=>by
    grind[zbu]
   have hlo:Zec ops ws i<=cnt ws listed:=zch ws fun v _ hv=>zas hc _ v i (.inr hi) hv;have hhi:cnt ws listed<=Zbx ops ws i:=zch ws fun v _ hv=>by
    grind[zas]
   have hcnt':cnt ws (listed.setIfInBounds i true)=cnt ws listed:=by
    unfold cnt;congr 1;refine List.filter_congr fun v hv=>?_;have:i≠v:=fun he=>hnm (by grind)
    simp_all
   refine za1 ho hnt h2 (hq _ hlo hhi) hr fun a' w' hr'=>hK' a' w' ?_
   grind
 ·intro listed ρ a w hc hready hr ⟨e,he,hK⟩;subst he;have hfull:cnt ws listed=ws.length:=za5 ws.length (Yi _) fun m v hv=>by
   have hvm:v∈Zh aos:=by grind
   obtain⟨ao,h1,_⟩:=(zbu aos v).1 hvm;have hvl:v<ops.size:=by grind
   have:=zfu hlexB hready hc.size v hvl
   grind
  rw[hfull]at hr;obtain⟨S,M,hr⟩:=hr;exact hQ _ a w hK ⟨S,M,hr⟩
 ·have h0:cnt ws (Array.replicate ops.size false)=0:=za5 0 (Y4 _) fun m v hv=>by
   rw[getD_replicate_false];simp
  rw[h0,hH0,hC0];exact Zb1.drawn ⟨S,M,hrf⟩
end
end
section
open Go.RowKit
def Zem(P:Program)(tl:List AO):List AO->Env->Heap->Nat->(St->Prop)->Prop
 | [],e,h,clk,K=>Zdd P tl ⟨e,h,clk⟩ K
 | o::r,e,h,clk,K=>qK P o e h [] fun x=>Zem P tl r (Ze e o.dst x) h clk K
section
variable{P:Program}{ops:Array Oper}{md:Region.Mode}{F:Nat->(Nat->AV)->AV->Prop}
def Zgy(md:Region.Mode)(ops:Array Oper)(F:Nat->(Nat->AV)->AV->Prop)(n:Nat)(L:Array Bool->(Nat->AV)->Prop):Nat->Array Bool->(Nat->AV)->Prop
 | 0,listed,ρ=>L listed ρ
 | f+1,listed,ρ=>
  Region.ready md ops listed≠[]/\∀i∈Region.ready md ops listed,i<n/\fOp ops F i (Zgy md ops F n L f (listed.setIfInBounds i true)) ρ
def zgw(hL:Zel ops F){n i:Nat}{oi:Oper}{v:AV}{L:Array Bool->(Nat->AV)->Prop}(hi:ops[i]? = some oi)
  (hs:Region.sinkB md ops n=true) (hc:Region.chainB md ops n=true) (hn:n<ops.size) (hin:i<n)
  (hdone:∀listed ρ,L listed ρ->∀j∈Region.ready md ops listed,n<=j) :
  ∀(f:Nat) (listed:Array Bool) (ρ:Nat->AV),HeadInv md ops n listed ->
   (∀j oj,ops[j]? = some oj->j≠i->listed.getD j true=false->(∀e∈oj.after,Region.binds md e=true->e.on≠i)->oi.apart ops oj=true) ->
   i∈Region.ready md ops listed->F i ρ v ->
   Zgy md ops F n L f (listed.setIfInBounds i true) (upd ρ oi.dst v)->Zgy md ops F n L (f+1) listed ρ:=by
 have take:∀{ρ:Nat->AV} {K:(Nat->AV)->Prop},F i ρ v->K (upd ρ oi.dst v)->fOp ops F i K ρ:=by
  grind[fOp]
 intro f
 induction f with
 | zero=>
  intro listed ρ inv _ hr hy H;have hun:=(mem_ready.1 hr).1;refine⟨fun h=>(by grind),fun j hj=>?_⟩;have hjn:j<n:=by
   rcases Yv j n with h | h
   ·exact h
   ·exact absurd hj (tail_waits hs hc hn inv _ i rfl hin hun j h)
  by_cases hji:j=i
  ·grind
  ·have:=hdone _ _ H j (ready_mono hj hji);omega
 | succ f ih=>
  intro listed ρ inv hfree hr hy H;have hun:=(mem_ready.1 hr).1;refine⟨fun h=>(by grind),fun j hj=>?_⟩;have hjn:j<n:=by
   rcases Yv j n with h | h
   ·exact h
   ·exact absurd hj (tail_waits hs hc hn inv _ i rfl hin hun j h)
  refine⟨hjn,?_⟩;by_cases hji:j=i
  ·grind
  ·have h1:=(H.2 j (ready_mono hj hji)).2;obtain⟨hjun,oj,hoj,hall⟩:=mem_ready.1 hj;have hnot:∀e∈oj.after,Region.binds md e=true->e.on≠i:=fun e he hb heq=>by
    grind
   have h2:=zsu hL hi hoj (hfree j oj hoj hji hjun hnot) hy h1;have hfree':∀k ok,ops[k]? = some ok->k≠i->(listed.setIfInBounds j true).getD k true=false ->
     (∀e∈ok.after,Region.binds md e=true->e.on≠i)->oi.apart ops ok=true:=fun k ok hk hki hun hno=>by
    refine hfree k ok hk hki ?_ hno;by_cases hjk:j=k
    ·grind
    simp_all
   refine zow (fun ρ' h3=>ih (listed.setIfInBounds j true) ρ' (inv.set hj hjn) hfree' (ready_mono hr (Ne.symm hji)) h3.1 ?_) h2
   grind[Array.setIfInBounds_comm]
theorem zk6(hL:Zel ops F){n g:Nat}{Lq:(Nat->AV)->Prop}(hs:Region.sinkB md ops n=true)(hc:Region.chainB md ops n=true)(hn:n<ops.size) :
  ∀(l:List Oper) (k:Nat) (listed:Array Bool) (ρ:Nat->AV),(∀j,j<l.length->l[j]? = ops[k+j]?)->k+l.length=n->HeadInv md ops n listed ->
  Region.lexHead md ops g l.length k listed=true->Zc3 ops F Lq l k ρ ->
  Zgy md ops F n (fun listed' ρ'=>Region.seqB md ops g n listed'=true/\Lq ρ') l.length listed ρ
 | [],k,listed,ρ,_,hk,_,hB,h=>by
  have:k=n:=by simpa using hk
  subst this;exact⟨by simpa[Region.lexHead]using hB,h⟩
 | o::l,k,listed,ρ,hl,hk,inv,hB,h=>by
  have h0:ops[k]? = some o:=by simpa using (hl 0 (by simp)).symm
  simp only[Yg,Region.lexHead,Yk]at hB;obtain⟨⟨hr,hf⟩,hB'⟩:=hB;have hkn:k<n:=by simp only[Yg]at hk;omega
  have hr':k∈Region.ready md ops listed:=by simpa using hr
  obtain⟨v,hy,hK⟩:=h;exact zgw hL h0 hs hc hn hkn (fun listed' a' hL=>seqB_ready hL.1) l.length listed ρ inv (Region.free_spec h0 hf) hr' hy
   (zk6 hL hs hc hn l (k+1) _ _ (fun j hj=>by have:=hl (j+1) (by simp;omega);simpa[Yap,Ybj 1 j]using this) (by simp only[Yg]at hk;omega) (inv.set hr' hkn) hB' hK)
theorem zer{n g:Nat}{L:Array Bool->(Nat->AV)->Prop}{R:(Nat->AV)->Act->World->Prop}{Q':Exit->Act->World->Prop}
  (hs:∀i o,i<n->ops[i]? = some o->∀ρ x a w (K:Act->World->Prop),F i ρ x->R ρ a w->(∀a' w',R (upd ρ o.dst x) a' w'->K a' w')->wpOp P ops Q' i K a w)
  (hQ:∀listed ρ a w,L listed ρ->R ρ a w->wpAny P md ops Q' g listed a w):∀(f:Nat) (listed:Array Bool) (ρ:Nat->AV) (a:Act) (w:World),R ρ a w ->
  Zgy md ops F n L f listed ρ->wpAny P md ops Q' (f+g) listed a w
 | 0,_,_,_,_,hr,h=>by rw[Yar];exact hQ _ _ _ _ h hr
 | f+1,listed,ρ,a,w,hr,h=>by
  rw[show f+1+g=(f+g)+1 by omega];refine⟨fun h0=>absurd h0 h.1,fun i hi=>?_⟩;obtain⟨hin,h2⟩:=h.2 i hi;obtain⟨_,o,ho,_⟩:=mem_ready.1 hi;unfold fOp at h2;simp only[ho]at h2;obtain⟨x,hx,hK⟩:=h2;exact hs i o hin ho ρ x a w _ hx hr fun a' w' hr'=>zer hs hQ f _ _ a' w' hr' hK
end
section
variable{P:Program}{ops:Array Oper}{cx:Cx}{w:World}{a:Act}
def zgx{l:List AO}{n:Nat}(h:Zgu ops l=some n):(∀ao∈l.take n,ao.op.writes=false)/\Region.lexTailB .any ops n=true:=by
 have:=Yd8 h
 grind
def FT(P:Program)(aos:List AO)(n:Nat)(h:Heap)(i:Nat)(ρ:Nat->AV)(x:AV):Prop:=
 i<n/\∃ao,aos[i]? = some ao/\QF P h ao ρ x
theorem zk7{aos tl:List AO}{n:Nat}{h:Heap}{clk:Nat}{K:St->Prop}(hw:∀ao∈aos.take n,ao.op.writes=false)(hdst:∀(i:Nat) (o:Oper),ops[i]? = some o->∃ao:AO,aos[i]? = some ao/\ao.dst=o.dst) :
  ∀(l:List Oper) (k:Nat) (rest:List AO) (e:Env),(∀j,j<l.length->l[j]? = ops[k+j]?)->(∀j,j<rest.length->rest[j]? = aos[k+j]?)->l.length=rest.length->k+l.length=n ->
   Zem P tl rest e h clk K->Zc3 ops (FT P aos n h) (fun ρ=>∃e,ρ=Env.get e/\Zdd P tl ⟨e,h,clk⟩ K) l k e.get
 | [],k,rest,e,_,_,hlen,_,hk=>by
  have:rest=[]:=Yag (by simpa using hlen.symm);subst this;exact⟨e,rfl,hk⟩
 | o::l,k,rest,e,hl,hr,hlen,hkn,hk=>by
  cases rest with
  | nil=>simp at hlen
  | cons ao rest=>
   have h0:ops[k]? = some o:=by simpa using (hl 0 (by simp)).symm
   have h1:aos[k]? = some ao:=by simpa using (hr 0 (by simp)).symm
   obtain⟨ao',h2,hd⟩:=hdst k o h0;rw[h1]at h2;cases h2;simp only[Yg]at hkn;have hwr:ao.op.writes=false:=hw ao (Yc (i:=k) (by rw[Yak,if_pos (by omega)];exact h1));obtain⟨x,hq1,_,hk2⟩:=zqn hwr hk;refine⟨x,⟨by omega,ao,h1,hq1⟩,?_⟩;rw[<-hd,<-zbt];exact zk7 hw hdst l (k+1) rest _ (fun j hj=>by have:=hl (j+1) (by simp;omega);simpa[Yap,Ybj 1 j]using this) (fun j hj=>by have:=hr (j+1) (by simp;omega);simpa[Yap,Ybj 1 j]using this) (by simpa using hlen) (by omega) hk2
theorem zb2{nt:Nat}{ops:Array Oper}:∀(n:Nat) (l:List Oper) (aos:List AO),Z8 P nt ops l=some aos->Z8 P nt ops (l.drop n)=some (aos.drop n)
 | 0,l,aos,h=>h
 | n+1,[],aos,h=>by
  simp only[Z8,Option.some.injEq]at h;subst h
  rfl
 | n+1,o::l,aos,h=>by
  obtain⟨ao,_,h1⟩:=bind_some h;obtain⟨rest,hr,rfl⟩:=map_some h1;exact zb2 n l rest hr
theorem znl{nt id n:Nat}{aos:List AO}{st:St}{K:St->Prop}{Q:Exit->Act->World->Prop}(hnt:nt=cx.nt)(hm:P.follows .mixedOrders=true)(hB:Zgu ops aos=some n)
  (hres:Z8 P nt ops ops.toList=some aos) (hk:Zem P (aos.drop n) (aos.take n) st.env st.heap st.clk K) (hr:Rel cx st a w) (hQ:∀st' a' w',K st'->Rel cx st' a' w'->Q .normal a' w'):(Code.region id ops true).wp P Q a w:=by
 obtain⟨hw,hT⟩:=zgx hB;simp only[Region.lexTailB,Yk,decide_eq_true_eq]at hT;obtain⟨⟨⟨⟨_,hn⟩,hs⟩,hc⟩,hlex⟩:=hT;have hget':∀i o,ops[i]? = some o->∃ao,aos[i]? = some ao/\Za6 P nt ops o=some ao:=fun i o ho=>zau ops.toList aos hres i o (by grind);have hlen:=zav ops.toList aos hres;have htl:(ops.toList.take n).length=n:=by grind
 have hdl:(ops.toList.drop n).length=ops.size-n:=by simp
 have inv0:HeadInv .any ops n (Array.replicate ops.size false):=
  ⟨by simp,fun j oj _ hl=>(by rw[getD_replicate_false]at hl;grind),fun t _ ht=>getD_in (by grind) (getD_replicate_false _ _)⟩
 have hloc:Zel ops (FT P aos n st.heap):=by
  intro i o ho ρ ρ' hρ x ⟨hin,ao,hao,hq⟩;obtain⟨ao',h1,h2⟩:=hget' i o ho;rw[hao]at h1;refine⟨hin,ao,hao,?_⟩;obtain⟨op,g,hop,hg,rfl,_⟩:=zag h2
  grind[Oper.looksAt,QF,zbq,Zaz,map_some]
 obtain⟨S,M,hrf⟩:=hr;have hlx:=zk7 (P:=P) (ops:=ops) (aos:=aos) (tl:=aos.drop n) (n:=n) (h:=st.heap) (clk:=st.clk) (K:=K) hw (fun i o ho=>by
  grind[zag]) (ops.toList.take n) 0 (aos.take n) st.env (fun j hj=>by
   grind) (fun j hj=>by
   grind) (by grind) (by omega) hk
 have H:=zk6 (md:=.any) (g:=ops.size-n) hloc hs hc hn (ops.toList.take n) 0 _ st.env.get (fun j hj=>by
  grind) (by omega) inv0 (by grind) hlx
 refine wp_region_any hm ?_;have:=zer (P:=P) (md:=.any) (Q':=Q) (g:=ops.size-n) (F:=FT P aos n st.heap) (R:=fun ρ a w=>Zb1 cx st.clk st.heap ρ a w) (fun i o hin ho ρ x a w K' ⟨_,ao,hao,hq⟩ hr hK'=>by
  grind[za1]) (fun listed ρ a' w' hL hr'=>by
  obtain⟨hseq,e,rfl,hrun⟩:=hL;have hwl:wpList P ops Q (ops.toList.drop n) a' w':=zcp hnt _ _ ⟨e,st.heap,st.clk⟩ K a' w' (zb2 n _ _ hres) hrun hr' hQ
  grind[wpAny_of_seq]) _ _ _ a { w with drawn:=w.drawn+1 } (Zb1.drawn ⟨S,M,hrf⟩) H
 grind
end
end
section
open Go.RowKit
mutual
def gnA:AV->List Nat
 | .sl _ _=>[]
 | .agg cs=>gnR cs
 | .tup cs=>gnR cs
 | .i _ _=>[]
 | .b _=>[]
 | .s _=>[]
 | .raw _=>[]
 | .ep _ _=>[]
 | .bs _ g _ _ _=>[g]
 | .ptr _ g _ _ _=>[g]
 | .fnp _ _ g _ _ _=>[g]
 | .fnv .. => []
 | .ifc _ x=>gnA x
 | .dead=>[]
def gnR:List AV->List Nat
 | []=>[]
 | c::r=>gnA c++gnR r
end
theorem zgy{g:Nat}:∀(cs:List AV),g∈gnR cs↔∃c∈cs,g∈gnA c
 | []=>by simp[gnR]
 | c::r=>by simp[gnR,zgy r]
section
variable{w w':World}{S S':Nat->Nat->Prop}{M M':Map}{clk clk':Nat}
theorem zs9{vs:Array Value}{cs:List AV}(hl:vs.size=cs.length){c:AV}(hc:c∈cs):∃(j:Nat) (v:Value),vs[j]? = some v/\cs[j]? = some c:=by
 obtain⟨j,hj⟩:=Yae hc;have hlt:j<vs.size:=by grind
 exact⟨j,vs[j],Yz hlt,hj⟩
def CP.gn{v:Value}{x:AV}(h:CP w S v x):gnA x=[]:=by
 have key:∀(vs:Array Value) (cs:List AV),vs.size=cs.length->(∀(j:Nat) (v:Value) (c:AV),vs[j]? = some v->cs[j]? = some c->gnA c=[])->gnR cs=[]:=by
  intro vs cs hl ih;rw[List.eq_nil_iff_forall_not_mem]
  grind[zgy,zs9]
 induction h with
 | agg vs cs hl h1 _ ih=>simp only[gnA];grind
 | tup vs cs hl _ ih=>simp only[gnA];grind
 | _=>simp only[gnA]
def C.gn{v:Value}{x:AV}(h:C w S M clk v x):∀g∈gnA x,g<clk:=by
 have key:∀(vs:Array Value) (cs:List AV),vs.size=cs.length->(∀(j:Nat) (v:Value) (c:AV),vs[j]? = some v->cs[j]? = some c->∀g∈gnA c,g<clk)->∀g∈gnR cs,g<clk:=by
  grind[zgy,zs9]
 induction h with
 | p h=>rw[h.gn];grind
 | bs id g z off n v hg _ _=>grind[gnA]
 | ptr id g z i o v hg _ _=>grind[gnA]
 | fnp f id g z i o v hg _ _=>grind[gnA]
 | agg vs cs hl h1 _ ih=>simp only[gnA];grind
 | tup vs cs hl _ ih=>simp only[gnA];grind
 | ifc t v x _ ih=>simp only[gnA];omega
def C.remap{v:Value}{x:AV}(h:C w S M clk v x)(hg:∀g∈gnA x,M' g=M g/\g<clk'):C w S M' clk' v x:=by
 induction h with
 | p h=>exact .p h
 | bs id g z off n v hg' h h1=>
  obtain⟨h2,h3⟩:=hg g (by simp[gnA]);exact .bs id g z off n v h3 (by grind) h1
 | ptr id g z i o v hg' h h1=>
  obtain⟨h2,h3⟩:=hg g (by simp[gnA]);exact .ptr id g z i o v h3 (by grind) h1
 | fnp f id g z i o v hg' h h1=>
  obtain⟨h2,h3⟩:=hg g (by simp[gnA]);exact .fnp f id g z i o v h3 (by grind) h1
 | agg vs cs hl h1 _ ih=>
  refine .agg vs cs hl h1 fun j v c hv hc=>ih j v c hv hc fun g hgc=>hg g ?_
  grind[gnA,zgy]
 | tup vs cs hl _ ih=>
  refine .tup vs cs hl fun j v c hv hc=>ih j v c hv hc fun g hgc=>hg g ?_
  grind[gnA,zgy]
 | ifc t v x _ ih=>exact .ifc t v x (ih fun g hgx=>hg g (by simp only[gnA];omega))
inductive MkF (i:BId):(Nat->AV)->Nat->Prop
 | ptr (z:Nat):MkF i (fun g=>.ptr i g z 0 0) z
 | bs (z n:Nat):MkF i (fun g=>.bs i g z 0 n) z
def Zdu(bx:Box)(g:Nat):Prop:=bx.kind=.str/\∃r∈bx.els,∃x∈r,g∈gnA x
def Zbt.remap{bx:Box}(hb:Zbt w S M clk bx)(h1:M' bx.gen=M bx.gen)(h2:bx.gen<clk')(h3:∀g,Zdu bx g->M' g=M g/\g<clk'):Zbt w S M' clk' bx:=by
 obtain⟨_,b2,m,hm,b3⟩:=hb;refine⟨h2,b2,m,by grind,?_⟩;cases m with
 | none=>omega
 | some k=>
  by_cases hmp:bx.kind=.mp
  ·exact ckP hmp (ckP' hmp b3)
  obtain⟨arr,e,hh,hsz,hc,ho,hl⟩:=ck' hmp b3;refine ck hmp ⟨arr,e,hh,hsz,fun i r j c hi hj=>?_,ho,hl⟩;obtain⟨u,hu,hone,hC,hP⟩:=hc i r j c hi hj;refine⟨u,hu,hone,?_,hP⟩;by_cases hk:bx.kind=.str
  ·exact hC.remap fun g hg=>h3 g ⟨hk,r,Yc hi,c,Yc hj,hg⟩
  ·exact .p (hP hk)
def Zbt.gn{bx:Box}(hb:Zbt w S M clk bx):bx.gen<clk/\∀g,Zdu bx g->g<clk:=by
 obtain⟨b1,_,m,hm,b3⟩:=hb;refine⟨b1,fun g ⟨hk,r,hr,x,hx,hg⟩=>?_⟩;obtain⟨i,hi⟩:=Yae hr;obtain⟨j,hj⟩:=Yae hx;cases m with
 | none=>grind
 | some k=>
  obtain⟨arr,e,hh,hsz,hc,ho,hl⟩:=ck' (by rw[hk];simp) b3;obtain⟨u,hu,hone,hC,hP⟩:=hc i r j x hi hj;exact hC.gn g hg
def RelF.regen{cx:Cx}{h:Heap}{ρ:Nat->AV}{a:Act}{w:World}{S:Nat->Nat->Prop}{M:Map}{d c g z:Nat}{k:Kind}{els:List (List AV)}{f:Nat->AV}{i0:BId}(hf:MkF i0 f z)
  (hr:RelF cx S M (c+1) ((i0,⟨c,k,z,els⟩)::h) (upd ρ (some d) (f c)) a w) (hgc:g<c) (hcx:cx.clk0<=g) (hnew:h.lookup i0=none)
  (henv:∀t,∀q∈gnA (ρ t),q≠g/\q<c) (hbox:∀id bx,h.lookup id=some bx->bx.gen≠g/\bx.gen<c/\∀q,Zdu bx q->q≠g/\q<c)
  (hels:∀q,Zdu ⟨c,k,z,els⟩ q->q≠g/\q<c) :
  RelF cx S (fun q=>if q=g then M c else if q=c then none else M q) c ((i0,⟨g,k,z,els⟩)::h) (upd ρ (some d) (f g)) a w:=by
 generalize hM2:(fun q=>if q=g then M c else if q=c then none else M q:Map)=M2;have m2:∀q,q≠g->q<c->M2 q=M q:=by grind
 have m3:∀q m,M2 q=some m->(q=g/\M c=some m)\/(q≠g/\q≠c/\M q=some m):=by
  grind
 have look:∀(b:BId) (bx:Box) (x:Box),((i0,x)::h).lookup b=some bx->(b=i0/\bx=x)\/(b≠i0/\h.lookup b=some bx):=by
  grind
 have lookS:∀(x:Box),((i0,x)::h).lookup i0=some x:=by grind
 have hw:=hr.wr;refine⟨hr.size,hr.defers,fun t=>?_,⟨⟨fun b bx hb=>?_,fun q m hq=>?_,fun b bx b' bx' hb hb' he=>?_,fun q q' k' h1 h2=>?_⟩,⟨hw.ext.hS,hw.ext.hcell,by omega,fun q m hq hm=>?_,fun q k' arr e hq hm hb=>?_⟩,hw.fr,hw.Snew,hw.Slt,fun q k' hm=>?_⟩⟩
 ·have hC:=hr.env t;simp only[upd]at hC ⊢;by_cases ht:t=d
  ·rw[if_pos ht]at hC ⊢;cases hf with
   | ptr z=>
    obtain⟨_,h2,h3⟩:=hC.inv_ptr;exact .ptr _ _ _ _ _ _ hgc (by grind) h3
   | bs z n=>
    obtain⟨_,h2,h3⟩:=hC.inv_bs;exact .bs _ _ _ _ _ _ hgc (by grind) h3
  ·rw[if_neg ht]at hC ⊢;exact hC.remap fun q hq=>⟨m2 q (henv t q hq).1 (henv t q hq).2,(henv t q hq).2⟩
 ·rcases look b bx _ hb with ⟨rfl,rfl⟩ | ⟨hne,hl⟩
  ·have h0:=hw.heap.box _ _ (lookS ⟨c,k,z,els⟩);obtain⟨_,b2,m,hm,b3⟩:=h0;refine⟨hgc,b2,m,by grind,?_⟩;cases m with
   | none=>omega
   | some kk=>
    by_cases hmp:k=.mp
    ·exact ckP hmp (ckP' hmp b3)
    obtain⟨arr,e,hh,hsz,hc,ho,hl⟩:=ck' hmp b3;refine ck hmp ⟨arr,e,hh,hsz,fun i r j x hi hj=>?_,ho,hl⟩;obtain⟨u,hu,hone,hC,hP⟩:=hc i r j x hi hj;refine⟨u,hu,hone,?_,hP⟩;by_cases hk:k=.str
    ·refine hC.remap fun q hq=>?_;have:=hels q ⟨hk,r,Yc hi,x,Yc hj,hq⟩
     grind
    ·exact .p (hP hk)
  ·have h0:=hw.heap.box b bx (by grind);obtain⟨h1,h2,h3⟩:=hbox b bx hl;exact h0.remap (m2 _ h1 h2) h2 fun q hq=>⟨m2 q (h3 q hq).1 (h3 q hq).2,(h3 q hq).2⟩
 ·rcases m3 q m hq with ⟨rfl,_⟩ | ⟨_,hne,hm⟩
  ·grind
  ·obtain⟨b,bx,hb,he⟩:=hw.heap.live q m hm;rcases look b bx _ hb with ⟨rfl,rfl⟩ | ⟨hnd,hl⟩
   all_goals grind
 ·rcases look b bx _ hb with ⟨rfl,rfl⟩ | ⟨hne,hl⟩<;>rcases look b' bx' _ hb' with ⟨rfl,rfl⟩ | ⟨hne',hl'⟩
  ·rfl
  ·grind
  ·grind
  ·exact hw.heap.gens b bx b' bx' (by grind) (by grind) he
 ·rcases m3 q _ h1 with ⟨rfl,e1⟩ | ⟨n1,n2,e1⟩<;>rcases m3 q' _ h2 with ⟨rfl,e2⟩ | ⟨n1',n2',e2⟩
  ·rfl
  ·exact absurd (hw.heap.inj _ _ _ e1 e2).symm n2'
  ·exact absurd (hw.heap.inj _ _ _ e1 e2) n2
  ·exact hw.heap.inj _ _ _ e1 e2
 ·rcases m3 q m hm with ⟨rfl,_⟩ | ⟨_,_,e1⟩
  ·omega
  ·exact hw.ext.hM q m hq e1
 ·rcases m3 q _ hm with ⟨rfl,_⟩ | ⟨_,_,e1⟩
  ·omega
  ·exact hw.ext.hblk q k' arr e hq e1 hb
 ·rcases m3 q _ hm with ⟨rfl,e1⟩ | ⟨_,_,e1⟩
  ·exact hw.Mnew _ k' e1
  ·exact hw.Mnew q k' e1
def RelF.more{cx:Cx}{h:Heap}{ρ:Nat->AV}{a:Act}(hc:clk<=clk')(hr:RelF cx S M clk h ρ a w):RelF cx S M clk' h ρ a w:=by
 have hx:Ext w S M clk w S M clk':=⟨fun _ _ h=>h,fun _ _ _ _ h=>h,hc,fun _ _ _ h=>h,fun _ _ arr _ _ _ h=>⟨arr,h,rfl⟩⟩;exact⟨hr.size,hr.defers,fun t=>(hr.env t).mono hx,⟨⟨fun b bx hb=>(hr.wr.heap.box b bx hb).mono hx rfl (fun _ _=>rfl) fun _ _ _ h=>h,hr.wr.heap.live,hr.wr.heap.gens,hr.wr.heap.inj⟩,hr.wr.ext.trans hx,hr.wr.fr,hr.wr.Snew,hr.wr.Slt,hr.wr.Mnew⟩⟩
end
def Zcq(h h':Heap):Prop:=∀id bx,h.lookup id=some bx->h'.lookup id=some bx
theorem zdx{h h':Heap}(hs:Zcq h h'){id:BId}{g z:Nat}{bx:Box}(hb:Zac h id g z=some bx):Zac h' id g z=some bx:=by
 unfold Zac at hb ⊢;split at hb
 ·rename_i b hl;rw[hs id b hl];omega
 grind
theorem zgz{h h':Heap}(hs:Zcq h h'){id:BId}{g z i:Nat}(hb:Zez h id g z i=true):Zez h' id g z i=true:=by
 grind[Zez,zdx]
def ze6{α:Type}{h h':Heap}(hs:Zcq h h'){id:BId}{g z:Nat}{f:Box->Option α}{x:α}(hb:(Zac h id g z).bind f=some x):(Zac h' id g z).bind f=some x:=by
 obtain⟨bx,h1,h2⟩:=bind_some hb;rw[zdx hs h1]
 grind
def zwu{α:Type}{h h':Heap}(hs:Zcq h h'){id:BId}{g z:Nat}{f:Box->α}{x:α}(hb:(Zac h id g z).map f=some x):(Zac h' id g z).map f=some x:=by
 obtain⟨bx,h1,rfl⟩:=map_some hb;rw[zdx hs h1]
 rfl
def zwv{h h':Heap}(hs:Zcq h h'){k:KTy}{zv:AV}{ok:Bool}{x i y:AV}(hq:Zd2 k zv ok h x i=some y):Zd2 k zv ok h' x i=some y:=by
 unfold Zd2 at hq ⊢;split at hq
 ·rename_i id g;obtain⟨bx,hb,h1⟩:=bind_some hq;have hb':Zff h' id g=some bx:=by
   unfold Zff at hb ⊢;split at hb
   ·rename_i b hl;rw[hs id b hl];exact hb
   ·cases hb
  rw[hb'];exact h1
 ·cases hq
theorem zta{h h':Heap}(hs:Zcq h h'){op:AOp}{ρ:Nat->AV}{x:AV}(hq:Zi op ρ h=some x):Zi op ρ h'=some x:=by
 cases op<;>try exact hq
 case load n y=>
  simp only[Zi]at hq ⊢;cases hy:ev ρ y<;>rw[hy]at hq<;>simp only[Ze4]at hq ⊢<;>first | exact hq | exact ze6 hs hq
 case slc z y lo hi mx=>
  simp only[Zi]at hq ⊢;cases hy:ev ρ y<;>rw[hy]at hq<;>simp only[Zf7]at hq ⊢<;>first | exact hq | exact ze6 hs hq
 case fad o y=>
  simp only[Zi]at hq ⊢;cases hy:ev ρ y<;>rw[hy]at hq<;>simp only[Zgn]at hq ⊢<;>try exact hq
  grind[zgz]
 case iad z y i=>
  simp only[Zi]at hq ⊢;cases hy:ev ρ y<;>rw[hy]at hq<;>cases hi:ev ρ i<;>rw[hi]at hq<;>simp only[Zgo]at hq ⊢<;>first | exact hq | exact ze6 hs hq
 case iaa z len y i=>
  simp only[Zi]at hq ⊢;cases hy:ev ρ y<;>rw[hy]at hq<;>cases hi:ev ρ i<;>rw[hi]at hq<;>simp only[Zgp]at hq ⊢<;>try exact hq
  grind[zgz]
 case len y=>
  simp only[Zi]at hq ⊢;cases hy:ev ρ y<;>rw[hy]at hq<;>simp only[Zgq]at hq ⊢<;>first | exact hq | exact zwu hs hq
 case look k zv ok y i=>exact zwv hs hq
 case nilc y=>
  simp only[Zi]at hq ⊢;cases hy:ev ρ y<;>rw[hy]at hq<;>simp only[Ze5]at hq ⊢<;>try exact hq
  grind[zgz]
def zww{h h':Heap}(hs:Zcq h h'){x y:AV}(hq:Zaw h x=some y):Zaw h' x=some y:=by
 have hC:∀c d,Zby h c=some d->Zby h' c=some d:=by
  intro c d hc;cases c
  case bs id g z off n=>
   simp only[Zby]at hc ⊢;obtain⟨bx,hb,h2⟩:=bind_some hc;rw[zdx hs hb]
   grind
  all_goals exact hc
 cases x
 case agg cs=>
  simp only[Zaw]at hq ⊢;obtain⟨ds,hd,rfl⟩:=map_some hq;have:cs.mapM (Zby h')=some ds:=by
   induction cs generalizing ds with
   | nil=>grind
   | cons c cs ih=>
    simp only[Ya4,Yce,Yc0]at hd ⊢;obtain⟨d,h1,h2⟩:=bind_some hd;obtain⟨es,h3,h4⟩:=bind_some h2
    grind
  grind
 all_goals (simp only[Zaw]at hq ⊢;exact hC _ _ hq)
def zwx{h:Heap}{x y:AV}(hq:Zaw h x=some y):∀id∈refs x,∃bx,h.lookup id=some bx:=by
 have hC:∀c d,Zby h c=some d->∀id g z off n,c=.bs id g z off n->∃bx,h.lookup id=some bx:=by
  grind[Zby,Zac]
 intro id hid;cases x
 case agg cs=>
  obtain⟨ds,hd,rfl⟩:=map_some hq;obtain⟨k1,k2⟩:=zbe _ _ hd
  grind[refs,List.getElem?_of_mem]
 case bs=>grind[refs,Zaw]
 all_goals first | (cases hid;done) | (simp[Zaw,Zby]at hq)
def zwy{h h':Heap}(hs:Zcq h h'){x y:AV}(hq:Zhq h x=some y):Zhq h' x=some y:=by
 unfold Zhq at hq ⊢;split at hq
 ·omega
 ·split at hq
  ·rename_i h1;rw[if_pos,zww hs hq];refine Yl.2 fun id hid=>?_;obtain⟨bx,hb⟩:=zwx hq id hid;have:=Yl.1 h1 id hid;simp only[hb]at this;simp only[hs id bx hb,this]
  grind
theorem zk8{h h':Heap}(hs:Zcq h h'):∀{l ys:List AV},Zb0 h l=some ys->Zb0 h' l=some ys
 | [],ys,hq=>hq
 | x::l,ys,hq=>by
  simp only[Zb0]at hq ⊢;obtain⟨y,h1,h2⟩:=bind_some hq;obtain⟨zs,h3,rfl⟩:=map_some h2;rw[zwy hs h1,Y7,zk8 hs h3,Ya1]
def zy1{P:Program}{h h':Heap}(hs:Zcq h h'){o:AO}{ρ:Nat->AV}{x:AV}(hq:QF P h o ρ x):QF P h' o ρ x:=by
 have one:QOp P o.op ρ h x->QOp P o.op ρ h' x:=by
  intro hq;unfold QOp at hq ⊢
  grind[zk8,zta]
 grind[QF]
end
section
open Go.RowKit
def Zd4:Opd->List Nat
 | .t n=>[n]
 | .c _=>[]
def Zft:AOp->List Nat
 | .mov x=>Zd4 x
 | .build _ ps=>ps.flatMap fun p=>Zd4 p.2.2
 | .xop (.box _) [x]=>Zd4 x
 | _=>[]
def AOp.slotty:AOp->Bool
 | .mov _ | .build .. | .xop .. => true
 | _=>false
def ztb{op:AOp}(h:op.slotty=false):Zft op=[]:=by
 cases op<;>first | rfl | cases h
def Zfi(c0:Nat)(op:AOp)(ρ:Nat->AV)(g:Nat):Prop:=g<c0\/∃t∈Zft op,g∈gnA (ρ t)
def Zjx(P:Program)(f:FuncId)(xs:List AV)(g0:Nat)(x:AV)(B:Heap)(m:Nat):Prop:=
 xs.all noRef=true/\Zdt P f xs [] g0 (fun r h c=>r=x/\h=B/\c=g0+m)/\(B.map (·.1)).Nodup/\(∀g∈gnA x,g0<=g)/\∀p∈B,∀g,Zdu p.2 g->g0<=g
def obH(b:BId)(ob:Option Box):Heap:=match ob with | none=>[] | some o=>[(b,o)]
def Zbn(P:Program)(h0:Heap)(c0:Nat)(X:Heap)(Fin:Env->Heap->Nat->Prop):List AO->Env->Heap->Nat->Prop
 | [],e,h,clk=>Fin e h clk
 | o::r,e,h,clk=>
  match o.op.maker with
  | true=>o.guard=none/\∃d x b bx ob,o.dst=some d/\stepW o.op (some d) e.get (obH b ob) clk=some (x,(b,bx)::obH b ob,clk+1)/\h.lookup b=ob/\X.lookup b=ob/\h0.lookup b=none/\(∀o,ob=some o->o.gen<clk) /\
    (∀g,Zdu bx g->Zfi c0 o.op e.get g)/\Zbn P h0 c0 X Fin r (Ze e (some d) x) ((b,bx)::h) (clk+1)
  | false=>
   match o.op.isStore with
   | true=>o.guard=none/\o.dst=none/\∃H2,stepW o.op none e.get h clk=some (.tup [],H2,clk)/\Zcq h0 H2/\Zbn P h0 c0 X Fin r e H2 clk
   | false=>
    (qK P o e h0 [] fun x=>(∀g∈gnA x,Zfi c0 o.op e.get g)/\Zbn P h0 c0 X Fin r (Ze e o.dst x) h clk) \/
    (o.guard=none/\∃f args d x B m,o.op=.call f args/\o.dst=some d/\Zjx P f (args.map (ev e.get)) clk x B m/\(∀p∈B,h.lookup p.1=none) /\
     Zbn P h0 c0 X Fin r (Ze e (some d) x) (B++h) (clk+m))
def Zgz(P:Program)(tl:List AO)(h0:Heap)(c0:Nat)(X:Heap)(hd:List AO)(e:Env)(h:Heap)(clk:Nat)(K:St->Prop):Prop:=
 Zbn P h0 c0 X (fun e h clk=>Zdd P tl ⟨e,h,clk⟩ K) hd e h clk
section
variable{P:Program}{ops:Array Oper}
def zdi{y:Operand}{x:Opd}(h:Zj y=some x):∀t∈Zd4 x,y=.tmp t:=by
 intro t ht;cases x with
 | t n=>
  grind[Zd4,zcf]
 | c v=>cases ht
theorem ze7{fields:Array Field}:∀{l:List (Nat×Operand)} {ps:List (Nat×Nat×Opd)},Zbw P fields l=some ps->∀t,t∈(ps.flatMap fun p=>Zd4 p.2.2)->Operand.tmp t∈l.map (·.2)
 | [],ps,hr,t,ht=>by simp only[Zbw,Option.some.injEq]at hr;subst hr;cases ht
 | (i,x)::l,ps,hr,t,ht=>by
  simp only[Zbw]at hr;split at hr
  ·cases hr
  obtain⟨n,hn,hr1⟩:=bind_some hr;obtain⟨p,hp,hr2⟩:=bind_some hr1;obtain⟨qs,hq,rfl⟩:=map_some hr2;simp only[List.flatMap_cons,Yaj]at ht;simp only[Yx,Yn];rcases ht with ht | ht
  ·exact .inl (zdi hp t ht).symm
  ·exact .inr (ze7 hq t ht)
theorem zes{n:Nat}:∀{l:List (Nat×Operand)} {ps:List (Nat×Nat×Opd)},Zb7 n l=some ps->∀t,t∈(ps.flatMap fun p=>Zd4 p.2.2)->Operand.tmp t∈l.map (·.2)
 | [],ps,hr,t,ht=>by simp only[Zb7,Option.some.injEq]at hr;subst hr;cases ht
 | (i,x)::l,ps,hr,t,ht=>by
  obtain⟨p,hp,hr2⟩:=bind_some hr;obtain⟨qs,hq,rfl⟩:=map_some hr2;simp only[List.flatMap_cons,Yaj]at ht;simp only[Yx,Yn];rcases ht with ht | ht
  ·exact .inl (zdi hp t ht).symm
  ·exact .inr (zes hq t ht)
def zqo{o:Op}{op:AOp}(hop:Zdr P o=some op):∀t∈Zft op,Operand.tmp t∈o.operands.toList:=by
 intro t ht;replace hop:=zar hop;rcases hop with hop | ⟨k,xs,rfl,hx⟩
 rotate_left
 ·rcases hx with hx | ⟨rfl,rfl⟩
  ·cases k<;>simp only[Zft]at ht<;>try (cases ht;done)
   match xs,hx,ht with
   | [],hx,ht=>grind
   | [x],hx,ht=>
    cases x with
    | t n=>
     grind[Zd4,zpi]
    | c v=>cases ht
   | _::_::_,hx,ht=>grind
  ·cases ht
 cases o<;>simp only[Zbe]at hop
 case move y=>
  obtain⟨p,hp,rfl⟩:=map_some hop;simp[Op.operands,zdi hp t ht]
 case assign y=>
  obtain⟨p,hp,rfl⟩:=map_some hop;simp[Op.operands,zdi hp t ht]
 case build ty parts=>
  split at hop
  ·split at hop
   ·obtain⟨zs,_,hop1⟩:=bind_some hop;obtain⟨ps,hp,rfl⟩:=map_some hop1;have:=ze7 hp t ht;simpa[Op.operands]using this
   grind
  ·obtain⟨n,_,hop0⟩:=bind_some hop;obtain⟨zs,_,hop1⟩:=bind_some hop0;obtain⟨ps,hp,rfl⟩:=map_some hop1;have:=zes hp t ht;simpa[Op.operands]using this
  grind
 all_goals
  exfalso;have key:op.slotty=false:=by
   clear ht;revert hop
   repeat' split
   all_goals (intro hop)
   all_goals try contradiction
   all_goals try (cases hop;rfl;done)
   all_goals try simp only[Yf,Y9,reduceCtorEq,and_false,exists_false]at hop
   all_goals try (exact hop.elim)
   all_goals first
    | (obtain⟨_,_,rfl⟩:=hop;rfl)
    | (obtain⟨_,_,hop⟩:=hop;split at hop<;>cases hop<;>rfl)
    | (obtain⟨_,_,_,_,rfl⟩:=hop;rfl)
    | (obtain⟨_,_,_,_,hop⟩:=hop;split at hop<;>cases hop<;>rfl)
    | (obtain⟨_,_,_,_,_,_,rfl⟩:=hop;rfl)
    | (obtain⟨_,_,_,_,_,_,_,_,rfl⟩:=hop;rfl)
    | (obtain⟨_,_,_,_,_,_,_,_,_,_,rfl⟩:=hop;rfl)
    | (obtain⟨_,_,_,_,_,_,_,_,hop⟩:=hop;split at hop<;>cases hop<;>rfl)
    | (obtain⟨_,_,_,_,_,_,_,_,_,_,hop⟩:=hop;split at hop<;>cases hop<;>rfl)
    | (obtain⟨_,_,hop⟩:=hop;split at hop<;>first | (cases hop;done) | (simp only[Yf,Y9]at hop;obtain⟨_,_,hop⟩:=hop;split at hop<;>first | (cases hop;done) | (simp only[Y9]at hop;first | (obtain⟨_,_,rfl⟩:=hop;rfl) | (obtain⟨_,_,_,_,rfl⟩:=hop;rfl))))
    | (obtain⟨_,_,hop⟩:=hop;split at hop<;>first | (cases hop;done) | (simp only[Yf,Y9]at hop;first | (obtain⟨_,_,rfl⟩:=hop;rfl) | (obtain⟨_,_,_,_,rfl⟩:=hop;rfl)))
  rw[ztb key]at ht;cases ht
theorem zk9{h h':Heap}(hs:Zcq h h'){z:Nat}{y:AV}{ys:List (List AV)}(hy:rowOf h z y=some ys):rowOf h' z y=some ys:=by
 cases y<;>simp only[rowOf]at hy ⊢<;>first | exact hy | (cases hy;done) | exact ze6 hs hy
def zi0{op:AOp}{d g:Nat}{ρ:Nat->AV}{x:AV}{b:BId}{bx:Box}{ob:Option Box}(hm:op.maker=true)(h:stepW op (some d) ρ (obH b ob) g=some (x,(b,bx)::obH b ob,g+1)) :
  ∃f z k els,MkF b f z/\bx=⟨g,k,z,els⟩/\x=f g/\∀(hp:Heap) (c:Nat),Zcq (obH b ob) hp->stepW op (some d) ρ hp c=some (f c,(b,⟨c,k,z,els⟩)::hp,c+1):=by
 cases op<;>simp only[AOp.maker]at hm<;>try (cases hm;done)
 case alloc zs=>
  obtain⟨rfl,rfl,rfl⟩:=h;exact⟨_,_,_,_,.ptr zs.length,rfl,rfl,fun hp c _=>rfl⟩
 case mks z zs l c=>
  simp only[stepW,Zf9]at h ⊢;split at h
  ·rename_i k1 n k2 m _ _;simp only[Y7]at h ⊢;split at h
   ·rename_i hc;obtain⟨rfl,rfl,rfl⟩:=h;exact⟨_,_,_,_,.bs z n.toNat,rfl,rfl,fun hp c _=>by rw[if_pos hc]⟩
   grind
  grind
 case app z x' y=>
  simp only[stepW,Zh2]at h ⊢;obtain⟨ys,hy,h1⟩:=bind_some h;cases hv:ev ρ x'<;>rw[hv]at h1<;>simp only[Zhm]at h1<;>try (cases h1;done)
  case sl els fl=>
   simp only[Y7]at h1;split at h1
   ·simp only[Option.some.injEq,Prod.mk.injEq,List.cons.injEq,and_true]at h1;obtain⟨rfl,rfl,rfl⟩:=h1;refine⟨_,_,_,_,.bs z (els.length+ys.length),rfl,rfl,fun hp c hs=>?_⟩
    grind[zk9,Zhm]
   grind
  case bs id g' z' off n=>
   obtain⟨b0,hb0,h2⟩:=bind_some h1;split at h2
   ·rename_i hc;simp only[Option.some.injEq,Prod.mk.injEq,List.cons.injEq,and_true]at h2;obtain⟨rfl,rfl,rfl⟩:=h2;refine⟨_,_,_,_,.bs z (n+ys.length),rfl,rfl,fun hp c hs=>?_⟩
    grind[zk9,Zhm,zdx]
   grind
 case xop k xs=>
  cases k<;>simp only at hm<;>try (cases hm;done)
  rename_i n
  match xs,h with
  | [],h=>simp[stepW,Zao]at h
  | [y],h=>
   simp only[stepW,Zao,Yx,Ybl,Zi1,Y7]at h ⊢;obtain⟨cs,hcs,h1⟩:=bind_some h;split at h1
   ·simp only[Option.some.injEq,Prod.mk.injEq,List.cons.injEq,and_true]at h1;obtain⟨rfl,rfl,rfl⟩:=h1;refine⟨_,_,_,_,.ptr n,rfl,rfl,fun hp c _=>?_⟩
    grind
   grind
  | _::_::_,h=>simp[stepW,Zao]at h
def znm{op:AOp}{d g:Nat}{ρ:Nat->AV}{x:AV}{hp:Heap}{c:Nat}(hm:op.maker=true)(h:stepW op (some d) ρ [] g=some (x,hp,c)):∃bx,hp=[(.loc d,bx)]/\c=g+1:=by
 cases op<;>simp only[AOp.maker]at hm<;>try (cases hm;done)
 case alloc zs=>
  grind[stepW,Zet]
 case mks z zs l c=>
  simp only[stepW,Zf9]at h
  grind
 case app z x' y=>
  obtain⟨ys,hy,h1⟩:=bind_some h;cases hv:ev ρ x'<;>rw[hv]at h1<;>simp only[Zhm]at h1<;>try (cases h1;done)
  grind
 case xop k xs=>
  cases k<;>simp only at hm<;>try (cases hm;done)
  match xs,h with
  | [],h=>simp[stepW,Zao]at h
  | [y],h=>
   obtain⟨cs,hcs,h1⟩:=bind_some h
   grind
  | _::_::_,h=>simp[stepW,Zao]at h
structure Mk where
 i:Nat
 d:Nat
 x:AV
 bs:Heap
 g0:Nat
 n:Nat
 ob:Option Box
def Mk.has(m:Mk)(g:Nat):Prop:=m.g0<=g/\g<m.g0+m.n
def FM(P:Program)(aos:List AO)(n:Nat)(h0:Heap)(c0:Nat)(MK:List Mk)(i:Nat)(ρ:Nat->AV)(x:AV):Prop:=
 i<n/\∃ao,aos[i]? = some ao /\
  ((ao.guard=none/\∃m∈MK,m.i=i/\ao.dst=some m.d/\m.x=x /\
    ((ao.op.maker=true/\∃b bx,m.bs=[(b,bx)]/\m.g0=bx.gen/\m.n=1/\stepW ao.op (some m.d) ρ (obH b m.ob) bx.gen=some (x,(b,bx)::obH b m.ob,bx.gen+1)/\∀g,Zdu bx g->Zfi c0 ao.op ρ g) \/
     (ao.op.maker=false/\m.ob=none/\∃f args,ao.op=.call f args/\Zjx P f (args.map (ev ρ)) m.g0 x m.bs m.n))) \/
   (ao.op.maker=false/\(∀m∈MK,m.i≠i)/\QF P h0 ao ρ x/\∀g∈gnA x,Zfi c0 ao.op ρ g))
def mkH(l:List Mk):Heap:=l.reverse.flatMap fun m=>m.bs
def mkN(l:List Mk):Nat:=(l.map fun m=>m.n).sum
theorem zef{γ:Type}{id:BId}{x:γ}:∀(l:List (BId×γ)),(id,x)∈l->(∀y,(id,y)∈l->y=x)->l.lookup id=some x
 | [],h,_=>by cases h
 | (b,y)::l,h,hu=>by
  simp only[Yas];by_cases hb:id=b
  ·subst hb;simp only[beq_self_eq_true];rw[hu y (by simp)]
  ·have:(id == b)=false:=by simpa using hb
   rw[this];refine zef l ?_ fun z hz=>hu z (Yh _ hz);rcases Yn.1 h with h | h
   ·injection h with h1 h2
    exact absurd h1 hb
   ·exact h
theorem zi1{γ:Type}{id:BId}:∀(l:List (BId×γ)),(∀y,(id,y)∉l)->l.lookup id=none
 | [],_=>rfl
 | (b,y)::l,h=>by
  grind
theorem znn{l:List Mk}{id:BId}{x:Box}:(id,x)∈mkH l↔∃m∈l,(id,x)∈m.bs:=by
 grind[mkH]
theorem zg0{γ:Type}:∀(l:List (BId×γ)),(l.map (·.1)).Nodup->∀{b:BId} {x y:γ},(b,x)∈l->(b,y)∈l->x=y
 | [],_,_,_,_,h,_=>by cases h
 | (c,z)::l,hn,b,x,y,h1,h2=>by
  simp only[Yx,Yd9]at hn;rcases Yn.1 h1 with h1 | h1<;>rcases Yn.1 h2 with h2 | h2
  ·rw[Prod.mk.injEq]at h1 h2;rw[h1.2,h2.2]
  ·rw[Prod.mk.injEq]at h1;exact absurd (Yy.2 ⟨_,h2,h1.1⟩) hn.1
  ·rw[Prod.mk.injEq]at h2;exact absurd (Yy.2 ⟨_,h1,h2.1⟩) hn.1
  ·exact zg0 l hn.2 h1 h2
theorem zg1{γ:Type}:∀(l:List (BId×γ)) (b:BId) (x:γ),l.lookup b=some x->(b,x)∈l
 | [],b,x,h=>by simp at h
 | (c,y)::l,b,x,h=>by
  simp only[Yas]at h;split at h
  ·rename_i hb;cases h;rw[eq_of_beq hb];simp
  ·exact Yh _ (zg1 l b x h)
theorem zoz{aos:List AO}{n:Nat}{h0 X:Heap}{c0:Nat}(hX0:Zcq h0 X){Fin:Env->Heap->Nat->Prop}(hw:∀ao∈aos.take n,ao.op.writes=true->ao.op.maker=true)(hdst:∀(i:Nat) (o:Oper),ops[i]? = some o->∃ao:AO,aos[i]? = some ao/\ao.dst=o.dst) :
  ∀(l:List Oper) (k:Nat) (rest:List AO) (e:Env) (h:Heap) (clk:Nat),(∀j,j<l.length->l[j]? = ops[k+j]?)->(∀j,j<rest.length->rest[j]? = aos[k+j]?)->l.length=rest.length->k+l.length=n->(∀id,h.lookup id=none->X.lookup id=none) ->
   Zbn P h0 c0 X Fin rest e h clk ->
   ∃MKs:List Mk,(∀m∈MKs,k<=m.i/\m.i<n/\clk<=m.g0/\m.g0+m.n<=clk+mkN MKs/\(∀p∈m.bs,h.lookup p.1=m.ob/\X.lookup p.1=m.ob/\h0.lookup p.1=none)/\(m.bs.map (·.1)).Nodup) /\
    (∀m∈MKs,∀m'∈MKs,(m.i=m'.i\/(∃b x y,(b,x)∈m.bs/\(b,y)∈m'.bs)\/(∃g,m.has g/\m'.has g))->m=m') /\
    (∀m∈MKs,∃ao,aos[m.i]? = some ao/\ao.op.noisy=true) /\
    ∀MK:List Mk,(∀m∈MKs,m∈MK)->(∀m∈MK,k<=m.i->m∈MKs)->Zc3 ops (FM P aos n h0 c0 MK) (fun ρ=>∃e,ρ=Env.get e/\Fin e (mkH MKs++h) (clk+mkN MKs)) l k e.get
 | [],k,rest,e,h,clk,_,_,hlen,_,_,hk=>by
  have:rest=[]:=Yag (by grind);subst this;exact⟨[],by simp,by simp,by simp,fun MK _ _=>⟨e,rfl,by simpa[mkH,mkN,Zbn]using hk⟩⟩
 | o::l,k,rest,e,h,clk,hl,hr,hlen,hkn,hXh,hk=>by
  cases rest with
  | nil=>grind
  | cons ao rest=>
   have h0':ops[k]? = some o:=by simpa using (hl 0 (by simp)).symm
   have h1:aos[k]? = some ao:=by simpa using (hr 0 (by simp)).symm
   obtain⟨ao',h2,hd⟩:=hdst k o h0';rw[h1]at h2;cases h2;simp only[Yg]at hkn;have hmem:ao∈aos.take n:=Yc (i:=k) (by grind);have hl':∀j,j<l.length->l[j]? = ops[k+1+j]? := fun j hj=>by have:=hl (j+1) (by grind);grind
   have hr':∀j,j<rest.length->rest[j]? = aos[k+1+j]? := fun j hj=>by have:=hr (j+1) (by grind);grind
   simp only[Zbn]at hk
   -- one that makes boxes
   have make:∀(d:Nat) (x:AV) (B:Heap) (m:Nat) (ob:Option Box),ao.op.noisy=true->ao.dst=some d->(∀p∈B,h.lookup p.1=ob/\X.lookup p.1=ob/\h0.lookup p.1=none)->(∀p∈B,X.lookup p.1≠some p.2)->(B.map (·.1)).Nodup ->
     (∀MK:List Mk,(⟨k,d,x,B,clk,m,ob⟩:Mk)∈MK->FM P aos n h0 c0 MK k e.get x)->Zbn P h0 c0 X Fin rest (Ze e (some d) x) (B++h) (clk+m)->(∃MKs:List Mk,(∀m∈MKs,k<=m.i/\m.i<n/\clk<=m.g0/\m.g0+m.n<=clk+mkN MKs/\(∀p∈m.bs,h.lookup p.1=m.ob/\X.lookup p.1=m.ob/\h0.lookup p.1=none)/\(m.bs.map (·.1)).Nodup) /\
      (∀m∈MKs,∀m'∈MKs,(m.i=m'.i\/(∃b x y,(b,x)∈m.bs/\(b,y)∈m'.bs)\/(∃g,m.has g/\m'.has g))->m=m') /\
      (∀m∈MKs,∃ao,aos[m.i]? = some ao/\ao.op.noisy=true) /\
    ∀MK:List Mk,(∀m∈MKs,m∈MK)->(∀m∈MK,k<=m.i->m∈MKs)->Zc3 ops (FM P aos n h0 c0 MK) (fun ρ=>∃e,ρ=Env.get e/\Fin e (mkH MKs++h) (clk+mkN MKs)) (o::l) k e.get):=by
    intro d x B m ob hno hdd hfr hXB hnd hF hk2;obtain⟨MKs,p1,p2,p4,p3⟩:=zoz hX0 (Fin:=Fin) hw hdst l (k+1) rest _ _ _ hl' hr' (by grind) (by omega) (fun id hid=>hXh id (by grind)) hk2;have hsum:mkN (⟨k,d,x,B,clk,m,ob⟩::MKs)=m+mkN MKs:=by simp[mkN]
    refine⟨⟨k,d,x,B,clk,m,ob⟩::MKs,fun q hq=>?_,fun q hq q' hq' he=>?_,fun q hq=>(Yn.1 hq).elim (fun e=>by grind) (fun hq=>p4 q hq),fun MK hMK hMK2=>?_⟩
    ·rw[hsum];rcases Yn.1 hq with rfl | hq
     ·grind
     ·obtain⟨q1,q2,q3,q4,q5,q6⟩:=p1 q hq;refine⟨by omega,q2,by omega,by omega,fun p hp=>?_,q6⟩;obtain⟨this,hxo,h0o⟩:=q5 p hp;cases hBl:B.lookup p.1 with
      | none=>grind
      | some bx=>grind
    ·have key:∀m'∈MKs,(k=m'.i\/(∃b x y,(b,x)∈B/\(b,y)∈m'.bs)\/(∃g,(clk<=g/\g<clk+m)/\m'.has g))->False:=by
      intro m' hm' he;obtain⟨q1,q2,q3,q4,q5,_⟩:=p1 m' hm';rcases he with he | ⟨b,u,v,hb,hb'⟩ | ⟨g,hg,hg'⟩
      ·omega
      ·obtain⟨this,hxo,h0o⟩:=q5 _ hb';cases hBl:B.lookup b with
       | none=>grind
       | some bx=>exact hXB (b,bx) (zg1 _ _ _ hBl) (by grind)
      ·have h3:=hg'.1;omega
     rcases Yn.1 hq with rfl | hq<;>rcases Yn.1 hq' with rfl | hq'
     ·rfl
     ·exact(key q' hq' he).elim
     ·refine(key q hq ?_).elim;rcases he with he | ⟨b,u,v,hb,hb'⟩ | ⟨g,hg,hg'⟩
      ·grind
      ·grind
      ·exact .inr (.inr ⟨g,hg',hg⟩)
     grind
    ·refine⟨x,hF MK (hMK _ (by simp)),?_⟩;have:=p3 MK (fun m hm=>hMK m (by grind)) (fun q hq hqi=>by
      grind)
     rw[<-hd,<-zbt,hdd];have e1:mkH (⟨k,d,x,B,clk,m,ob⟩::MKs)++h=mkH MKs++(B++h):=by simp[mkH]
     have e2:clk+mkN (⟨k,d,x,B,clk,m,ob⟩::MKs:List Mk)=clk+m+mkN MKs:=by omega
     rw[e1,e2];omega
   cases hmk:ao.op.maker with
   | true=>
    rw[hmk]at hk;obtain⟨hgn,d,x,b,bx,ob,hdd,hst,hfr,hfx,hf0,hgo,hcont,hk2⟩:=hk;obtain⟨f,z,kd,els,hf,hbx,hx,_⟩:=zi0 hmk hst;have hg0:bx.gen=clk:=by grind
    refine make d x [(b,bx)] 1 ob (by cases hop:ao.op<;>rw[hop]at hmk<;>first | rfl | exact hmk | cases hmk) hdd (fun p hp=>by grind) (fun p hp he=>?_) (by simp) (fun MK hm=>⟨by omega,ao,h1,.inl ⟨hgn,_,hm,rfl,hdd,rfl,.inl ⟨hmk,b,bx,rfl,hg0.symm,rfl,by grind,hcont⟩⟩⟩) hk2
    grind
   | false=>
    rw[hmk]at hk;have hns:ao.op.isStore=false:=by
     cases hh:ao.op.isStore with
     | false=>rfl
     | true=>
      have hww:ao.op.writes=true:=by
       cases hop:ao.op<;>rw[hop]at hh<;>first | rfl | cases hh
      grind
    rw[hns]at hk;rcases hk with hk | ⟨hgn,f,args,d,x,B,m,hop,hdd,hcb,hfr,hk2⟩
    ·have hwr:ao.op.writes=false:=by
      grind
     obtain⟨x,hq1,_,hcont,hk2⟩:=zqn hwr hk;obtain⟨MKs,p1,p2,p4,p3⟩:=zoz hX0 (Fin:=Fin) hw hdst l (k+1) rest _ _ _ hl' hr' (by grind) (by omega) hXh hk2;refine⟨MKs,fun m hm=>?_,p2,p4,fun MK hMK hMK2=>⟨x,⟨by omega,ao,h1,.inr ⟨hmk,fun m hm he=>?_,hq1,hcont⟩⟩,?_⟩⟩
     ·grind
     ·grind
     grind[zbt]
    ·have hfx:∀p∈B,X.lookup p.1=none:=fun p hp=>hXh _ (hfr p hp);have hf0:∀p∈B,h0.lookup p.1=none:=fun p hp=>by
      cases hl0:h0.lookup p.1 with
      | none=>rfl
      | some y=>have:=hX0 _ _ hl0;grind
     exact make d x B m none (by rw[hop];rfl) hdd (fun p hp=>⟨hfr p hp,hfx p hp,hf0 p hp⟩) (fun p hp he=>by grind) hcb.2.2.1 (fun MK hm=>⟨by omega,ao,h1,.inl ⟨hgn,_,hm,rfl,hdd,rfl,.inr ⟨hmk,rfl,f,args,hop,hcb⟩⟩⟩) hk2
theorem ze8{h0 X:Heap}{c0:Nat}{Fin:Env->Heap->Nat->Prop}(s:List AO):∀(l:List AO) (e:Env) (h:Heap) (clk:Nat),Zbn P h0 c0 X Fin (l++s) e h clk=Zbn P h0 c0 X (fun e h clk=>Zbn P h0 c0 X Fin s e h clk) l e h clk
 | [],e,h,clk=>rfl
 | o::l,e,h,clk=>by
  have ih:=ze8 (h0:=h0) (X:=X) (c0:=c0) (Fin:=Fin) s l;simp only[Ycv,Zbn,ih]
end
end
section
open Go.RowKit
section
variable{P:Program}{w w':World}{S S':Nat->Nat->Prop}{M M':Map}
theorem zo3{γ:Type}:∀(l:List (BId×γ)) (b:BId) (x:γ),l.lookup b=some x->(b,x)∈l
 | [],b,x,h=>by simp at h
 | (c,y)::l,b,x,h=>by
  simp only[Yas]at h;split at h
  ·rename_i hb;cases h;rw[eq_of_beq hb];simp
  ·exact Yh _ (zo3 l b x h)
def RelF.mk2{cx:Cx}{h B:Heap}{ρ:Nat->AV}{a:Act}{c g0 n nt:Nat}{v:Value}{x:AV}(hr:RelF cx S M c h ρ a w)
  (hw:WRel ⟨P,nt,w,S,fun _=>none,g0⟩ S' M' (g0+n) B w') (hC:C w' S' M' (g0+n) v x) (hc:g0+n<=c) (h0:cx.clk0<=g0) (hfr:∀p∈B,h.lookup p.1=none)
  (henv:∀t,∀q∈gnA (ρ t),¬ (g0<=q/\q<g0+n)) (hbox:∀id bx,h.lookup id=some bx->¬ (g0<=bx.gen/\bx.gen<g0+n)/\∀q,Zdu bx q->¬ (g0<=q/\q<g0+n))
  (hx:∀g∈gnA x,g0<=g) (hB:∀p∈B,∀g,Zdu p.2 g->g0<=g) :
  ∃M2,RelF cx S' M2 c (B++h) ρ a w'/\C w' S' M2 c v x:=by
 have hno:∀k,¬ (⟨P,nt,w,S,fun _=>none,g0⟩:Cx).brw k:=by
  intro k ⟨g,hg⟩
  grind
 have hblk:∀k,k<w.heap.size->w'.heap[k]? = w.heap[k]? := fun k hk=>hw.fr.block k hk (hno k);have hSo:∀k o,k<w.heap.size->S' k o->S k o:=by
  intro k o hk hs;rcases hw.Snew k o hs with h1 | h1 | h1
  all_goals grind
 have hin:∀g m,M' g=some m->g0<=g/\g<g0+n:=by
  intro g m hm;obtain⟨b,bx,h1,h2⟩:=hw.heap.live g m hm;refine⟨?_,by rw[<-h2];exact(hw.heap.box b bx h1).1⟩;rcases Yv g g0 with hlt | hge
  ·have:=hw.ext.hM g m hlt hm
   grind
  omega
 have hMk:∀g k,M' g=some (some k)->k<w'.heap.size/\w.heap.size<=k:=by
  intro g k hm;obtain⟨h1,h2⟩:=hw.Mnew g k hm
  grind
 have hx1:Ext w S M c w' S' M c:=by
  refine⟨hw.ext.hS,hw.ext.hcell,Yi _,fun g m _ hm=>hm,fun g k arr e _ hm hb=>⟨arr,?_,rfl⟩⟩
  grind
 generalize hM2:(fun g=>if g0<=g/\g<g0+n then M' g else M g:Map)=M2;have m1:∀g,g0<=g/\g<g0+n->M2 g=M' g:=by grind
 have m2:∀g,¬ (g0<=g/\g<g0+n)->M2 g=M g:=by grind
 have m3:∀g m,M2 g=some m->((g0<=g/\g<g0+n)/\M' g=some m)\/(¬ (g0<=g/\g<g0+n)/\M g=some m):=by
  grind
 have hlt:∀q,¬ (g0<=q/\q<g0+n)->q<c->M2 q=M q/\q<c:=fun q h1 h2=>⟨m2 q h1,h2⟩;have hlook:∀id bx,(B++h).lookup id=some bx->B.lookup id=some bx\/(B.lookup id=none/\h.lookup id=some bx):=by
  grind
 have hlh:∀id bx,h.lookup id=some bx->(B++h).lookup id=some bx:=by
  grind
 have hBg:∀id bx,B.lookup id=some bx->g0<=bx.gen/\bx.gen<g0+n:=by
  intro id bx hb;obtain⟨b1,_,m,hm,_⟩:=hw.heap.box id bx hb
  grind
 refine⟨M2,⟨hr.size,hr.defers,fun t=>?_,⟨⟨fun b bx hb=>?_,fun g m hm=>?_,fun b bx b' bx' h1 h2 hg=>?_,fun g g' k h1 h2=>?_⟩,⟨?_,?_,?_,fun g m hg hm=>?_,fun g k arr e hg hm hb=>?_⟩,?_,fun k o hs=>?_,hw.Slt,fun g k hm=>?_⟩⟩,?_⟩
 ·exact((hr.env t).mono hx1).remap fun q hq=>hlt q (henv t q hq) ((hr.env t).gn q hq)
 ·rcases hlook b bx hb with h1 | ⟨_,h1⟩
  ·have hbk:=hw.heap.box b bx h1;have hg:=hBg b bx h1;refine hbk.remap (m1 _ hg) (by omega) fun q hq=>?_;have h2:=hB _ (zo3 B b bx h1) q hq;have h3:=hbk.gn.2 q hq
   grind
  ·have hbk:=hr.wr.heap.box b bx h1;obtain⟨e1,e2⟩:=hbox b bx h1;refine(hbk.mono hx1 rfl (fun k hm=>hblk k (hr.wr.Mnew _ k hm).1) fun k o hm hs=>hSo k o (hr.wr.Mnew _ k hm).1 hs).remap (m2 _ e1) hbk.1 fun q hq=>?_;exact hlt q (e2 q hq) (hbk.gn.2 q hq)
 ·rcases m3 g m hm with ⟨_,h1⟩ | ⟨_,h1⟩
  ·obtain⟨b,bx,h2,h3⟩:=hw.heap.live g m h1
   grind
  ·obtain⟨b,bx,h2,h3⟩:=hr.wr.heap.live g m h1
   grind
 ·rcases hlook b bx h1 with h1 | ⟨_,h1⟩<;>rcases hlook b' bx' h2 with h2 | ⟨_,h2⟩
  ·exact hw.heap.gens b bx b' bx' h1 h2 hg
  ·grind
  ·grind
  ·exact hr.wr.heap.gens b bx b' bx' h1 h2 hg
 ·rcases m3 g _ h1 with ⟨_,e1⟩ | ⟨_,e1⟩<;>rcases m3 g' _ h2 with ⟨_,e2⟩ | ⟨_,e2⟩
  ·exact hw.heap.inj _ _ _ e1 e2
  ·have:=(hMk g k e1).2;have:=(hr.wr.Mnew g' k e2).1;omega
  ·have:=(hMk g' k e2).2;have:=(hr.wr.Mnew g k e1).1;omega
  ·exact hr.wr.heap.inj _ _ _ e1 e2
 ·exact(hr.wr.ext.trans hx1).hS
 ·exact(hr.wr.ext.trans hx1).hcell
 ·omega
 ·rw[m2 g (by omega)]at hm;exact(hr.wr.ext.trans hx1).hM g m hg hm
 ·rw[m2 g (by omega)]at hm;exact(hr.wr.ext.trans hx1).hblk g k arr e hg hm hb
 ·have f1:=hr.wr.fr;have f2:=hw.fr;exact⟨f2.os.trans f1.os,f2.tape.trans f1.tape,f2.output.trans f1.output,Yd f1.size f2.size,fun k hk hn=>(hblk k (Ym hk f1.size)).trans (f1.block k hk hn)⟩
 ·rcases hw.Snew k o hs with h1 | h1 | h1
  ·exact hr.wr.Snew k o h1
  ·exact .inr (.inl (Yd hr.wr.fr.size h1))
  grind
 ·rcases m3 g _ hm with ⟨_,e1⟩ | ⟨_,e1⟩
  ·obtain⟨h1,h2⟩:=hMk g k e1;exact⟨h1,.inl (Yd hr.wr.fr.size h2)⟩
  ·obtain⟨h1,h2⟩:=hr.wr.Mnew g k e1
   grind
 ·exact hC.remap fun q hq=>by
   have h2:=hC.gn q hq
   grind
end
end
section
open Go.RowKit
section
variable{P:Program}{ops:Array Oper}{md:Region.Mode}{F:Nat->(Nat->AV)->AV->Prop}
theorem zeg(hL:Zel ops F){n g:Nat}{Lq:(Nat->AV)->Prop}(hs:Region.sinkB md ops n=true)(hc:Region.chainB md ops n=true)(hn:n<ops.size) :
  ∀(l:List Oper) (k:Nat) (listed:Array Bool) (ρ:Nat->AV),(∀j,j<l.length->l[j]? = ops[k+j]?)->k+l.length=n->HeadInv md ops n listed->(∀i,i<k->listed.getD i false=true) ->
  Region.lexHead md ops g l.length k listed=true->Zc3 ops F Lq l k ρ ->
  Zgy md ops F n (fun listed' ρ'=>Region.seqB md ops g n listed'=true/\(∀i,i<n->listed'.getD i false=true)/\Lq ρ') l.length listed ρ
 | [],k,listed,ρ,_,hk,_,hfull,hB,h=>by
  have:k=n:=by simpa using hk
  subst this;exact⟨by simpa[Region.lexHead]using hB,hfull,h⟩
 | o::l,k,listed,ρ,hl,hk,inv,hfull,hB,h=>by
  have h0:ops[k]? = some o:=by simpa using (hl 0 (by simp)).symm
  simp only[Yg,Region.lexHead,Yk]at hB;obtain⟨⟨hr,hf⟩,hB'⟩:=hB;have hkn:k<n:=by simp only[Yg]at hk;omega
  have hr':k∈Region.ready md ops listed:=by simpa using hr
  obtain⟨v,hy,hK⟩:=h;have hksz:k<listed.size:=by rw[inv.size];omega
  exact zgw hL h0 hs hc hn hkn (fun listed' a' hL=>seqB_ready hL.1) l.length listed ρ inv (Region.free_spec h0 hf) hr' hy
   (zeg hL hs hc hn l (k+1) _ _ (fun j hj=>by have:=hl (j+1) (by simp;omega);simpa[Yap,Ybj 1 j]using this) (by simp only[Yg]at hk;omega) (inv.set hr' hkn) (fun i hi=>by
    by_cases hik:k=i
    ·subst hik;simp[hksz]
    ·rw[getD_set_ne false hik];exact hfull i (by omega)) hB' hK)
theorem zb3{n g:Nat}{L:Array Bool->(Nat->AV)->Prop}{R:Array Bool->(Nat->AV)->Act->World->Prop}{Q':Exit->Act->World->Prop}
  (hs:∀i o listed,i<n->ops[i]? = some o->i∈Region.ready md ops listed->∀ρ x a w (K:Act->World->Prop),F i ρ x->R listed ρ a w->(∀a' w',R (listed.setIfInBounds i true) (upd ρ o.dst x) a' w'->K a' w')->wpOp P ops Q' i K a w)
  (hQ:∀listed ρ a w,L listed ρ->R listed ρ a w->wpAny P md ops Q' g listed a w):∀(f:Nat) (listed:Array Bool) (ρ:Nat->AV) (a:Act) (w:World),R listed ρ a w ->
  Zgy md ops F n L f listed ρ->wpAny P md ops Q' (f+g) listed a w
 | 0,_,_,_,_,hr,h=>by rw[Yar];exact hQ _ _ _ _ h hr
 | f+1,listed,ρ,a,w,hr,h=>by
  rw[show f+1+g=(f+g)+1 by omega];refine⟨fun h0=>absurd h0 h.1,fun i hi=>?_⟩;obtain⟨hin,h2⟩:=h.2 i hi;obtain⟨_,o,ho,_⟩:=mem_ready.1 hi;unfold fOp at h2;simp only[ho]at h2;obtain⟨x,hx,hK⟩:=h2;exact hs i o listed hin ho hi ρ x a w _ hx hr fun a' w' hr'=>zb3 hs hQ f _ _ a' w' hr' hK
end
section
variable{P:Program}{ops:Array Oper}{cx:Cx}{w:World}{a:Act}
def Gok(c0:Nat)(MK:List Mk)(listed:Array Bool)(g:Nat):Prop:=g<c0\/∃m∈MK,listed.getD m.i false=true/\m.has g
def RM(cx:Cx)(X:Heap)(c0:Nat)(MK:List Mk)(listed:Array Bool)(ρ:Nat->AV)(a:Act)(w:World):Prop:=
 ∃h',Zb1 cx (c0+mkN MK) h' ρ a w/\(∀id bx,X.lookup id=some bx->(∀m∈MK,listed.getD m.i false=true->∀y,(id,y)∉m.bs)->h'.lookup id=some bx)/\(∀m∈MK,listed.getD m.i false=true->∀p∈m.bs,h'.lookup p.1=some p.2) /\
  (∀id bx,h'.lookup id=some bx->X.lookup id=some bx\/∃m∈MK,listed.getD m.i false=true/\(id,bx)∈m.bs) /\
  (∀t,∀g∈gnA (ρ t),Gok c0 MK listed g)/\(∀id bx,h'.lookup id=some bx->Gok c0 MK listed bx.gen/\∀g,Zdu bx g->Gok c0 MK listed g)
def Gok.mono{c0:Nat}{MK:List Mk}{listed:Array Bool}{i g:Nat}(h:Gok c0 MK listed g):Gok c0 MK (listed.setIfInBounds i true) g:=by
 rcases h with h | ⟨m,hm,hl,hg⟩
 ·exact .inl h
 ·refine .inr ⟨m,hm,?_,hg⟩;by_cases hi:i=m.i
  ·have:m.i<listed.size:=by
    grind
   simp_all
  simp_all
def zo0{nt n c0:Nat}{aos:List AO}{h0:Heap}{MK:List Mk}(hget':∀(i:Nat) (o:Oper),ops[i]? = some o->∃ao,aos[i]? = some ao/\Za6 P nt ops o=some ao):Zel ops (FM P aos n h0 c0 MK):=by
 intro i o ho ρ ρ' hρ x ⟨hin,ao,hao,hq⟩;obtain⟨ao',h1,h2⟩:=hget' i o ho;rw[hao]at h1;cases h1;refine⟨hin,ao,hao,?_⟩;obtain⟨op,g,hop,hg,rfl,_⟩:=zag h2;have hops:∀t,Operand.tmp t∈o.op.operands.toList->ρ t=ρ' t:=fun t ht=>hρ t (by
  grind[Oper.looksAt])
 have hct:∀q,Zfi c0 op ρ q->Zfi c0 op ρ' q:=by
  intro q hq;rcases hq with hq | ⟨t,ht,hq⟩
  ·exact .inl hq
  ·exact .inr ⟨t,ht,by rw[<-hops t (zqo hop t ht)];omega⟩
 rcases hq with ⟨e1,m,e2,e3,e4,e5,hkk⟩ | ⟨hmk,e1,e2,e3⟩
 ·grind[zbv,zco,zcy,Op.operands,Call.operands]
 ·grind[QF,zbq,Zaz,map_some,Oper.looksAt]
theorem zg2(b:BId):∀(h:Heap) (id:BId),(h.filter fun p=>!(p.1 == b)).lookup id=if id=b then none else h.lookup id
 | [],id=>by grind
 | (c,x)::h,id=>by
  have ih:=zg2 b h id
  grind
def ztc{nt n c0:Nat}{aos:List AO}{h0 X:Heap}(hX0:Zcq h0 X){MK:List Mk}{Q:Exit->Act->World->Prop}(hnt:nt=cx.nt)(hget':∀(i:Nat) (o:Oper),ops[i]? = some o->∃ao,aos[i]? = some ao/\Za6 P nt ops o=some ao)(hc0:cx.clk0<=c0)
  (p1:(∀m∈MK,0<=m.i/\m.i<n/\c0<=m.g0/\m.g0+m.n<=c0+mkN MK/\(∀p∈m.bs,X.lookup p.1=m.ob/\X.lookup p.1=m.ob/\h0.lookup p.1=none)/\(m.bs.map (·.1)).Nodup)) (p2:(∀m∈MK,∀m'∈MK,(m.i=m'.i\/(∃b x y,(b,x)∈m.bs/\(b,y)∈m'.bs)\/(∃g,m.has g/\m'.has g))->m=m'))
  {i:Nat} {o:Oper} {listed:Array Bool} (ho:ops[i]? = some o) (hrd:i∈Region.ready .any ops listed) {ρ:Nat->AV} {x:AV} {a:Act} {w:World} {K':Act->World->Prop}
  (hF:FM P aos n h0 c0 MK i ρ x) (hr:RM cx X c0 MK listed ρ a w) (hK':∀a' w',RM cx X c0 MK (listed.setIfInBounds i true) (upd ρ o.dst x) a' w'->K' a' w'):wpOp P ops Q i K' a w:=by
 have fresh:∀(listed:Array Bool) (m:Mk),m∈MK->listed.getD m.i false=false->∀g,Gok c0 MK listed g->¬ m.has g/\g<c0+mkN MK:=by
  intro listed m hmM hun g hg;obtain⟨_,_,q3,q4,_,_⟩:=p1 m hmM;rcases hg with hg | ⟨m',hm',hl,hh⟩
  ·exact⟨fun h=>by have:=h.1;omega,by omega⟩
  ·obtain⟨_,_,_,r4,_,_⟩:=p1 m' hm';refine⟨fun he=>?_,by have:=hh.2;omega⟩
   grind
 obtain⟨_,ao,hao,hq⟩:=hF;obtain⟨ao',h1,h2⟩:=hget' i o ho;rw[hao]at h1;cases h1;have hun:=(mem_ready.1 hrd).1;have hisz:i<listed.size:=by
  grind
 obtain⟨h',hrel,r1,r2,r3,r4,r5⟩:=hr;have hset:∀k,k≠i->(listed.setIfInBounds i true).getD k false=listed.getD k false:=fun k hk=>getD_set_ne false (Ne.symm hk);have hseti:(listed.setIfInBounds i true).getD i false=true:=by simp[hisz]
 obtain⟨op,g,hop,hg,hao',hd⟩:=zag h2;have hcok:∀q,Zfi c0 ao.op ρ q->Gok c0 MK listed q:=by
  intro q hq;rcases hq with hq | ⟨t,_,hq⟩
  ·exact .inl hq
  grind
 rcases hq with ⟨hgn,m,hmM,hmi,hdst,hmx,hkind⟩ | ⟨hmk,hnm,hqf,hcont⟩
 rotate_left
 ·have hsub:Zcq h0 h':=fun id bx hb=>r1 id bx (hX0 _ _ hb) fun m hm' _ y hy=>by
   grind
  refine za1 ho hnt h2 (zy1 hsub hqf) hrel fun a' w' hr'=>hK' a' w' ⟨h',hr',fun id bx hb hno=>r1 id bx hb fun m hm' hl=>hno m hm' (by grind),fun m hm' hl p hp=>r2 m hm' ?_ p hp,fun id bx hb=>?_,fun t q hq'=>?_,fun id bx hb=>⟨(r5 id bx hb).1.mono,fun q hq'=>((r5 id bx hb).2 q hq').mono⟩⟩
  ·grind
  ·grind
  ·cases hdd:o.dst with
   | none=>rw[hdd]at hq';exact(r4 t q hq').mono
   | some d=>
    rw[hdd]at hq';simp only[upd]at hq';split at hq'
    ·exact(hcok q (hcont q hq')).mono
    ·exact(r4 t q hq').mono
 subst hmi;have hunf:listed.getD m.i false=false:=getD_both hun;obtain⟨q1,q2,q3,q4,q5,q6⟩:=p1 m hmM;have hfr:=fresh listed m hmM hunf;have huse:∀id y,(id,y)∈m.bs->∀m'∈MK,listed.getD m'.i false=true->∀z,(id,z)∉m'.bs:=by
  grind
 have hmono:∀m'∈MK,listed.getD m'.i false=true->(listed.setIfInBounds m.i true).getD m'.i false=true:=by
  grind
 have hodst:o.dst=some m.d:=by grind
 have hfin:∀a' w',Zb1 cx (c0+mkN MK) (m.bs++h') (upd ρ o.dst x) a' w'->(∀q∈gnA x,Gok c0 MK (listed.setIfInBounds m.i true) q) ->
   (∀p∈m.bs,m.has p.2.gen/\∀q,Zdu p.2 q->Gok c0 MK (listed.setIfInBounds m.i true) q)->K' a' w':=by
  intro a' w' hre hgx hgb;have hlk:∀id,m.bs.lookup id=none->(m.bs++h').lookup id=h'.lookup id:=by
   grind
  have hlm:∀p∈m.bs,(m.bs++h').lookup p.1=some p.2:=by
   intro p hp;rw[zck,zef m.bs (id:=p.1) (x:=p.2) hp fun y hy=>zg0 _ q6 hy hp]
   rfl
  have hcas:∀id bx,(m.bs++h').lookup id=some bx->(id,bx)∈m.bs\/h'.lookup id=some bx:=by
   grind
  refine hK' _ _ ⟨m.bs++h',hre,fun id bx hb hno=>?_,fun m' hm' hl p hp=>?_,fun id bx hb=>?_,fun t q hq=>?_,fun id bx hb=>?_⟩
  ·rw[hlk id (zi1 _ fun y hy=>hno m hmM hseti y hy)];exact r1 id bx hb fun m' hm' hl=>hno m' hm' (hmono m' hm' hl)
  ·by_cases hmm:m'=m
   ·grind
   grind
  ·rcases hcas id bx hb with hb | hb
   ·grind
   ·rcases r3 id bx hb with h6 | ⟨m',hm',h7,h8⟩
    ·grind
    grind
  ·rw[hodst]at hq;simp only[upd]at hq;split at hq
   ·grind
   ·exact(r4 t q hq).mono
  ·rcases hcas id bx hb with hb | hb
   ·obtain⟨h3,h4⟩:=hgb _ hb;exact⟨.inr ⟨m,hmM,hseti,h3⟩,h4⟩
   ·exact⟨(r5 id bx hb).1.mono,fun q hq=>((r5 id bx hb).2 q hq).mono⟩
 rcases hkind with ⟨hmk,b0,bx,hbs,hg0,hn1,hst,hbc⟩ | ⟨hmk,hob,f,args,hopc,hnr,hac,hnd,hgx,hgb⟩
 ·obtain⟨f,z,kd,els,hf,hbx,hx,hall⟩:=zi0 hmk hst;have hhas:∀q,q=bx.gen->m.has q:=by
   intro q hq;subst hq;refine⟨by omega,by omega⟩
  obtain⟨S,M,hrf⟩:=hrel;subst hnt;have hmem:(b0,bx)∈m.bs:=by grind
  have hsubO:Zcq (obH b0 m.ob) h':=by
   intro id y hy;cases hob:m.ob with
   | none=>rw[hob]at hy;cases hy
   | some ob=>
    rw[hob]at hy;simp only[obH,Yas]at hy
    grind
  have hst2:=hall h' (c0+mkN MK) hsubO;subst hao';simp only at hst2 hgn hdst hmk hbc;subst hgn;rw[<-hdst]at hst2;obtain⟨v,w',S',M',h3,h4,h5⟩:=zb6 hop hrf hst2;have hput0:=h4.put hd h5;rw[hdst]at hput0;have hcg:∀(y:Box) (id:BId),((b0,y)::h'.filter fun p=>!(p.1 == b0)).lookup id=((b0,y)::h').lookup id:=by
   intro y id;rw[Yas,Yas,zg2]
   grind
  have hput:=hput0.heap_congr (hcg _);have hnone':(h'.filter fun p=>!(p.1 == b0)).lookup b0=none:=by grind
  have hdr:∀id y,(h'.filter fun p=>!(p.1 == b0)).lookup id=some y->h'.lookup id=some y:=by
   intro id y hy;rw[zg2]at hy
   grind
  have hgen:bx.gen<c0+mkN MK:=by omega
  have hfr':∀q,Gok c0 MK listed q->q≠bx.gen/\q<c0+mkN MK:=fun q hq=>⟨fun e=>(hfr q hq).1 (hhas q e),(hfr q hq).2⟩;have hbx':∀q,Zdu ⟨c0+mkN MK,kd,z,els⟩ q->Zdu bx q:=by
   intro q hq;rw[hbx];exact hq
  have hre:=RelF.regen (g:=bx.gen) hf hput hgen (by omega) hnone' (fun t q hq=>hfr' q (r4 t q hq)) (fun id bx hb=>⟨(hfr' _ (r5 id bx (hdr id bx hb)).1).1,(hfr' _ (r5 id bx (hdr id bx hb)).1).2,fun q hq=>hfr' q ((r5 id bx (hdr id bx hb)).2 q hq)⟩) (fun q hq=>hfr' q (hcok q (hbc q (hbx' q hq))));have e1:(⟨bx.gen,kd,z,els⟩:Box)=bx:=by grind
  rw[e1,<-hx]at hre;have hfin2:K' (a.put o.dst v) w':=by
   refine hfin _ _ ?_ (fun q hq=>?_) fun p hp=>?_
   ·rw[hdst,hbs];exact⟨_,_,hre.heap_congr fun id=>(hcg bx id).symm⟩
   ·have:q=bx.gen:=by
     rw[hx]at hq;cases hf with
     | ptr=>simpa[gnA]using hq
     | bs=>simpa[gnA]using hq
    exact .inr ⟨m,hmM,hseti,hhas q this⟩
   ·rw[hbs]at hp;have:p=(b0,bx):=by grind
    subst this;exact⟨hhas _ rfl,fun q hq=>(hcok q (hbc q hq)).mono⟩
  grind[wpOp,zbj,zcw,Oper.wp,Oper.upon_skip]
 ·have hnone:∀p∈m.bs,h'.lookup p.1=none:=by
   intro p hp;cases hl:h'.lookup p.1 with
   | none=>rfl
   | some bx=>
    grind
  obtain⟨S,M,hrf⟩:=hrel;subst hnt;subst hao';simp only at hgn hopc hdst;subst hgn hopc;have hwant:=zbj hg a;obtain⟨dst,oop,type,pos,after,guard⟩:=o;simp only at hop hd hodst hfin;obtain⟨cargs,ats,hcall,hl⟩:=zco hop;subst hcall;obtain⟨h1,h2⟩:=zzu hrf.env hl hnr;have hc:=hac.2 w S (fun _=>none) (cargs.map a.eval) (by grind) (fun j v c hv hc=>.p (h2 j v c (by grind) hc)) ⟨fun b bx h=>(by grind),fun g m h=>(by cases h),fun b bx b' bx' h=>(by grind),fun g g' k h=>(by cases h)⟩ hrf.wr.Slt (fun _ _ h=>by cases h);unfold wpOp;simp only[ho,hwant,if_true];refine .inl ?_;unfold Oper.wp;have hrun:(execOp a.eval { dst:=dst,op:=.call { callee:=.value (.func f),args:=cargs,argTypes:=ats },type:=type,pos:=pos,after:=after,guard:=guard }).run P w=.ok (.enter f (cargs.map a.eval)) w:=by
   simp only[execOp,resolve,Act.eval,Deferred.ofValue,Sem.run_bind,Sem.run_pure,Result.andThen_ok,invoke];have:=hac.1 (cargs.map a.eval) w
   grind
  rw[hrun,Oper.upon_enter];refine hc.mono fun e w' ⟨v,r,hB,S',M',clk',he,⟨hr1,hr2,hr3⟩,hC,hw⟩=>?_;subst he hr1 hr2 hr3;obtain⟨M2,hre,hCx⟩:=hrf.mk2 (hw 0) hC (by omega) (by omega) hnone (fun t q hq=>(hfr q (r4 t q hq)).1) (fun id bx hb=>⟨(hfr _ (r5 id bx hb).1).1,fun q hq=>(hfr q ((r5 id bx hb).2 q hq)).1⟩) hgx hgb;have hin:∀q,q∈gnA r->m.has q:=fun q hq=>⟨hgx q hq,hC.gn q hq⟩;refine hfin _ _ ⟨_,M2,hre.put hd hCx⟩ (fun q hq=>.inr ⟨m,hmM,hseti,hin q hq⟩) fun p hp=>?_;have hlp:m.bs.lookup p.1=some p.2:=zef m.bs (id:=p.1) (x:=p.2) hp fun y hy=>zg0 _ q6 hy hp;have hbk:=(hw 0).heap.box _ _ hlp;obtain⟨b1,_,mm,hmm,_⟩:=hbk;refine⟨⟨?_,b1⟩,fun q hq=>.inr ⟨m,hmM,hseti,hgb p hp q hq,((hw 0).heap.box _ _ hlp).gn.2 q hq⟩⟩;rcases Yv p.2.gen m.g0 with hlt | hge
  ·have:=(hw 0).ext.hM _ _ hlt hmm
   grind
  omega
def ztd{n c0:Nat}{h0 X:Heap}{MK:List Mk}(p1:(∀m∈MK,0<=m.i/\m.i<n/\c0<=m.g0/\m.g0+m.n<=c0+mkN MK/\(∀p∈m.bs,X.lookup p.1=m.ob/\X.lookup p.1=m.ob/\h0.lookup p.1=none)/\(m.bs.map (·.1)).Nodup))(p2:(∀m∈MK,∀m'∈MK,(m.i=m'.i\/(∃b x y,(b,x)∈m.bs/\(b,y)∈m'.bs)\/(∃g,m.has g/\m'.has g))->m=m'))
  {listed:Array Bool} {ρ:Nat->AV} {a:Act} {w:World} (hfull:∀m∈MK,listed.getD m.i false=true) (hr:RM cx X c0 MK listed ρ a w):Zb1 cx (c0+mkN MK) (mkH MK++X) ρ a w:=by
 obtain⟨h',⟨S,M,hrf⟩,r1,r2,r3,r4,r5⟩:=hr;have hheap:∀id,(mkH MK++X).lookup id=h'.lookup id:=by
  intro id;rw[zck];by_cases hex:∃m∈MK,∃x,(id,x)∈m.bs
  ·obtain⟨m,hmM,x,hx⟩:=hex;rw[r2 m hmM (hfull m hmM) (id,x) hx,zef (mkH MK) (x:=x) (znn.2 ⟨m,hmM,hx⟩) fun y hy=>?_]
   ·rfl
   grind[znn]
  ·rw[zi1 (mkH MK) fun y hy=>hex (by
    grind[znn]),Option.none_or]
   cases hl:h'.lookup id with
   | none=>
    cases hl2:X.lookup id with
    | none=>rfl
    | some bx=>grind
   | some bx=>
    grind
 exact⟨S,M,hrf.heap_congr hheap⟩
def zo1{st:St}{MK:List Mk}{sz:Nat}(hr:Rel cx st a w):RM cx st.heap st.clk MK (Array.replicate sz false) st.env.get a { w with drawn:=w.drawn+1 }:=by
 obtain⟨S,M,hrf⟩:=hr;refine⟨st.heap,Zb1.drawn ⟨S,M,hrf.more (Nat.le_add_right _ _)⟩,fun _ _ h _=>h,fun m _ hl=>?_,fun id bx hb=>.inl hb,fun t g hg=>.inl ((hrf.env t).gn g hg),fun id bx hb=>?_⟩
 ·rw[getD_replicate_false]at hl;grind
 ·obtain⟨h1,h2⟩:=(hrf.wr.heap.box id bx hb).gn;exact⟨.inl h1,fun g hg=>.inl (h2 g hg)⟩
theorem zla{nt id n:Nat}{aos:List AO}{h0:Heap}{st:St}(hX0:Zcq h0 st.heap){K:St->Prop}{Q:Exit->Act->World->Prop}(hnt:nt=cx.nt)(hm:P.follows .mixedOrders=true)
  (hw:∀ao∈aos.take n,ao.op.writes=true->ao.op.maker=true) (hT:Region.lexTailB .any ops n=true)
  (hres:Z8 P nt ops ops.toList=some aos) (hk:Zgz P (aos.drop n) h0 st.clk st.heap (aos.take n) st.env st.heap st.clk K) (hr:Rel cx st a w) (hQ:∀st' a' w',K st'->Rel cx st' a' w'->Q .normal a' w'):(Code.region id ops true).wp P Q a w:=by
 simp only[Region.lexTailB,Yk,decide_eq_true_eq]at hT;obtain⟨⟨⟨⟨_,hn⟩,hs⟩,hc⟩,hlex⟩:=hT;have hget':∀i o,ops[i]? = some o->∃ao,aos[i]? = some ao/\Za6 P nt ops o=some ao:=fun i o ho=>zau ops.toList aos hres i o (by grind);have hlen:=zav ops.toList aos hres;have htl:(ops.toList.take n).length=n:=by grind
 have hdl:(ops.toList.drop n).length=ops.size-n:=by simp
 have inv0:HeadInv .any ops n (Array.replicate ops.size false):=
  ⟨by simp,fun j oj _ hl=>(by rw[getD_replicate_false]at hl;grind),fun t _ ht=>getD_in (by grind) (getD_replicate_false _ _)⟩
 obtain⟨MK,p1,p2,_,p3⟩:=zoz (P:=P) (ops:=ops) (aos:=aos) (n:=n) (h0:=h0) (X:=st.heap) (c0:=st.clk) hX0 (Fin:=fun e h clk=>Zdd P (aos.drop n) ⟨e,h,clk⟩ K) hw (fun i o ho=>by
  grind[zag]) (ops.toList.take n) 0 (aos.take n) st.env st.heap st.clk (fun j hj=>by
   grind) (fun j hj=>by
   grind) (by grind) (by omega) (fun _ h=>h) hk
 have hlx:=p3 MK (fun m hm=>hm) fun m hm _=>hm;have hc0:cx.clk0<=st.clk:=by
  obtain⟨S,M,hrf⟩:=hr;exact hrf.wr.ext.hclk
 have H:=zeg (md:=.any) (g:=ops.size-n) (zo0 hget') hs hc hn (ops.toList.take n) 0 _ st.env.get (fun j hj=>by
  grind) (by omega) inv0 (fun i hi=>by omega) (by grind) hlx
 refine wp_region_any hm ?_;have:=zb3 (P:=P) (md:=.any) (Q':=Q) (g:=ops.size-n) (F:=FM P aos n h0 st.clk MK) (R:=RM cx st.heap st.clk MK) (fun i o listed hin ho hrd ρ x a w K' hF hr hK'=>ztc hX0 hnt hget' hc0 p1 p2 ho hrd hF hr hK') (fun listed ρ a' w' hL hr'=>by
  obtain⟨hseq,hfull,e,rfl,hrun⟩:=hL;have hrf:=ztd p1 p2 (fun m hm=>hfull _ (p1 m hm).2.1) hr';have hwl:wpList P ops Q (ops.toList.drop n) a' w':=zcp hnt _ _ ⟨e,mkH MK++st.heap,st.clk+mkN MK⟩ K a' w' (zb2 n _ _ hres) hrun hrf hQ
  grind[wpAny_of_seq]) _ _ _ a { w with drawn:=w.drawn+1 } (zo1 hr) H
 grind
theorem zo2{F:Nat->(Nat->AV)->AV->Prop}{Q:(Nat->AV)->Prop}:∀(l:List Oper) (k:Nat) (ρ:Nat->AV),Zc3 ops F Q l k ρ->∃ρ',Q ρ'/\Zc3 ops F (fun r=>r=ρ') l k ρ
 | [],_,ρ,h=>⟨ρ,h,rfl⟩
 | o::l,k,ρ,⟨x,hx,h⟩=>by
  obtain⟨ρ',h1,h2⟩:=zo2 l (k+1) _ h;exact⟨ρ',h1,x,hx,h2⟩
theorem zlb{F F':Nat->(Nat->AV)->AV->Prop}{Q Q':(Nat->AV)->Prop}{o:Oper}(hF:∀i ρ x,F i ρ x->F' i ρ x):∀(l:List Oper) (k:Nat) (ρ:Nat->AV),(∀ρ,Q ρ->∃x,F' (k+l.length) ρ x/\Q' (upd ρ o.dst x))->Zc3 ops F Q l k ρ->Zc3 ops F' Q' (l++[o]) k ρ
 | [],k,ρ,hQ,h=>hQ ρ h
 | y::l,k,ρ,hQ,⟨x,hx,h⟩=>⟨x,hF _ _ _ hx,zlb hF l (k+1) _ (fun ρ hq=>by grind) h⟩
def FL(P:Program)(aos:List AO)(n:Nat)(h0 X:Heap)(c0:Nat)(MK:List Mk)(ao:AO)(H2:Heap)(i:Nat)(ρ:Nat->AV)(x:AV):Prop:=
 (i≠n/\FM P aos n h0 c0 MK i ρ x)\/(i=n/\x=.tup []/\stepW ao.op none ρ (mkH MK++X) (c0+mkN MK)=some (.tup [],H2,c0+mkN MK))
def RL(cx:Cx)(ops:Array Oper)(n:Nat)(X:Heap)(c0:Nat)(MK:List Mk)(H2:Heap)(listed:Array Bool)(ρ:Nat->AV)(a:Act)(w:World):Prop:=
 (listed.getD n false=false/\RM cx X c0 MK listed ρ a w) \/
 (listed.getD n false=true/\(∀i,Region.waitsFor .any ops n i=true->listed.getD i false=true)/\Zb1 cx (c0+mkN MK) H2 ρ a w)
theorem zlc{nt id n:Nat}{aos:List AO}{h0:Heap}{st:St}(hX0:Zcq h0 st.heap){K:St->Prop}{Q:Exit->Act->World->Prop}(hnt:nt=cx.nt)(hm:P.follows .mixedOrders=true)
  (hw:∀ao∈aos.take n,ao.op.writes=true->ao.op.maker=true) (hB:Zjs ops aos n=true)
  (hres:Z8 P nt ops ops.toList=some aos) (hk:Zgz P (aos.drop (n+1)) h0 st.clk st.heap (aos.take (n+1)) st.env st.heap st.clk K) (hr:Rel cx st a w) (hQ:∀st' a' w',K st'->Rel cx st' a' w'->Q .normal a' w'):(Code.region id ops true).wp P Q a w:=by
 simp only[Zjs,Yk]at hB;obtain⟨⟨hT,hS⟩,hlate⟩:=hB;simp only[Region.lexTailB,Yk,decide_eq_true_eq]at hT;obtain⟨⟨⟨⟨_,hn⟩,hs⟩,hc⟩,hlex⟩:=hT;have hget':∀(i:Nat) (o:Oper),ops[i]? = some o->∃ao,aos[i]? = some ao/\Za6 P nt ops o=some ao:=fun i o ho=>zau ops.toList aos hres i o (by grind);have hlen:=zav ops.toList aos hres;have htl:(ops.toList.take n).length=n:=by grind
 have htl1:(ops.toList.take (n+1)).length=n+1:=by grind
 have hdl:(ops.toList.drop (n+1)).length=ops.size-(n+1):=by simp
 split at hS
 rotate_left
 ·grind
 rename_i ao hao;simp only[Yk,Ycu]at hS;obtain⟨⟨hg,hd⟩,hst⟩:=hS;have inv0:HeadInv .any ops (n+1) (Array.replicate ops.size false):=
  ⟨by simp,fun j oj _ hl=>(by rw[getD_replicate_false]at hl;grind),fun t _ ht=>getD_in (by grind) (getD_replicate_false _ _)⟩
 have htka:aos.take (n+1)=aos.take n++[ao]:=by
  rw[Yco,hao]
  rfl
 unfold Zgz at hk;rw[htka,ze8]at hk;obtain⟨MK,p1,p2,p4,p3⟩:=zoz (P:=P) (ops:=ops) (aos:=aos) (n:=n) (h0:=h0) (X:=st.heap) (c0:=st.clk) hX0 (Fin:=fun e h clk=>Zbn P h0 st.clk st.heap (fun e h clk=>Zdd P (aos.drop (n+1)) ⟨e,h,clk⟩ K) [ao] e h clk) hw (fun i o ho=>by
  grind[zag]) (ops.toList.take n) 0 (aos.take n) st.env st.heap st.clk (fun j hj=>by
   grind) (fun j hj=>by
   grind) (by grind) (by omega) (fun _ h=>h) hk
 have hlx:=p3 MK (fun m hm=>hm) fun m hm _=>hm;have hc0:cx.clk0<=st.clk:=by
  obtain⟨S,M,hrf⟩:=hr;exact hrf.wr.ext.hclk
 obtain⟨ρe,⟨e,rfl,hrun⟩,hlx1⟩:=zo2 _ _ _ hlx;have hn':n<ops.size:=by omega
 have hos:ops[n]? = some (ops[n]'hn'):=Yz hn';generalize ops[n]'hn'=os at hos;obtain⟨ao',f1,f2⟩:=hget' n os hos;rw[hao]at f1;cases f1;obtain⟨op,g,hop,hgs,hao',hdst⟩:=zag f2;subst hao';simp only at hg hd hst;have hnm:op.maker=false:=by
  cases op<;>first | rfl | cases hst
 simp only[Zbn,hnm,hst]at hrun;obtain⟨_,_,H2,hst2,hsub,hrun2⟩:=hrun;have htk:ops.toList.take (n+1)=ops.toList.take n++[os]:=by
  grind[List.take_add_one]
 have hlx2:Zc3 ops (FL P aos n h0 st.heap st.clk MK ⟨os.dst,none,op⟩ H2) (fun ρ=>∃e,ρ=Env.get e/\Zdd P (aos.drop (n+1)) ⟨e,H2,st.clk+mkN MK⟩ K) (ops.toList.take (n+1)) 0 st.env.get:=by
  rw[htk];refine zlb (fun i ρ x h=>.inl ⟨by have:=h.1;omega,h⟩) _ _ _ (fun ρ hρ=>?_) hlx1;subst hρ;refine⟨.tup [],.inr ⟨by omega,rfl,hst2⟩,?_⟩;rw[hd];exact⟨e,rfl,hrun2⟩
 have hloc:Zel ops (FL P aos n h0 st.heap st.clk MK ⟨os.dst,none,op⟩ H2):=by
  intro i o ho ρ ρ' hρ x hx;rcases hx with ⟨h1,h2⟩ | ⟨rfl,h2,h3⟩
  ·exact .inl ⟨h1,zo0 hget' i o ho ρ ρ' hρ x h2⟩
  ·refine .inr ⟨rfl,h2,?_⟩
   grind[zbv,Oper.looksAt]
 have H:=zeg (md:=.any) (g:=ops.size-(n+1)) hloc hs hc hn (ops.toList.take (n+1)) 0 _ st.env.get (fun j hj=>by
  grind) (by omega) inv0 (fun i hi=>by omega) (by grind) hlx2
 refine wp_region_any hm ?_;have hwait:∀listed:Array Bool,n∈Region.ready .any ops listed->∀i,Region.waitsFor .any ops n i=true->listed.getD i false=true:=by
  intro listed hrd i hi;obtain⟨_,o,ho,hall⟩:=mem_ready.1 hrd;obtain⟨oj,hj,ed,hed,hb,he⟩:=Region.waitsFor_spec hi
  grind
 have hnoisy:∀m∈MK,Region.waitsFor .any ops n m.i=true:=by
  grind
 have setne:∀(listed:Array Bool) (i j:Nat),j≠i->(listed.setIfInBounds i true).getD j false=listed.getD j false:=fun listed i j hj=>getD_set_ne false (Ne.symm hj);have setmono:∀(listed:Array Bool) (i j:Nat),listed.getD j false=true->(listed.setIfInBounds i true).getD j false=true:=by
  intro listed i j hj;by_cases he:j=i
  ·have:j<listed.size:=by
    grind
   simp_all
  grind
 have:=zb3 (P:=P) (md:=.any) (Q':=Q) (g:=ops.size-(n+1)) (F:=FL P aos n h0 st.heap st.clk MK ⟨os.dst,none,op⟩ H2) (R:=RL cx ops n st.heap st.clk MK H2) (fun i o listed hin ho hrd ρ x a w K' hF hr hK'=>by
  have hun:=(mem_ready.1 hrd).1;rcases hF with ⟨hne,hF⟩ | ⟨rfl,rfl,h3⟩
  ·rcases hr with ⟨hl,hr⟩ | ⟨hl,hcl,hr⟩
   ·exact ztc hX0 hnt hget' hc0 p1 p2 ho hrd hF hr fun a' w' h=>hK' a' w' (.inl ⟨by grind,h⟩)
   ·obtain⟨hi,ao2,g1,g2⟩:=hF;rcases g2 with ⟨_,m,hmM,hmi,_⟩ | ⟨_,_,hqf,_⟩
    ·have:=hcl _ (hnoisy m hmM)
     grind
    ·obtain⟨ao3,k1,k2⟩:=hget' i o ho;rw[g1]at k1;cases k1;exact za1 ho hnt k2 (zy1 hsub hqf) hr fun a' w' hr'=>hK' a' w' (.inr ⟨by grind,fun j hj=>setmono _ _ _ (hcl j hj),hr'⟩)
  ·rw[hos]at ho;cases ho;rcases hr with ⟨hl,hr⟩ | ⟨hl,_⟩
   rotate_left
   ·grind
   have hwt:=hwait listed hrd;obtain⟨S,M,hrf⟩:=ztd p1 p2 (fun m hmM=>hwt _ (hnoisy m hmM)) hr;subst hnt;rw[<-hd]at h3;obtain⟨v,w',S',M',e3,e4,e5⟩:=zb6 hop hrf h3;have hput:=e4.put hdst e5;have hisz:i<listed.size:=by
    grind
   have hfin:K' (a.put os.dst v) w':=hK' _ _ (.inr ⟨by simp[hisz],fun j hj=>setmono _ _ _ (hwt j hj),_,_,hput⟩)
   grind[wpOp,zbj,zcw,Oper.wp,Oper.upon_skip]) (fun listed ρ a' w' hL hr'=>by
  obtain⟨hseq,hfull,e,rfl,hrun⟩:=hL;have hrf:Zb1 cx (st.clk+mkN MK) H2 e.get a' w':=by
   rcases hr' with ⟨hl,_⟩ | ⟨_,_,h⟩
   all_goals grind
  have hwl:wpList P ops Q (ops.toList.drop (n+1)) a' w':=zcp hnt _ _ ⟨e,H2,st.clk+mkN MK⟩ K a' w' (zb2 (n+1) _ _ hres) hrun hrf hQ
  grind[wpAny_of_seq]) _ _ _ a { w with drawn:=w.drawn+1 } (.inl ⟨getD_replicate_false _ _,zo1 hr⟩) H
 rw[htl1,show n+1+(ops.size-(n+1))=ops.size by omega]at this;omega
theorem zno{nt id n:Nat}{aos:List AO}{h0:Heap}{st:St}(hX0:Zcq h0 st.heap){K:St->Prop}{Q:Exit->Act->World->Prop}(hnt:nt=cx.nt)(hm:P.follows .mixedOrders=true)(hB:Zjt ops aos=some n\/∃k,Zju ops aos=some k/\n=k+1)
  (hres:Z8 P nt ops ops.toList=some aos) (hk:Zgz P (aos.drop n) h0 st.clk st.heap (aos.take n) st.env st.heap st.clk K) (hr:Rel cx st a w) (hQ:∀st' a' w',K st'->Rel cx st' a' w'->Q .normal a' w'):(Code.region id ops true).wp P Q a w:=by
 rcases hB with hB | ⟨k,hB,rfl⟩
 ·have:=Yd8 hB
  grind[zla]
 ·have:=Yd8 hB
  grind[zlc]
end
end
section
open Go.RowKit
def AWp(cx:Cx)(c:AC)(Q:Exit->St->Prop)(st:St):Prop:=
 ∀code,Zl cx.P cx.nt code=some c->cx.P.follows .mixedOrders=true->∀a w,Rel cx st a w->code.wp cx.P (fun ex a' w'=>∃st',Q ex st'/\Rel cx st' a' w') a w
section
variable{cx:Cx}{Q:Exit->St->Prop}{st:St}
def AWp.mono{c:AC}{Q':Exit->St->Prop}(h:AWp cx c Q st)(hq:∀ex st,Q ex st->Q' ex st):AWp cx c Q' st:=
 fun code hc hm a w hr=>wp_mono (h code hc hm a w hr) fun _ _ _ ⟨st',h1,h2⟩=>⟨st',hq _ _ h1,h2⟩
def zwz(h:Q .normal st):AWp cx .skip Q st:=by
 intro code hc hm a w hr;have hcode:=hc;cases code<;>simp only[Zl]at hc<;>try cases hc
 case skip=>exact wp_skip ⟨st,h,hr⟩
 case region id ops draw=>
  rcases zah hcode with ⟨_,l,_,h1⟩ | ⟨_,l,_,⟨n,_,h1⟩ | ⟨_,h1⟩ | ⟨n,_,h1⟩ | h1⟩<;>cases h1
 all_goals simp[Yf]at hc
def zzw{l:List AO}(h:Zdd cx.P l st (Q .normal)):AWp cx (.reg l) Q st:=by
 intro code hc hm a w hr;have hcode:=hc;cases code<;>simp only[Zl]at hc<;>try cases hc
 case region id ops draw=>
  grind[zah,wp_region_list,zcp]
 all_goals simp[Yf]at hc
def zw0{l:List DO}(h:Zli cx.P l st (Q .normal)):AWp cx (.draw l) Q st:=by
 intro code hc hm a w hr;have hcode:=hc;cases code<;>simp only[Zl]at hc<;>try cases hc
 case region id ops draw=>
  grind[zah,znk]
 all_goals simp[Yf]at hc
def zld{hd tl:List AO}(h:Zem cx.P tl hd st.env st.heap st.clk (Q .normal)):AWp cx (.drawT hd tl) Q st:=by
 intro code hc hm a w hr;have hcode:=hc;cases code<;>simp only[Zl]at hc<;>try cases hc
 case region id ops draw=>
  grind[zah,znl]
 all_goals simp[Yf]at hc
def zte{hd tl:List AO}{h0:Heap}(hX0:Zcq h0 st.heap)(h:Zgz cx.P tl h0 st.clk st.heap hd st.env st.heap st.clk (Q .normal)):AWp cx (.drawM hd tl) Q st:=by
 intro code hc hm a w hr;have hcode:=hc;cases code<;>simp only[Zl]at hc<;>try cases hc
 case region id ops draw=>
  grind[zah,zno]
 all_goals simp[Yf]at hc
def Zh4(N:St->Prop)(Q:Exit->St->Prop):Exit->St->Prop
 | .normal,st=>N st
 | ex,st=>Q ex st
def zzx{x y:AC}(h:AWp cx x (Zh4 (AWp cx y Q) Q) st):AWp cx (.seq x y) Q st:=by
 intro code hc hm a w hr;have hcode:=hc;cases code<;>simp only[Zl]at hc<;>try cases hc
 case seq c1 c2=>
  obtain⟨x',hx,hc1⟩:=bind_some hc;obtain⟨y',hy,he⟩:=map_some hc1;cases he;refine wp_seq (wp_mono (h c1 hx hm a w hr) fun ex a' w' ⟨st',h1,h2⟩=>?_);cases ex with
  | normal=>exact h1 c2 hy hm a' w' h2
  | _=>exact⟨st',h1,h2⟩
 case region id ops draw=>
  rcases zah hcode with ⟨_,l,_,h1⟩ | ⟨_,l,_,⟨n,_,h1⟩ | ⟨_,h1⟩ | ⟨n,_,h1⟩ | h1⟩<;>cases h1
 all_goals simp[Yf]at hc
def zw1{c:Opd}{x y:AC}{t:Bool}(hc0:ev st.env.get c=.b t)(ht:t=true->AWp cx x Q st)(hf:t=false->AWp cx y Q st):AWp cx (.cond c x y) Q st:=by
 intro code hc hm a w hr;have hcode:=hc;cases code<;>simp only[Zl]at hc<;>try cases hc
 case cond o c1 c2=>
  obtain⟨p,hp,hc1⟩:=bind_some hc;obtain⟨x',hx,hc2⟩:=bind_some hc1;obtain⟨y',hy,he⟩:=map_some hc2;cases he;obtain⟨S,M,hrf⟩:=hr;have hC:=ev_C hrf.env hp;rw[hc0]at hC;refine wp_cond_split hC.inv_b (fun h1=>ht h1 c1 hx hm a w ⟨S,M,hrf⟩) (fun h1=>hf h1 c2 hy hm a w ⟨S,M,hrf⟩)
 case region id ops draw=>
  rcases zah hcode with ⟨_,l,_,h1⟩ | ⟨_,l,_,⟨n,_,h1⟩ | ⟨_,h1⟩ | ⟨n,_,h1⟩ | h1⟩<;>cases h1
 all_goals simp[Yf]at hc
def Zd5(id:Nat)(Q:Exit->St->Prop):Exit->St->Prop
 | .exit id',st=>if id'=id then Q .normal st else Q (.exit id') st
 | ex,st=>Q ex st
def zle{id:Nat}{c:AC}(h:AWp cx c (Zd5 id Q) st):AWp cx (.block id c) Q st:=by
 intro code hc hm a w hr;have hcode:=hc;cases code<;>simp only[Zl]at hc<;>try cases hc
 case block id' c1=>
  obtain⟨x',hx,he⟩:=map_some hc;cases he;refine wp_block (wp_mono (h c1 hx hm a w hr) fun ex a' w' ⟨st',h1,h2⟩=>?_);cases ex with
  | exit j=>
   grind[Zd5,Exit.inBlock]
  | _=>exact⟨st',h1,h2⟩
 case region id ops draw=>
  rcases zah hcode with ⟨_,l,_,h1⟩ | ⟨_,l,_,⟨n,_,h1⟩ | ⟨_,h1⟩ | ⟨n,_,h1⟩ | h1⟩<;>cases h1
 all_goals simp[Yf]at hc
def zw2{id:Nat}(h:Q (.exit id) st):AWp cx (.exit id) Q st:=by
 intro code hc hm a w hr;have hcode:=hc;cases code<;>simp only[Zl]at hc<;>try cases hc
 case exit=>exact wp_exit ⟨st,h,hr⟩
 case region id ops draw=>
  rcases zah hcode with ⟨_,l,_,h1⟩ | ⟨_,l,_,⟨n,_,h1⟩ | ⟨_,h1⟩ | ⟨n,_,h1⟩ | h1⟩<;>cases h1
 all_goals simp[Yf]at hc
def zzy(h:Q .ret st):AWp cx .ret Q st:=by
 intro code hc hm a w hr;have hcode:=hc;cases code<;>simp only[Zl]at hc<;>try cases hc
 case ret=>exact wp_ret ⟨st,h,hr⟩
 case region id ops draw=>
  rcases zah hcode with ⟨_,l,_,h1⟩ | ⟨_,l,_,⟨n,_,h1⟩ | ⟨_,h1⟩ | ⟨n,_,h1⟩ | h1⟩<;>cases h1
 all_goals simp[Yf]at hc
def ztf{c:AC}(h:AWp cx c (fun ex s=>(∀l,ex≠.goto l)/\Q ex s) st):AWp cx (.scope c) Q st:=by
 intro code hc hm a w hr;have hcode:=hc;cases code<;>simp only[Zl]at hc<;>try cases hc
 case scope c1=>
  obtain⟨x',hx,he⟩:=Yf.1 hc;rw[zgr]at he;obtain⟨rfl,_⟩:=he;refine wp_scope_straight (wp_mono (h c1 hx hm a w hr) fun ex a' w' ⟨st',⟨h0,h1⟩,h2⟩=>?_);cases ex with
  | goto l=>grind
  | _=>exact⟨st',h1,h2⟩
 case region id ops draw=>
  rcases zah hcode with ⟨_,l,_,h1⟩ | ⟨_,l,_,⟨n,_,h1⟩ | ⟨_,h1⟩ | ⟨n,_,h1⟩ | h1⟩<;>cases h1
 all_goals simp[Yf]at hc
def ztg{l:Nat}(h:Q .normal st):AWp cx (.label l) Q st:=by
 intro code hc hm a w hr;have hcode:=hc;cases code<;>simp only[Zl]at hc<;>try cases hc
 case label=>exact wp_label ⟨st,h,hr⟩
 case region id ops draw=>
  rcases zah hcode with ⟨_,l,_,h1⟩ | ⟨_,l,_,⟨n,_,h1⟩ | ⟨_,h1⟩ | ⟨n,_,h1⟩ | h1⟩<;>cases h1
 all_goals simp[Yf]at hc
def zw3{l:Nat}(h:Q (.goto l) st):AWp cx (.goto l) Q st:=by
 intro code hc hm a w hr;have hcode:=hc;cases code<;>simp only[Zl]at hc<;>try cases hc
 case goto=>exact wp_goto ⟨st,h,hr⟩
 case region id ops draw=>
  rcases zah hcode with ⟨_,l,_,h1⟩ | ⟨_,l,_,⟨n,_,h1⟩ | ⟨_,h1⟩ | ⟨n,_,h1⟩ | h1⟩<;>cases h1
 all_goals simp[Yf]at hc
def GQ(cx:Cx)(l:Nat)(r:AC)(Q:Exit->St->Prop):Nat->Exit->St->Prop
 | 0,_,_=>False
 | n+1,.goto j,s=>j=l/\AWp cx r (GQ cx l r Q n) s
 | _+1,ex,s=>Q ex s
def zzz{l:Nat}{c r:AC}(n:Nat)(h:AWp cx c (GQ cx l r Q n) st):AWp cx (.gsc l c r) Q st:=by
 intro code hc hm a w hr;have hcode:=hc;cases code<;>simp only[Zl]at hc<;>try cases hc
 case scope c1=>
  obtain⟨x',hx,he⟩:=Yf.1 hc;rw[zgr]at he;obtain⟨rfl,_,hrest⟩:=he;have hl:=zfs c1 _ l hx;obtain⟨rest,hf,hres⟩:∃rest,findLabel c1 l=some rest/\Zl cx.P cx.nt rest=some r:=by
   grind
  intro b k cs;have key:∀n ex s a w,GQ cx l r Q n ex s->Rel cx s a w->∀m,Arrives cx.P m b (.inScope c1::k) cs ex a w ->
    ∃e a' w',(∃st',Q e st'/\Rel cx st' a' w')/\Arrives cx.P m b k cs e a' w':=by
   intro n
   induction n with
   | zero=>intro ex s a w hG;exact hG.elim
   | succ n ih=>
    intro ex s a w hG hR m harr;cases ex with
    | goto j=>
     obtain⟨rfl,hA⟩:=hG;obtain⟨e2,a2,w2,⟨s2,hG2,hR2⟩,harr2⟩:=hA rest hres hm a w hR b (.inScope c1::k) cs;exact ih e2 s2 a2 w2 hG2 hR2 m (.of_steps (harr _ (by simp[gotoIn,hf])) harr2)
    | normal=>exact⟨.normal,a,w,⟨s,hG,hR⟩,Steps.trans harr (.one step_inScope)⟩
    | exit id=>exact⟨.exit id,a,w,⟨s,hG,hR⟩,fun k' hk=>harr k' (by simp[exitTo,hk])⟩
    | ret=>exact⟨_,a,w,⟨s,hG,hR⟩,harr⟩
    | panic ch=>exact⟨_,a,w,⟨s,hG,hR⟩,harr⟩
    | outgrown=>exact⟨_,a,w,⟨s,hG,hR⟩,harr⟩
  obtain⟨ex,a1,w1,⟨s1,hG1,hR1⟩,harr1⟩:=h c1 hx hm a w hr b (.inScope c1::k) cs;obtain⟨e,a',w',hq,harr⟩:=key n ex s1 a1 w1 hG1 hR1 _ harr1;exact⟨e,a',w',hq,.of_steps (.one step_scope) harr⟩
 case region id ops draw=>
  rcases zah hcode with ⟨_,l,_,h1⟩ | ⟨_,l,_,⟨n,_,h1⟩ | ⟨_,h1⟩ | ⟨n,_,h1⟩ | h1⟩<;>cases h1
 all_goals simp[Yf]at hc
structure Sub (st st':St):Prop where
 env:∀t x,st'.env.lookup t=some x->st.env.get t=x
 heap:∀b bx,st'.heap.lookup b=some bx->∃bx0,st.heap.lookup b=some bx0/\(bx=bx0\/((bx0.kind≠.str/\bx0.kind≠.mp)/\bx={ bx0 with kind:=.sh }))
 clk:st.clk<=st'.clk
def Rel.sub{st':St}{a:Act}{w:World}(hs:Sub st st')(hr:Rel cx st a w):Rel cx st' a w:=by
 obtain⟨S,M,hr⟩:=hr
 classical
 generalize hMb:(fun g=>if Live st'.heap g then M g else none:Map)=Mb;have hMb1:∀g m,Mb g=some m->Live st'.heap g/\M g=some m:=by
  grind
 have hMb2:∀g,Live st'.heap g->Mb g=M g:=by grind
 have hx:Ext w S M st.clk w S Mb st'.clk:=⟨fun _ _ hs=>hs,fun _ _ _ _ hc=>hc,hs.clk,fun g m _ hm=>(hMb1 g m hm).2,fun _ _ arr _ _ _ hb=>⟨arr,hb,rfl⟩⟩;refine⟨S,Mb,hr.size,hr.defers,fun t=>?_,⟨fun b bx hb=>?_,fun g m hm=>(hMb1 g m hm).1,fun b bx b' bx' h1 h2 hg=>?_,fun g g' k h1 h2=>hr.wr.heap.inj _ _ _ (hMb1 _ _ h1).2 (hMb1 _ _ h2).2⟩,hr.wr.ext.trans hx,hr.wr.fr,hr.wr.Snew,hr.wr.Slt,fun g k hm=>hr.wr.Mnew g k (hMb1 _ _ hm).2⟩
 ·unfold Env.get;cases hl:st'.env.lookup t with
  | none=>exact .p (.dead _)
  | some x=>
   have:=hr.env t;rw[hs.env t x hl]at this;exact this.mono hx
 ·obtain⟨bx0,h0,h1⟩:=hs.heap b bx hb;have hl:Live st'.heap bx.gen:=⟨b,bx,hb,rfl⟩;have hbox:=hr.wr.heap.box b bx0 h0;rcases h1 with rfl | ⟨hk,rfl⟩
  ·exact hbox.mono hx (hMb2 _ hl) (fun _ _=>rfl) fun _ _ _ hs=>hs
  ·obtain⟨b1,b2,m,hm,b3⟩:=hbox.mono hx (hMb2 bx0.gen hl) (fun _ _=>rfl) fun _ _ _ hs=>hs;refine⟨b1,b2,m,hm,?_⟩;cases m with
   | none=>exact⟨b3.1,by simp,by simp⟩
   | some k=>
    obtain⟨arr,e,c1,c2,c3,c4,c5⟩:=ck' hk.2 b3;exact ck (by simp) ⟨arr,e,c1,c2,fun i r j c hi hj=>let ⟨u,d1,d2,d3,d4⟩:=c3 i r j c hi hj;⟨u,d1,d2,d3,fun _=>d4 hk.1⟩,fun hne=>absurd rfl hne,c5⟩
 ·obtain⟨bx0,h3,h4⟩:=hs.heap b bx h1;obtain⟨bx0',h5,h6⟩:=hs.heap b' bx' h2;have e1:bx.gen=bx0.gen:=by grind
  have e2:bx'.gen=bx0'.gen:=by grind
  exact hr.wr.heap.gens _ _ _ _ h3 h5 (by rw[<-e1,<-e2,hg])
def AWp.sub{c:AC}{st':St}(hs:Sub st st')(h:AWp cx c Q st'):AWp cx c Q st:=
 fun code hc hm a w hr=>h code hc hm a w (hr.sub hs)
end
end
section
open Go.RowKit
section
variable{cx:Cx}{Q:Exit->St->Prop}{st:St}{c:AC}
def AWp.freeze(t:Nat){y:AV}(hy:frz st.heap (st.env.get t)=some y)
  (h:AWp cx c Q ⟨(t,y)::st.env,Zx (refs (st.env.get t)) st.heap,st.clk⟩):AWp cx c Q st:=by
 intro code hc hm a w ⟨S,M,hr⟩;have hk:=zc6 hy;refine h code hc hm a w ⟨Zbm st.heap M (refs (st.env.get t)) S,M,?_⟩;have h1:=hr.share (refs (st.env.get t)) hk;refine⟨h1.size,h1.defers,fun t'=>?_,h1.wr⟩;have e1:Env.get ((t,y)::st.env)=upd st.env.get (some t) y:=zbt st.env (some t) _;rw[e1];simp only[upd];split
 ·rename_i ht;subst ht;exact .p (zsw hr.wr.heap (hr.env t') hy fun id hid=>hid)
 ·exact h1.env t'
end
def resV(st:St):RV->Option AV
 | .t n=>some (st.env.get n)
 | .cell n k=>Ze4 k st.heap (st.env.get n)
def Zfu(tmps:Array Value):ResultVar->Sem Value
 | .tmp t=>pure (tmps.getD t undef)
 | .cell q t=>do loadVar t (<-asAddr (tmps.getD q undef))
theorem zi2(fn:Func)(tmps:Array Value):results fn tmps=(fn.results.mapM (Zfu tmps) >>= fun vs=>pure (if h:vs.size=1 then vs[0] else .tuple vs)):=by
 unfold results
 rfl
def Zcl(st:St)(rs:List RV):Option AV:=
 match rs with
 | [r]=>resV st r
 | rs=>(rs.mapM (resV st)).map .tup
section
variable{P:Program}{cx:Cx}{w:World}{S:Nat->Nat->Prop}{M:Map}{st:St}{a:Act}
def zz0{rs:List ResultVar}{ps:List RV}{xs:List AV}(hres:Zd3 P rs=some ps)(hr:RelF cx S M st.clk st.heap st.env.get a w)(hx:ps.mapM (resV st)=some xs) :
  ∃vs:List Value,(rs.mapM (Zfu a.tmps)).run P w=.ok vs w/\vs.length=xs.length/\∀(j:Nat) (v:Value) (c:AV),vs[j]? = some v->xs[j]? = some c->C w S M st.clk v c:=by
 induction rs generalizing ps xs with
 | nil=>
  simp only[Zd3,Option.some.injEq]at hres
  simp_all
 | cons r rs ih=>
  have step:∀(p:RV) (qs:List RV) (s:Sem Value),ps=p::qs->Zd3 P rs=some qs->(∀x,resV st p=some x->∃v,s.run P w=.ok v w/\C w S M st.clk v x) ->
    ∃(x:AV) (ys:List AV) (v:Value) (vs:List Value),xs=x::ys/\s.run P w=.ok v w/\C w S M st.clk v x/\(rs.mapM (Zfu a.tmps)).run P w=.ok vs w/\vs.length=ys.length/\∀(j:Nat) (v:Value) (c:AV),vs[j]? = some v->ys[j]? = some c->C w S M st.clk v c:=by
   intro p qs s hp hq hs;subst hp;simp only[Ya4,Yce,Yc0]at hx;obtain⟨x,hx1,hx2⟩:=bind_some hx;obtain⟨ys,hx3,hx4⟩:=bind_some hx2
   grind
  cases r with
  | tmp t=>
   simp only[Zd3]at hres;obtain⟨qs,hq,hp⟩:=map_some hres;obtain⟨x,ys,v,vs,rfl,h1,h2,h3,h4,h5⟩:=step _ qs (pure (a.tmps.getD t undef)) hp.symm hq (fun x hx=>by
    simp only[resV,Option.some.injEq]at hx;subst hx;exact⟨_,rfl,hr.env t⟩)
   refine⟨v::vs,?_,by grind,fun j v' c hv hc=>?_⟩
   ·grind[Zfu,Sem.run_bind,Result.andThen_ok,Sem.run_pure]
   grind
  | cell q t=>
   simp only[Zd3]at hres;obtain⟨k,hk,hres1⟩:=bind_some hres;obtain⟨qs,hq,hp⟩:=map_some hres1;obtain⟨x,ys,v,vs,rfl,h1,h2,h3,h4,h5⟩:=step _ qs (do loadVar t (<-asAddr (a.tmps.getD q undef))) hp.symm hq (fun x hx=>by
    simp only[resV]at hx;obtain⟨v,h1,h2⟩:=zi5 (P:=P) hk hr.wr.heap (hr.env q) hx;refine⟨v,?_,h2⟩
    -- the address is one
    unfold Instr.loadAt at h1;cases hv:a.tmps.getD q undef<;>rw[hv]at h1<;>try (simp[Instr.sureAddr,stuck]at h1;done)
    rename_i ad;cases ad with
    | none=>simp[Instr.sureAddr,stuck]at h1
    | some ad=>simpa[Instr.sureAddr,asAddr]using h1)
   refine⟨v::vs,?_,by grind,fun j v' c hv hc=>?_⟩
   ·grind[Sem.run_bind,Zfu,Result.andThen_ok,Sem.run_pure]
   grind
def znp{fn:Func}{ps:List RV}{x:AV}(hres:Zd3 P fn.results.toList=some ps)(hr:RelF cx S M st.clk st.heap st.env.get a w)(hx:Zcl st ps=some x):∃v,(results fn a.tmps).run P w=.ok v w/\C w S M st.clk v x:=by
 have main:∀xs,ps.mapM (resV st)=some xs->∃vs:Array Value,(fn.results.mapM (Zfu a.tmps)).run P w=.ok vs w/\vs.size=xs.length/\∀(j:Nat) (v:Value) (c:AV),vs[j]? = some v->xs[j]? = some c->C w S M st.clk v c:=by
  intro xs hxs;obtain⟨vs,h1,h2,h3⟩:=zz0 hres hr hxs;refine⟨vs.toArray,?_,by omega,fun j v c hv hc=>h3 j v c (by grind) hc⟩
  grind[Array.mapM_eq_mapM_toList,Sem.run_map,Result.andThen_ok]
 unfold Zcl at hx;split at hx
 ·rename_i r;obtain⟨vs,h1,h2,h3⟩:=main [x] (by simp[hx]);have hsz:vs.size=1:=by omega
  have hv:vs[0]? = some (vs[0]'(by omega)):=Yz _;refine⟨vs[0]'(by omega),?_,h3 0 _ x hv rfl⟩
  grind[zi2,Sem.run_bind,Result.andThen_ok,Sem.run_pure]
 ·rename_i hne;obtain⟨xs,hxs,rfl⟩:=map_some hx;obtain⟨vs,h1,h2,h3⟩:=main xs hxs;refine⟨.tuple vs,?_,.tup vs xs h2 h3⟩;have hsz:vs.size≠1:=by
   intro hs;obtain⟨hl,_⟩:=zbe _ _ hxs;rw[h2]at hs
   match ps,hl with
   | [],hl=>grind
   | [p],hl=>grind
   | p::q::r,hl=>grind
  grind[zi2,Sem.run_bind,Result.andThen_ok,Sem.run_pure]
end
def Zlj(rs:List RV)(post:AV->Heap->Nat->Prop):Exit->St->Prop:=
 fun ex st=>(ex=.normal\/ex=.ret)/\∃r,Zcl st rs=some r/\post r st.heap st.clk
def Zlk(rs:List RV)(post:AV->Prop):Exit->St->Prop:=
 fun ex st=>(ex=.normal\/ex=.ret)/\∃r y,Zcl st rs=some r/\frz st.heap r=some y/\post y
def Zca(args:List AV):Env:=args.zipIdx.map fun p=>(p.2,p.1)
theorem zi3(args:List AV)(t:Nat):(Zca args).get t=(args[t]?).getD .dead:=by
 have key:∀(l:List AV) (k t:Nat),((l.zipIdx k).map fun p=>(p.2,p.1)).lookup t=if k<=t then l[t-k]? else none:=by
  intro l
  induction l with
  | nil=>grind
  | cons x l ih=>
   intro k t;simp only[Yde,Yx,Yas]
   grind
 unfold Env.get Zca
 grind
section
variable{P:Program}{f:FuncId}{af:AF}{args:List AV}
def zap(hf:Z0 P f=some af):Enters P f:=by
 unfold Z0 at hf;split at hf
 ·rename_i fn hfn;split at hf
  ·rename_i c hb;obtain⟨rs,hrs,hf1⟩:=bind_some hf;obtain⟨c',hc',hf2⟩:=bind_some hf1;split at hf2
   ·rename_i hcond;intro cargs w;unfold callFunc
    simp_all
   grind
  grind
 grind
def zlf{hb:Heap}{clk:Nat}{post:AV->Heap->Nat->Prop}(hf:Z0 P f=some af)(hm:P.follows .mixedOrders=true)(hn:args.length=af.np)
  (h:∀cx:Cx,cx.P=P->cx.nt=af.nt->cx.clk0=clk->AWp cx af.body (Zlj af.res post) ⟨Zca args,hb,clk⟩):Zdt P f args hb clk post:=by
 refine⟨zap hf,fun w S M cargs hl hC hh hS hM=>?_⟩;unfold Z0 at hf;split at hf
 ·rename_i fn hfn;split at hf
  ·rename_i c hbody;obtain⟨rs,hrs,hf1⟩:=bind_some hf;obtain⟨c',hc',hf2⟩:=bind_some hf1;split at hf2<;>cases hf2;rename_i hcond;simp only at h hn;refine calls_of_wp hfn hbody ?_;have hwp:=h ⟨P,fn.ntmps,w,S,M,clk⟩ rfl rfl rfl c hc' hm { tmps:=cargs++Array.replicate (fn.ntmps-cargs.size) undef,defers:=[] } w ⟨S,M,?_⟩
   ·refine wp_mono hwp fun ex a' w' ⟨st',⟨hex,r,hres,hpost⟩,hrel⟩=>?_;obtain⟨S',M',hr⟩:=hrel;obtain⟨v,hv,hCv⟩:=znp hrs hr hres;have hfin:∃v r h' S' M' clk',Ending.returned v=.returned v/\post r h' clk'/\C w' S' M' clk' v r/\∀nt,WRel ⟨P,nt,w,S,M,clk⟩ S' M' clk' h' w':=⟨v,r,st'.heap,S',M',st'.clk,rfl,hpost,hCv,fun nt=>⟨hr.wr.heap,hr.wr.ext,hr.wr.fr,hr.wr.Snew,hr.wr.Slt,hr.wr.Mnew⟩⟩;have hw:∀nt,WRel ⟨P,nt,w,S,M,clk⟩ S' M' st'.clk st'.heap w':=fun nt=>⟨hr.wr.heap,hr.wr.ext,hr.wr.fr,hr.wr.Snew,hr.wr.Slt,hr.wr.Mnew⟩;rcases hex with rfl | rfl
    ·exact⟨hr.defers,v,hv,v,r,st'.heap,S',M',st'.clk,rfl,hpost,hCv,hw⟩
    ·exact⟨hr.defers,v,hv,v,r,st'.heap,S',M',st'.clk,rfl,hpost,hCv,hw⟩
   ·refine⟨by grind,rfl,fun t=>?_,⟨hh,Ext.refl _ _ _ _,⟨rfl,rfl,rfl,Yi _,fun _ _ _=>rfl⟩,fun k o hs=>.inl hs,hS,fun g k hm=>⟨hM g k hm,.inr ⟨g,hm⟩⟩⟩⟩;rw[zi3];cases ha:args[t]? with
    | none=>exact .p (.dead _)
    | some x=>
     have htl:=zb1 ha;have hv:cargs[t]? = some (cargs[t]'(by omega)):=Yz _;have e1:(cargs++Array.replicate (fn.ntmps-cargs.size) undef).getD t undef=cargs[t]'(by omega):=by
      simp only[Ybz]
      grind
     grind
  grind
 grind
def zth{post:AV->Prop}(hf:Z0 P f=some af)(hm:P.follows .mixedOrders=true)(hn:args.length=af.np)
  (h:∀cx:Cx,cx.P=P->cx.nt=af.nt->cx.clk0=1->AWp cx af.body (Zlk af.res post) ⟨Zca args,[],1⟩):Z6 P f args post:=by
 have hA:Zdt P f args [] 1 (fun r h _=>∃y,frz h r=some y/\post y):=
  zlf hf hm hn fun cx h1 h2 h0=>(h cx h1 h2 h0).mono fun ex st ⟨h3,r,y,h4,h5,h6⟩=>⟨h3,r,h4,y,h5,h6⟩
 refine⟨hA.1,fun w S cargs hl hC hS=>?_⟩;refine(hA.2 w S (fun _=>none) cargs hl (fun j v c hv hc=>.p (hC j v c hv hc)) ⟨fun b bx hb=>(by grind),fun g m hm=>(by grind),fun b bx b' bx' h1=>(by grind),fun g g' k h1=>(by grind)⟩ hS (fun g k hm=>(by grind))).mono ?_;intro e w' ⟨v,r,h',S',M',clk',he,⟨y,hy,hpost⟩,hCr,hw⟩;have hw:=hw 0;refine⟨v,y,he,hpost,⟨hw.fr.os,hw.fr.tape,hw.fr.output,hw.fr.size,fun k hk=>hw.fr.block k hk fun⟨g,hg⟩=>(by grind)⟩,?_⟩;refine(zsw hw.heap hCr hy fun id hid=>hid).mono (fun k o hs=>?_) fun k o u _ hc=>hc;rcases hs with hs | ⟨id,bx,_,_,hm,_⟩
 ·rcases hw.Snew k o hs with h1 | h1 | ⟨g,h1⟩
  ·grind
  ·exact .inr ⟨h1,hw.Slt k o hs⟩
  grind
 ·obtain⟨h1,h2⟩:=hw.Mnew _ k hm;rcases h2 with h2 | ⟨g,h2⟩
  all_goals grind
end
end
section
open Go.RowKit
def Zdv(P:Program)(ao:AO)(ρ:Nat->AV)(h0:Heap)(c0:Nat)(x:AV)(h1:Heap)(c1:Nat):Prop:=
 ao.guard=none/\∃f args,ao.op=.call f args/\(Zfg P f (args.map (ev ρ)) h0 (fun r h=>r=x/\h=h1/\c0=c1)\/Zfh P f (args.map (ev ρ)) h0 c0 (fun r h c=>r=x/\h=h1/\c=c1))
section
variable{P:Program}{ops:Array Oper}{cx:Cx}{w:World}{a:Act}
def Zdv.congr{nt:Nat}{o:Oper}{ao:AO}{ρ ρ':Nat->AV}{h0 h1:Heap}{c0 c1:Nat}{x:AV}(hao:Za6 P nt ops o=some ao)(hρ:∀t∈o.looksAt ops,ρ t=ρ' t)
  (h:Zdv P ao ρ h0 c0 x h1 c1):Zdv P ao ρ' h0 c0 x h1 c1:=by
 obtain⟨hg,f,args,hop,hc⟩:=h;obtain⟨op,g,hop1,_,rfl,_⟩:=zag hao;simp only at hop;subst hop;refine⟨hg,f,args,rfl,?_⟩;obtain⟨dst,oop,type,pos,after,guard⟩:=o;obtain⟨cargs,ats,hcall,hl⟩:=zco hop1;simp only at hcall;subst hcall;have:args.map (ev ρ)=args.map (ev ρ'):=zcy hl fun t ht=>hρ t (by grind[Oper.looksAt,Op.operands,Call.operands]);rw[<-this];exact hc
def zcm{nt:Nat}{Q':Exit->Act->World->Prop}{i:Nat}{o:Oper}{ao:AO}{ρ:Nat->AV}{h0 h1:Heap}{c0 c1:Nat}{x:AV}{K:Act->World->Prop}(ho:ops[i]? = some o)(hnt:nt=cx.nt)
  (hao:Za6 P nt ops o=some ao) (hq:Zdv P ao ρ h0 c0 x h1 c1) (hr:Zb1 cx c0 h0 ρ a w) (hK:∀a' w',Zb1 cx c1 h1 (upd ρ o.dst x) a' w'->K a' w'):wpOp P ops Q' i K a w:=by
 subst hnt;obtain⟨S,M,hr⟩:=hr;obtain⟨hgn,f,args,hopc,hc⟩:=hq;obtain⟨op,g,hop,hg,rfl,hd⟩:=zag hao;simp only at hgn hopc;subst hgn;subst hopc;unfold wpOp;simp only[ho,zbj hg a,if_true];refine .inl ?_;obtain⟨dst,oop,type,pos,after,guard⟩:=o;obtain⟨cargs,ats,hcall,hl⟩:=zco hop;simp only at hcall;subst hcall;obtain⟨h1,h2⟩:=zbp hr.env _ _ hl;have hsz:(cargs.map a.eval).size=(args.map (ev ρ)).length:=by grind
 have hC:∀(j:Nat) (v:Value) (c:AV),(cargs.map a.eval)[j]? = some v->(args.map (ev ρ))[j]? = some c->C w S M c0 v c:=
  fun j v c hv hc=>h2 j v c (by grind) hc
 have hexec:Enters P f->(execOp a.eval { dst:=dst,op:=.call { callee:=.value (.func f),args:=cargs,argTypes:=ats },type:=type,pos:=pos,after:=after,guard:=guard }).run P w=.ok (.enter f (cargs.map a.eval)) w:=by
  intro hent;simp only[execOp,resolve,Act.eval,Deferred.ofValue,Sem.run_bind,Sem.run_pure,Result.andThen_ok,invoke];have:=hent (cargs.map a.eval) w
  grind
 rcases hc with hc | hc
 ·obtain⟨hent,hcl⟩:=zcu hr hc hsz hC;unfold Oper.wp;rw[hexec hent,Oper.upon_enter];refine hcl.mono fun e w' ⟨v,r,h',S',M',he,⟨e1,e2,e3⟩,hr',hC'⟩=>?_;subst he e1 e2 e3;exact hK _ _ ⟨_,_,hr'.put hd hC'⟩
 obtain⟨hent,hcl⟩:=zcv hr hc hsz hC;unfold Oper.wp;rw[hexec hent,Oper.upon_enter];refine hcl.mono fun e w' ⟨v,r,h',S',M',clk',he,⟨e1,e2,e3⟩,hr',hC'⟩=>?_;subst he e1 e2 e3;exact hK _ _ ⟨_,_,hr'.put hd hC'⟩
end
end
section
open Go.RowKit
def Zbo(P:Program):List (Bool×DO)->Env->Heap->Nat->List Heap->Zho->(St->Prop)->Prop
 | [],e,h,clk,_,_,K=>K ⟨e,h,clk⟩
 | (true,o)::r,e,h,clk,older,pend,K=>∃x h1 c1,Zdv P o.ao e.get h clk x h1 c1/\(∀p∈pend,0<p.1->p.2 h1)/\Zbo P r (Ze e o.ao.dst x) h1 c1 (h::older) (pend.map fun p=>(p.1-1,p.2)) K
 | (false,o)::r,e,h,clk,older,pend,K=>
  match o.ao.op.writes with
  | true=>o.ao.guard=none/\okK (stepW o.ao.op o.ao.dst e.get h clk) fun q=>(∀p∈pend,0<p.1->p.2 q.2.1)/\Zbo P r (Ze e o.ao.dst q.1) q.2.1 q.2.2 (h::older) (pend.map fun p=>(p.1-1,p.2)) K
  | false=>qK P o.ao e h (older.take (older.length-o.lo)) fun x=>Zbo P r (Ze e o.ao.dst x) h clk older ((o.hi-older.length,fun h'=>QF P h' o.ao e.get x)::pend) K
def Zeh(p:Nat)(o:DO):DO:=⟨o.ao,if p<o.lo then o.lo+1 else o.lo,if p<=o.hi then o.hi+1 else o.hi⟩
def FN(P:Program)(aos:List AO)(W:List Nat)(c:Nat)(L U:Nat->Nat)(H:Nat->Heap)(C:Nat->Nat)(i:Nat)(ρ:Nat->AV)(x:AV):Prop:=
 ∃ao,aos[i]? = some ao /\
  ((i=c/\∃p,W[p]? = some i/\Zdv P ao ρ (H p) (C p) x (H (p+1)) (C (p+1))) \/
  (i≠c/\match ao.op.writes with
  | true=>ao.guard=none/\∃p,W[p]? = some i/\stepW ao.op ao.dst ρ (H p) (C p)=some (x,H (p+1),C (p+1))
  | false=>∀j,L i<=j->j<=U i->QF P (H j) ao ρ x))
section
variable{P:Program}{ops:Array Oper}
theorem ztz{aos:List AO}{K:St->Prop}{W:List Nat}{c:Nat}{L U:Nat->Nat}(hsort:W.Pairwise (· < ·))(hmem:∀k,k∈W↔∃ao,aos[k]? = some ao/\(ao.op.writes=true\/k=c))
  (hdst:∀(i:Nat) (o:Oper),ops[i]? = some o->∃ao:AO,aos[i]? = some ao/\ao.dst=o.dst) :
  ∀(l:List Oper) (k:Nat) (rest:List AO) (e:Env) (h:Heap) (clk:Nat) (older:List Heap) (oc:List Nat) (pend:Zho),(∀i,l[i]? = ops[k+i]?)->(∀i,rest[i]? = aos[k+i]?)->l.length=rest.length->oc.length=older.length ->
   older.length<=W.length->(∀m v,W[m]? = some v->(v<k↔m<older.length)) ->
   Zbo P ((rest.zipIdx k).map fun p=>(decide (p.2=c),⟨p.1,L p.2,U p.2⟩)) e h clk older pend K ->
   ∃(H:Nat->Heap) (C:Nat->Nat),(∀m x,older.reverse[m]? = some x->H m=x)/\(∀m x,oc.reverse[m]? = some x->C m=x)/\H older.length=h/\C older.length=clk/\(∀p∈pend,∀j,older.length<j->j<=older.length+p.1->j<=W.length->p.2 (H j)) /\
    Zc3 ops (FN P aos W c L (fun i=>min (U i) W.length) H C) (fun ρ=>∃e,ρ=Env.get e/\K ⟨e,H W.length,C W.length⟩) l k e.get
 | [],k,rest,e,h,clk,older,oc,pend,hl,hr,hlen,hoc,hle,hws,hk=>by
  have:rest=[]:=by grind
  subst this;simp only[List.zipIdx_nil,Ybl,Zbo]at hk;have hfull:older.length=W.length:=by
   rcases Yv older.length W.length with hlt | hge
   ·have hx:W[older.length]? = some (W[older.length]'hlt):=Ya hlt;have h1:=(hws _ _ hx);have hm:(W[older.length]'hlt)∈W:=Y0 _;obtain⟨ao,h2,_⟩:=(hmem _).1 hm;have h4:=hr ((W[older.length]'hlt)-k)
    grind
   omega
  refine⟨fun m=>if m=older.length then h else (older.reverse[m]?).getD [],fun m=>if m=older.length then clk else (oc.reverse[m]?).getD 0,fun m x hx=>?_,fun m x hx=>?_,by simp,by simp,fun p _ j h1 _ h3=>by omega,⟨e,rfl,?_⟩⟩
  all_goals grind
 | o::l,k,rest,e,h,clk,older,oc,pend,hl,hr,hlen,hoc,hle,hws,hk=>by
  cases rest with
  | nil=>grind
  | cons ao rest=>
   have ho:ops[k]? = some o:=by simpa using (hl 0).symm
   have hao:aos[k]? = some ao:=by simpa using (hr 0).symm
   obtain⟨ao',h1,hd⟩:=hdst k o ho;rw[hao]at h1;cases h1;have hl':∀i,l[i]? = ops[(k+1)+i]? := fun i=>by have:=hl (i+1);grind
   have hr':∀i,rest[i]? = aos[(k+1)+i]? := fun i=>by have:=hr (i+1);grind
   have hlen':l.length=rest.length:=by grind
   simp only[Yde,Yx]at hk
   -- the operation writes,or is the call
   have wr:∀(x:AV) (h':Heap) (clk':Nat),(ao.op.writes=true\/k=c) ->
     (∀(H:Nat->Heap) (C:Nat->Nat) (p:Nat),W[p]? = some k->H p=h->C p=clk->H (p+1)=h'->C (p+1)=clk'->FN P aos W c L (fun i=>min (U i) W.length) H C k e.get x) ->
     (∀p∈pend,0<p.1->p.2 h') ->
     Zbo P ((rest.zipIdx (k+1)).map fun p=>(decide (p.2=c),⟨p.1,L p.2,U p.2⟩)) (Ze e ao.dst x) h' clk' (h::older) (pend.map fun p=>(p.1-1,p.2)) K ->
     ∃(H:Nat->Heap) (C:Nat->Nat),(∀m x,older.reverse[m]? = some x->H m=x)/\(∀m x,oc.reverse[m]? = some x->C m=x)/\H older.length=h/\C older.length=clk/\(∀p∈pend,∀j,older.length<j->j<=older.length+p.1->j<=W.length->p.2 (H j)) /\
      Zc3 ops (FN P aos W c L (fun i=>min (U i) W.length) H C) (fun ρ=>∃e,ρ=Env.get e/\K ⟨e,H W.length,C W.length⟩) (o::l) k e.get:=by
    intro x h' clk' hwr hF hpd hk2;have hkm:k∈W:=(hmem k).2 ⟨ao,hao,hwr⟩;obtain⟨m,hm⟩:=Yae hkm;have hmo:m=older.length:=by
     have h1:=hws m k hm;have h2:¬ m<older.length:=fun hh=>Ya6 k (h1.2 hh);rcases Yv older.length m with h3 | h3
     ·have hlt:older.length<W.length:=by grind
      have hx:W[older.length]? = some (W[older.length]'hlt):=Ya hlt
      grind[zbk]
     omega
    subst hmo;obtain⟨H,C,hH,hC,hHe,hCe,hPe,hlex⟩:=ztz (K:=K) hsort hmem hdst l (k+1) rest (Ze e ao.dst x) h' clk' (h::older) (clk::oc) (pend.map fun p=>(p.1-1,p.2)) hl' hr' hlen' (by grind) (by grind) (fun m v hv=>by
     grind[zbk]) hk2
    have hHo:H older.length=h:=hH older.length h (by simp);have hCo:C older.length=clk:=hC older.length clk (by simp[<-hoc]);refine⟨H,C,fun m x hx=>hH m x ?_,fun m x hx=>hC m x ?_,hHo,hCo,fun p hp j h1 h2 h3=>?_,?_⟩
    ·grind
    ·grind
    ·simp only[Yg]at hHe hPe;rcases Yv (older.length+1) j with h4 | h4
     ·exact hPe (p.1-1,p.2) (Yy.2 ⟨p,hp,rfl⟩) j h4 (by omega) h3
     have hj:j=older.length+1:=by omega
     rw[hj,hHe];exact hpd p hp (by omega)
    ·refine⟨x,hF H C older.length hm hHo hCo hHe hCe,?_⟩;rw[<-hd,<-zbt];exact hlex
   by_cases hkc:k=c
   ·rw[show decide (k=c)=true from decide_eq_true hkc]at hk;obtain⟨x,h',clk',hcd,hpd,hk2⟩:=hk;refine wr x h' clk' (.inr hkc) (fun H C p hp e1 e2 e3 e4=>⟨ao,hao,.inl ⟨hkc,p,hp,?_⟩⟩) hpd hk2;rw[e1,e2,e3,e4];exact hcd
   ·rw[show decide (k=c)=false from decide_eq_false hkc]at hk;simp only[Zbo]at hk;cases hwr:ao.op.writes with
    | true=>
     rw[hwr]at hk;simp only at hk;obtain⟨hgn,⟨x,h',clk'⟩,hst,hpd,hk2⟩:=hk;refine wr x h' clk' (.inl hwr) (fun H C p hp e1 e2 e3 e4=>⟨ao,hao,.inr ⟨hkc,?_⟩⟩) hpd hk2;rw[hwr];exact⟨hgn,p,hp,by rw[e1,e2,e3,e4];exact hst⟩
    | false=>
     rw[hwr]at hk;obtain⟨x,hq1,hq2,hk2⟩:=zqn hwr hk;have hkm:k∉W:=fun hm=>by
      obtain⟨ao2,h1,h2⟩:=(hmem k).1 hm
      grind
     obtain⟨H,C,hH,hC,hHe,hCe,hPe,hlex⟩:=ztz (K:=K) hsort hmem hdst l (k+1) rest (Ze e ao.dst x) h clk older oc ((U k-older.length,fun h'=>QF P h' ao e.get x)::pend) hl' hr' hlen' hoc hle (fun m v hv=>by
      have:=hws m v hv;have hvk:v≠k:=fun he=>hkm (he▸Yc hv);omega) hk2
     refine⟨H,C,hH,hC,hHe,hCe,fun p hp=>hPe p (Yh _ hp),x,⟨ao,hao,.inr ⟨hkc,?_⟩⟩,?_⟩
     ·rw[hwr];intro j hlo hhi;replace hhi:j<=min (U k) W.length:=hhi;cases hfr:ao.op.freeE e.get with
      | true=>exact zj2 hfr h _ hq1
      | false=>
       rcases Yv j older.length with hj | hj
       ·have hx:older.reverse[j]? = some (older.reverse[j]'(by grind)):=Ya _;rw[hH j _ hx];have hx2:(older.take (older.length-L k))[older.length-1-j]? = some (older[older.length-1-j]'(by omega)):=by
         grind
        grind
       ·rcases Yv older.length j with hj2 | hj2
        ·exact hPe _ (Yj ..) j hj2 (by simp only;omega) (by omega)
        have hj3:j=older.length:=by omega
        rw[hj3,hHe];exact hq1
     ·rw[<-hd,<-zbt];exact hlex
end
end
section
open Go.RowKit
def Zc5(P:Program)(tl:List AO)(h0:Heap)(c0:Nat)(h1:Heap)(c1:Nat)(K:St->Prop):Bool->List AO->Env->Prop
 | b,[],e=>b=true/\Zdd P tl ⟨e,h1,c1⟩ K
 | b,o::r,e=>(∃x,QF P h0 o e.get x/\QF P h1 o e.get x/\Zc5 P tl h0 c0 h1 c1 K b r (Ze e o.dst x)) \/
   (b=false/\∃x,Zdv P o e.get h0 c0 x h1 c1/\Zc5 P tl h0 c0 h1 c1 K true r (Ze e o.dst x))
def FC(P:Program)(aos:List AO)(n c:Nat)(h0:Heap)(c0:Nat)(h1:Heap)(c1:Nat)(i:Nat)(ρ:Nat->AV)(x:AV):Prop:=
 i<n/\∃ao,aos[i]? = some ao/\((i≠c/\QF P h0 ao ρ x/\QF P h1 ao ρ x)\/(i=c/\Zdv P ao ρ h0 c0 x h1 c1))
section
variable{P:Program}{ops:Array Oper}{cx:Cx}{w:World}{a:Act}
theorem ztx{aos tl:List AO}{n c:Nat}{h0 h1:Heap}{c0 c1:Nat}{K:St->Prop}(hdst:∀(i:Nat) (o:Oper),ops[i]? = some o->∃ao:AO,aos[i]? = some ao/\ao.dst=o.dst) :
  ∀(l:List Oper) (k:Nat) (rest:List AO) (e:Env),(∀j,j<l.length->l[j]? = ops[k+j]?)->(∀j,j<rest.length->rest[j]? = aos[k+j]?)->l.length=rest.length->k+l.length=n->c<k ->
   Zc5 P tl h0 c0 h1 c1 K true rest e->Zc3 ops (FC P aos n c h0 c0 h1 c1) (fun ρ=>∃e,ρ=Env.get e/\Zdd P tl ⟨e,h1,c1⟩ K) l k e.get
 | [],k,rest,e,_,_,hlen,_,_,hk=>by
  have:rest=[]:=Yag (by simpa using hlen.symm);subst this;exact⟨e,rfl,hk.2⟩
 | o::l,k,rest,e,hl,hr,hlen,hkn,hck,hk=>by
  cases rest with
  | nil=>simp at hlen
  | cons ao rest=>
   have ho:ops[k]? = some o:=by simpa using (hl 0 (by simp)).symm
   have hao:aos[k]? = some ao:=by simpa using (hr 0 (by simp)).symm
   obtain⟨ao',h2,hd⟩:=hdst k o ho;rw[hao]at h2;cases h2;simp only[Yg]at hkn;rcases hk with ⟨x,hq0,hq1,hk2⟩ | ⟨hb,_⟩
   ·refine⟨x,⟨by omega,ao,hao,.inl ⟨by omega,hq0,hq1⟩⟩,?_⟩;rw[<-hd,<-zbt];exact ztx hdst l (k+1) rest _ (fun j hj=>by have:=hl (j+1) (by simp;omega);simpa[Yap,Ybj 1 j]using this) (fun j hj=>by have:=hr (j+1) (by simp;omega);simpa[Yap,Ybj 1 j]using this) (by simpa using hlen) (by omega) (by omega) hk2
   ·cases hb
theorem zty{aos tl:List AO}{n:Nat}{h0 h1:Heap}{c0 c1:Nat}{K:St->Prop}(hdst:∀(i:Nat) (o:Oper),ops[i]? = some o->∃ao:AO,aos[i]? = some ao/\ao.dst=o.dst) :
  ∀(l:List Oper) (k:Nat) (rest:List AO) (e:Env),(∀j,j<l.length->l[j]? = ops[k+j]?)->(∀j,j<rest.length->rest[j]? = aos[k+j]?)->l.length=rest.length->k+l.length=n ->
   Zc5 P tl h0 c0 h1 c1 K false rest e->∃c,k<=c/\c<n/\Zc3 ops (FC P aos n c h0 c0 h1 c1) (fun ρ=>∃e,ρ=Env.get e/\Zdd P tl ⟨e,h1,c1⟩ K) l k e.get
 | [],k,rest,e,_,_,hlen,_,hk=>by
  have:rest=[]:=Yag (by simpa using hlen.symm);subst this;cases hk.1
 | o::l,k,rest,e,hl,hr,hlen,hkn,hk=>by
  cases rest with
  | nil=>simp at hlen
  | cons ao rest=>
   have ho:ops[k]? = some o:=by simpa using (hl 0 (by simp)).symm
   have hao:aos[k]? = some ao:=by simpa using (hr 0 (by simp)).symm
   obtain⟨ao',h2,hd⟩:=hdst k o ho;rw[hao]at h2;cases h2;simp only[Yg]at hkn;have hl':∀j,j<l.length->l[j]? = ops[k+1+j]? := fun j hj=>by have:=hl (j+1) (by simp;omega);simpa[Yap,Ybj 1 j]using this
   have hlen':l.length=rest.length:=by simpa using hlen
   have hr':∀j,j<rest.length->rest[j]? = aos[k+1+j]? := fun j hj=>by have:=hr (j+1) (by simp;omega);simpa[Yap,Ybj 1 j]using this
   rcases hk with ⟨x,hq0,hq1,hk2⟩ | ⟨_,x,hq,hk2⟩
   ·obtain⟨c,hc1,hc2,hx⟩:=zty (n:=n) hdst l (k+1) rest _ hl' hr' hlen' (by omega) hk2;refine⟨c,by omega,hc2,x,⟨by omega,ao,hao,.inl ⟨by omega,hq0,hq1⟩⟩,?_⟩;rw[<-hd,<-zbt];exact hx
   ·have hkn':k<n:=by omega
    refine⟨k,Yi k,hkn',x,⟨hkn',ao,hao,.inr ⟨rfl,hq⟩⟩,?_⟩;rw[<-hd,<-zbt];exact ztx hdst l (k+1) rest _ hl' hr' hlen' (by omega) (by omega) hk2
def znu{nt id n:Nat}{aos:List AO}{st:St}{h1:Heap}{c1:Nat}{K:St->Prop}{Q:Exit->Act->World->Prop}(hnt:nt=cx.nt)(hm:P.follows .mixedOrders=true)(hB:Zgu ops aos=some n)
  (hres:Z8 P nt ops ops.toList=some aos) (hk:Zc5 P (aos.drop n) st.heap st.clk h1 c1 K false (aos.take n) st.env) (hr:Rel cx st a w) (hQ:∀st' a' w',K st'->Rel cx st' a' w'->Q .normal a' w'):(Code.region id ops true).wp P Q a w:=by
 obtain⟨hw,hT⟩:=zgx hB;simp only[Region.lexTailB,Yk,decide_eq_true_eq]at hT;obtain⟨⟨⟨⟨_,hn⟩,hs⟩,hc⟩,hlex⟩:=hT;have hget':∀i o,ops[i]? = some o->∃ao,aos[i]? = some ao/\Za6 P nt ops o=some ao:=fun i o ho=>zau ops.toList aos hres i o (by grind);have hlen:=zav ops.toList aos hres;have htl:(ops.toList.take n).length=n:=by grind
 have hdl:(ops.toList.drop n).length=ops.size-n:=by simp
 have inv0:HeadInv .any ops n (Array.replicate ops.size false):=
  ⟨by simp,fun j oj _ hl=>(by rw[getD_replicate_false]at hl;grind),fun t _ ht=>getD_in (by grind) (getD_replicate_false _ _)⟩
 obtain⟨c,_,hcn,hlx⟩:=zty (P:=P) (ops:=ops) (aos:=aos) (tl:=aos.drop n) (n:=n) (h0:=st.heap) (c0:=st.clk) (h1:=h1) (c1:=c1) (K:=K) (fun i o ho=>by
  grind[zag]) (ops.toList.take n) 0 (aos.take n) st.env (fun j hj=>by
   grind) (fun j hj=>by
   grind) (by grind) (by omega) hk
 have hloc:Zel ops (FC P aos n c st.heap st.clk h1 c1):=by
  intro i o ho ρ ρ' hρ x ⟨hin,ao,hao,hq⟩;obtain⟨ao',e1,e2⟩:=hget' i o ho;rw[hao]at e1;cases e1;refine⟨hin,ao,hao,?_⟩;have quiet:∀h,QF P h ao ρ x->QF P h ao ρ' x:=by
   intro h hq;obtain⟨op,g,hop,hg,rfl,_⟩:=zag e2;have hops:∀t,Operand.tmp t∈o.op.operands.toList->ρ t=ρ' t:=fun t ht=>hρ t (by
    grind[Oper.looksAt])
   clear hk hlx hlex hQ hr hm hw hB;unfold QF at hq ⊢;cases g with
   | none=>exact(zbq hop hops).1 hq
   | some tw=>
    grind[Zaz,map_some,Oper.looksAt,zbq]
  rcases hq with ⟨h1,h2,h3⟩ | ⟨h1,h2⟩
  ·exact .inl ⟨h1,quiet _ h2,quiet _ h3⟩
  ·exact .inr ⟨h1,h2.congr e2 hρ⟩
 obtain⟨S,M,hrf⟩:=hr;have H:=zeg (md:=.any) (g:=ops.size-n) hloc hs hc hn (ops.toList.take n) 0 _ st.env.get (fun j hj=>by
  grind) (by omega) inv0 (fun i hi=>by omega) (by grind) hlx
 refine wp_region_any hm ?_;have:=zb3 (P:=P) (md:=.any) (Q':=Q) (g:=ops.size-n) (F:=FC P aos n c st.heap st.clk h1 c1) (R:=fun listed ρ a w=>if listed.getD c false=true then Zb1 cx c1 h1 ρ a w else Zb1 cx st.clk st.heap ρ a w) (fun i o listed hin ho hrd ρ x a w K' ⟨_,ao,hao,hq⟩ hr hK'=>by
  obtain⟨ao',e1,e2⟩:=hget' i o ho;rw[hao]at e1;cases e1;have hun:=(mem_ready.1 hrd).1;rcases hq with ⟨hic,hq0,hq1⟩ | ⟨rfl,hq⟩
  ·rw[getD_set_ne false hic]at hK';by_cases hl:listed.getD c false=true
   ·rw[if_pos hl]at hr;simp only[hl,if_true]at hK';exact za1 ho hnt e2 hq1 hr hK'
   ·rw[if_neg hl]at hr;simp only[hl,if_false]at hK';exact za1 ho hnt e2 hq0 hr hK'
  ·have hl:¬ listed.getD i false=true:=by grind
   rw[if_neg hl]at hr;have hset:(listed.setIfInBounds i true).getD i false=true:=by
    have hlt:i<listed.size:=by grind
    simp[hlt]
   simp only[hset,if_true]at hK';exact zcm ho hnt e2 hq hr hK') (fun listed ρ a' w' hL hr'=>by
  obtain⟨hseq,hfull,e,rfl,hrun⟩:=hL;rw[if_pos (hfull c hcn)]at hr';have hwl:wpList P ops Q (ops.toList.drop n) a' w':=zcp hnt _ _ ⟨e,h1,c1⟩ K a' w' (zb2 n _ _ hres) hrun hr' hQ
  grind[wpAny_of_seq]) _ _ _ a { w with drawn:=w.drawn+1 } (by rw[getD_replicate_false];exact Zb1.drawn ⟨S,M,hrf⟩) H
 grind
end
end
section
open Go.RowKit
def Zen(c:Nat)(l:List AO):List Nat:=(l.zipIdx.filter fun p=>p.1.op.writes || p.2 == c).map (·.2)
section
variable{P:Program}{ops:Array Oper}{cx:Cx}{w:World}{a:Act}
def zlq(c:Nat)(l:List AO)(k:Nat):k∈Zen c l↔∃ao,l[k]? = some ao/\(ao.op.writes=true\/k=c):=by
 unfold Zen;simp only[Yy,Ydm];constructor
 ·grind
 ·rintro⟨ao,h1,h2⟩
  exact⟨(ao,k),⟨by grind,by grind⟩,rfl⟩
def zhc(c:Nat)(l:List AO):(Zen c l).Pairwise (· < ·):=by
 unfold Zen;rw[List.pairwise_map];have key:∀(l:List AO) (k:Nat),(l.zipIdx k).Pairwise (fun a b=>a.2<b.2):=by
  intro l
  induction l with
  | nil=>simp_all
  | cons x l ih=>
   grind[List.zipIdx_cons,List.pairwise_cons]
 exact(key l 0).filter _
def zf9{l:List Nat}(h:l.Pairwise (· < ·)):l.Nodup:=h.imp fun h=>Nat.ne_of_lt h
theorem zhd(he:∀(i:Nat) (o:Oper),ops[i]? = some o->∀e∈o.after,Region.binds .any e=true->e.on<i):∀(n u v:Nat),Zad ops n u v=true->u<v
 | 0,_,_,h=>by cases h
 | n+1,u,v,h=>by
  simp only[Zad]at h;split at h
  ·cases h
  ·rename_i o ho;obtain⟨e,h1,hb⟩:=Ydt.1 h;simp only[Yk,Yck,beq_iff_eq]at hb;have h2:=he v o ho e h1 hb.1;rcases hb.2 with h3 | h3
   ·omega
   ·have:=zhd he n u e.on h3;omega
theorem zlr{f g:Nat->Bool}:∀(ws:List Nat),(∀v∈ws,f v=true->g v=true)->(ws.filter f).length=(ws.filter g).length->∀v∈ws,g v=true->f v=true
 | [],_,_,v,hv,_=>by cases hv
 | x::ws,h,hl,v,hv,hg=>by
  have hle:=zch ws fun v hv=>h v (Yh _ hv);have ih:=zlr ws fun v hv=>h v (Yh _ hv);have hx:=h x Yj;simp only[Ybq]at hl;cases hfx:f x<;>cases hgx:g x<;>simp only[hfx,hgx,Yad,if_false,if_true,Yg]at hl hx
  all_goals grind
def znv{nt id p:Nat}{aos:List AO}{l1 l2:List DO}{oc:AO}{st:St}{K:St->Prop}{Q:Exit->Act->World->Prop}(hnt:nt=cx.nt)(hm:P.follows .mixedOrders=true)(hB:Zco ops aos=true)
  (hres:Z8 P nt ops ops.toList=some aos) (hd:Zcp ops aos=l1 ++ ⟨oc,p,p⟩::l2) (hcw:oc.op.writes=false)
  (hk:Zbo P (l1.map (fun o=>(false,Zeh p o))++(true,⟨oc,p,p⟩)::l2.map (fun o=>(false,Zeh p o))) st.env st.heap st.clk [] [] K) (hr:Rel cx st a w) (hQ:∀st' a' w',K st'->Rel cx st' a' w'->Q .normal a' w'):(Code.region id ops true).wp P Q a w:=by
 have hget':∀i o,ops[i]? = some o->∃ao,aos[i]? = some ao/\Za6 P nt ops o=some ao:=fun i o ho=>zau ops.toList aos hres i o (by grind);have hlen:=zav ops.toList aos hres;obtain⟨S,M,hrf⟩:=hr;have hok:=hB;unfold Zco at hB;simp only[Yk,Yl]at hB;obtain⟨⟨hlexB,hch⟩,hall⟩:=hB;generalize hws:Zh aos=ws at *
 -- the list of the operations,and the call among them
 have hdi:∀i,(l1 ++ ⟨oc,p,p⟩::l2)[i]? = aos[i]?.map fun x=>(⟨x,Zec ops ws i,Zbx ops ws i⟩:DO):=by
  intro i;rw[<-hd];unfold Zcp;rw[hws];simp only[Yan,Yct,Ydv];cases aos[i]?<;>simp
 generalize hc0:l1.length=c at *
 have hcc:(l1++(⟨oc,p,p⟩:DO)::l2)[c]? = some ⟨oc,p,p⟩:=by
  rw[<-hc0,Ye (Yi _)];simp
 have hao:aos[c]? = some oc/\Zec ops ws c=p/\Zbx ops ws c=p:=by
  have h1:=hdi c;rw[hcc]at h1;cases h2:aos[c]? with
  | none=>rw[h2]at h1;cases h1
  | some x=>
   rw[h2]at h1;simp only[Ya1,Option.some.injEq,DO.mk.injEq]at h1;obtain⟨rfl,e2,e3⟩:=h1;exact⟨rfl,e2.symm,e3.symm⟩
 obtain⟨haoc,hlow,hhigh⟩:=hao;generalize hL:(fun i=>if i=c then p else if p<Zec ops ws i then Zec ops ws i+1 else Zec ops ws i)=L;generalize hU:(fun i=>if i=c then p else if p<=Zbx ops ws i then Zbx ops ws i+1 else Zbx ops ws i)=U;have hlist:(l1.map (fun o=>(false,Zeh p o))++(true,(⟨oc,p,p⟩:DO))::l2.map (fun o=>(false,Zeh p o)))=(aos.zipIdx 0).map fun q=>(decide (q.2=c),(⟨q.1,L q.2,U q.2⟩:DO)):=by
  refine Ydx fun i=>?_;have h1:=hdi i;simp only[Yan,Yct,Ydv,Yar];rcases Ybd i c with h2 | h2 | h2
  ·rw[Yo (by first | omega | (simp;omega))]at h1 ⊢;simp only[Yan];rw[h1];cases aos[i]? with
   | none=>rfl
   | some x=>
    have h3:¬ i=c:=by omega
    simp[Zeh,<-hL,<-hU,h3]
  ·subst h2;rw[haoc,Ye (by first | omega | (simp;omega))];simp[hc0,<-hL,<-hU]
  ·rw[Ye (by first | omega | (simp;omega))]at h1 ⊢;simp only[Yw,hc0]at h1 ⊢;rw[show i-c=(i-c-1)+1 by omega,Yav]at h1 ⊢;simp only[Yan];rw[h1];cases aos[i]? with
   | none=>rfl
   | some x=>
    have h3:¬ i=c:=by omega
    simp[Zeh,<-hL,<-hU,h3]
 rw[hlist]at hk
 -- the operations that write,and the call
 generalize hW:Zen c aos=W at *
 have hsort:W.Pairwise (· < ·):=hW▸zhc c aos;have hmemW:∀k,k∈W↔∃ao,aos[k]? = some ao/\(ao.op.writes=true\/k=c):=fun k=>by rw[<-hW];exact zlq c aos k
 have hmem:∀k,k∈ws↔∃ao,aos[k]? = some ao/\ao.op.writes=true:=fun k=>by rw[<-hws];exact zbu aos k
 have hsortw:ws.Pairwise (· < ·):=hws▸zdc aos;have hcws:c∉ws:=fun h=>by
  obtain⟨ao,h1,h2⟩:=(hmem c).1 h;rw[haoc]at h1;cases h1;rw[hcw]at h2;cases h2
 have hperm:W.Perm (c::ws):=by
  refine(List.perm_ext_iff_of_nodup (zf9 hsort) (Yd9.2 ⟨hcws,zf9 hsortw⟩)).2 fun k=>?_;rw[hmemW,Yn,hmem];constructor
  ·rintro⟨ao,h1,h2 | h2⟩
   ·exact .inr ⟨ao,h1,h2⟩
   ·exact .inl h2
  ·rintro(rfl | ⟨ao,h1,h2⟩)
   ·exact⟨oc,haoc,.inr rfl⟩
   ·exact⟨ao,h1,.inl h2⟩
 have hcntW:∀listed:Array Bool,cnt W listed=cnt ws listed+if listed.getD c false=true then 1 else 0:=by
  intro listed;unfold cnt;rw[(hperm.filter _).length_eq,Ybq];split<;>simp
 have hedge:=zk5 hlexB;have hside:∀v∈ws,Zad ops ops.size v c=true\/Zad ops ops.size c v=true:=by
  intro v hv;by_cases h1:Zad ops ops.size c v=true
  ·exact .inr h1
  ·refine .inl (zlr (f:=fun v=>Zad ops ops.size v c) (g:=fun v=>!Zad ops ops.size c v) ws (fun v _ h2=>?_) (by
    rw[show (ws.filter fun v=>Zad ops ops.size v c).length=p from hlow,show (ws.filter fun v=>!Zad ops ops.size c v).length=p from hhigh]) v hv (by simp[h1]))
   cases h3:Zad ops ops.size c v with
   | false=>rfl
   | true=>
    have h4:=zhd hedge _ _ _ h2;have h5:=zhd hedge _ _ _ h3;omega
 -- what stands ahead of one of them is done ahead of it
 have ord:∀(listed:Array Bool),Clo .any ops listed->∀u v,u∈W->v∈W->u<v->(listed.getD v false=true\/v∈Region.ready .any ops listed)->listed.getD u false=true:=by
  intro listed hc u v hu hv huv hl;by_cases huc:u=c
  ·subst huc;have hvw:v∈ws:=by
    obtain⟨ao,h1,h2⟩:=(hmemW v).1 hv;exact(hmem v).2 ⟨ao,h1,by rcases h2 with h2 | h2<;>omega⟩
   rcases hside v hvw with h1 | h1
   ·have:=zhd hedge _ _ _ h1;omega
   ·exact zas hc _ _ _ hl h1
  ·have huw:u∈ws:=by
    obtain⟨ao,h1,h2⟩:=(hmemW u).1 hu;exact(hmem u).2 ⟨ao,h1,by rcases h2 with h2 | h2<;>omega⟩
   by_cases hvc:v=c
   ·subst hvc;rcases hside u huw with h1 | h1
    ·exact zas hc _ _ _ hl h1
    ·have:=zhd hedge _ _ _ h1;omega
   ·have hvw:v∈ws:=by
     obtain⟨ao,h1,h2⟩:=(hmemW v).1 hv;exact(hmem v).2 ⟨ao,h1,by rcases h2 with h2 | h2<;>omega⟩
    obtain⟨q,hq⟩:=Yae huw;obtain⟨q2,hq2⟩:=Yae hvw;have hqq:q<q2:=by
     rcases Ybd q q2 with h | h | h
     ·exact h
     ·subst h;rw[hq]at hq2;cases hq2;omega
     ·have:=zbk hsortw hq2 hq h;omega
    rcases hl with hl | hl
    ·exact zby hch hc (q2-q) q u v hq (by rw[show q+(q2-q)=q2 by omega];exact hq2) hl
    ·have hlt:q2-1<ws.length:=by have:=zb1 hq2;omega
     have hx:ws[q2-1]? = some (ws[q2-1]'hlt):=Ya hlt;obtain⟨o,ho,e,he,hb,hon⟩:=zcg ws (q2-1) _ v hch hx (by rw[show q2-1+1=q2 by omega];exact hq2);obtain⟨_,o',ho',hall'⟩:=mem_ready.1 hl;rw[ho]at ho';cases ho';have h3:=hall' e he hb;rw[hon]at h3;exact zby hch hc (q2-1-q) q u _ hq (by rw[show q+(q2-1-q)=q2-1 by omega];exact hx) h3
 have prefixOf:∀(listed:Array Bool),Clo .any ops listed->∀(q i:Nat),W[q]? = some i->(i∈Region.ready .any ops listed)->∀m v,W[m]? = some v->(listed.getD v false=true↔m<q):=by
  intro listed hc q i hp hi m v hv;have hun:listed.getD i false≠true:=by
   have:=(mem_ready.1 hi).1
   grind
  have hiW:=Yc hp;have hvW:=Yc hv;constructor
  ·intro hl;rcases Ybd m q with h | h | h
   ·exact h
   ·subst h;rw[hp]at hv;cases hv;exact absurd hl hun
   ·exact absurd (ord listed hc i v hiW hvW (zbk hsort hp hv h) (.inl hl)) hun
  ·intro hmp;exact ord listed hc v i hvW hiW (zbk hsort hv hp hmp) (.inr hi)
 have hloW:∀(listed:Array Bool),Clo .any ops listed->∀i,i∈Region.ready .any ops listed->i≠c->L i<=cnt W listed/\cnt W listed<=min (U i) W.length:=by
  intro listed hc i hi hic;have hlo:Zec ops ws i<=cnt ws listed:=zch ws fun v _ hv=>zas hc _ v i (.inr hi) hv;have hun:listed.getD i false≠true:=by
   have:=(mem_ready.1 hi).1
   grind
  have hhi:cnt ws listed<=Zbx ops ws i:=zch ws fun v _ hv=>by
   grind[zas]
  have hle:cnt W listed<=W.length:=Yda ..;have h1:=hcntW listed
  -- how many are done tells whether the call is
  have k1:p<cnt ws listed->listed.getD c false=true:=by
   intro hp;have:∃v∈ws,listed.getD v false=true/\Zad ops ops.size c v=true:=by
    refine Classical.byContradiction fun hno=>?_;have:cnt ws listed<=Zbx ops ws c:=zch ws fun v hv hl=>by
     cases h3:Zad ops ops.size c v with
     | false=>rfl
     | true=>exact absurd ⟨v,hv,hl,h3⟩ hno
    omega
   obtain⟨v,hv,hl,h3⟩:=this;exact zas hc _ c v (.inl hl) h3
  have k2:cnt ws listed<p->listed.getD c false≠true:=by
   intro hp hl;have:Zec ops ws c<=cnt ws listed:=zch ws fun v _ hv=>zas hc _ v c (.inl hl) hv;omega
  refine⟨?_,?_⟩
  ·rw[<-hL];simp only[if_neg hic];by_cases hcl:listed.getD c false=true
   ·rw[if_pos hcl]at h1;split<;>omega
   ·rw[if_neg hcl]at h1;split
    ·exact absurd (k1 (by omega)) hcl
    ·omega
  ·rw[<-hU];simp only[if_neg hic];by_cases hcl:listed.getD c false=true
   ·rw[if_pos hcl]at h1;split
    ·omega
    ·exact absurd hcl (k2 (by omega))
   ·rw[if_neg hcl]at h1;split<;>omega
 obtain⟨H,C,_,_,hH0,hC0,_,hlex⟩:=ztz (P:=P) (ops:=ops) (aos:=aos) (K:=K) (W:=W) (c:=c) (L:=L) (U:=U) hsort hmemW (fun i o ho=>by
  grind[zag]) ops.toList 0 aos st.env st.heap st.clk [] [] [] (fun i=>by simp) (fun i=>by simp) hlen rfl (Y4 _) (fun m v _=>by simp) hk
 simp only[Yam]at hH0 hC0;refine zct (F:=FN P aos W c L (fun i=>min (U i) W.length) H C) (R:=fun listed ρ a w=>Zb1 cx (C (cnt W listed)) (H (cnt W listed)) ρ a w) (Q:=fun ρ=>∃e,ρ=Env.get e/\K ⟨e,H W.length,C W.length⟩) (ρ:=st.env.get) hm hlexB ?_ ?_ ?_ ?_ hlex
 ·intro i o ho ρ ρ' hρ x ⟨ao,hao,hq⟩;obtain⟨ao',h1,h2⟩:=hget' i o ho;rw[hao]at h1;cases h1;refine⟨ao,hao,?_⟩;rcases hq with ⟨hic,q,hq1,hq2⟩ | ⟨hic,hq⟩
  ·exact .inl ⟨hic,q,hq1,hq2.congr h2 hρ⟩
  refine .inr ⟨hic,?_⟩;obtain⟨op,g,hop,hg,rfl,_⟩:=zag h2;have hops:∀t,Operand.tmp t∈o.op.operands.toList->ρ t=ρ' t:=fun t ht=>hρ t (by
   grind[Oper.looksAt])
  have quiet:∀h,QF P h ⟨o.dst,g,op⟩ ρ x->QF P h ⟨o.dst,g,op⟩ ρ' x:=by
   intro h hq;clear hk hlex hside ord prefixOf hloW hcntW hdi hlist hQ;unfold QF at hq ⊢;cases g with
   | none=>exact(zbq hop hops).1 hq
   | some tw=>
    grind[Zaz,map_some,Oper.looksAt,zbq]
  cases hwr:op.writes with
  | true=>
   simp only[hwr]at hq ⊢;obtain⟨h3,q,h4,h5⟩:=hq;exact⟨h3,q,h4,by rw[<-zbv hop hops];exact h5⟩
  | false=>
   simp only[hwr]at hq ⊢;exact fun j h3 h4=>quiet _ (hq j h3 h4)
 ·intro i o ho listed ρ x a w K' hc hi ⟨ao,hao,hq⟩ hr hK';obtain⟨ao',h1,h2⟩:=hget' i o ho;rw[hao]at h1;cases h1;have hun:=(mem_ready.1 hi).1;have hisz:i<listed.size:=by grind
  have hcount:∀q,W[q]? = some i->cnt W listed=q/\cnt W (listed.setIfInBounds i true)=q+1:=by
   intro q hp;have hpre:=prefixOf listed hc q i hp hi;have hple:=zb1 hp;refine⟨za5 q (by omega) fun m v hv=>hpre m v hv,za5 (q+1) (by omega) fun m v hv=>?_⟩;by_cases hvi:i=v
   ·have hmp:m=q:=by
     rcases Ybd m q with h | h | h
     ·have:=zbk hsort hv hp h;omega
     ·exact h
     ·have:=zbk hsort hp hv h;omega
    subst hvi;simp[hisz,hmp]
   ·rw[getD_set_ne false hvi,hpre m v hv];have:m≠q:=fun he=>hvi (by subst he;rw[hp]at hv;cases hv;rfl);omega
  rcases hq with ⟨hic,q,hp,hcd⟩ | ⟨hic,hq⟩
  ·obtain⟨e1,e2⟩:=hcount q hp;rw[e1]at hr;rw[e2]at hK';exact zcm ho hnt h2 hcd hr hK'
  cases hwr:ao.op.writes with
  | true=>
   simp only[hwr]at hq;obtain⟨hgn,q,hp,hst⟩:=hq;obtain⟨e1,e2⟩:=hcount q hp;rw[e1]at hr;rw[e2]at hK';obtain⟨S,M,hr⟩:=hr;subst hnt;obtain⟨op,g,hop,hg,rfl,hd⟩:=zag h2;simp only at hgn hst;subst hgn;obtain⟨v,w',S',M',h3,h4,h5⟩:=zb6 hop hr hst;have hfin:K' (a.put o.dst v) w':=hK' _ _ ⟨S',M',h4.put hd h5⟩;unfold wpOp;simp only[ho,zbj hg a,if_true];rcases h3 with h3 | ⟨h3,rfl⟩
   ·exact .inl (zcw h3 hfin)
   ·refine .inl ?_;unfold Oper.wp;rw[h3,Oper.upon_skip];exact hfin
  | false=>
   simp only[hwr]at hq;have hnm:i∉W:=fun hm=>by
    obtain⟨ao2,h3,h4⟩:=(hmemW i).1 hm;rw[hao]at h3;cases h3;rcases h4 with h4 | h4
    ·rw[hwr]at h4;cases h4
    ·exact hic h4
   obtain⟨e1,e2⟩:=hloW listed hc i hi hic;have hcnt':cnt W (listed.setIfInBounds i true)=cnt W listed:=by
    unfold cnt;congr 1;refine List.filter_congr fun v hv=>?_;have:i≠v:=fun he=>hnm (he▸hv);rw[getD_set_ne false this]
   rw[hcnt']at hK';exact za1 ho hnt h2 (hq _ e1 e2) hr hK'
 ·intro listed ρ a w hc hready hr ⟨e,he,hK⟩;subst he;have hfull:cnt W listed=W.length:=za5 W.length (Yi _) fun m v hv=>by
   obtain⟨ao,h1,_⟩:=(hmemW v).1 (Yc hv);have hvl:v<ops.size:=by
    have:=zb1 h1
    grind
   have:=zfu hlexB hready hc.size v hvl;have:=zb1 hv
   grind
  rw[hfull]at hr;obtain⟨S,M,hr⟩:=hr;exact hQ _ a w hK ⟨S,M,hr⟩
 ·have h0:cnt W (Array.replicate ops.size false)=0:=za5 0 (Y4 _) fun m v hv=>by
   rw[getD_replicate_false];simp
  rw[h0,hH0,hC0];exact Zb1.drawn ⟨S,M,hrf⟩
end
end
section
open Go.RowKit
section
variable{cx:Cx}{Q:Exit->St->Prop}{st:St}
def zt0{hd tl:List AO}{h1:Heap}{c1:Nat}(h:Zc5 cx.P tl st.heap st.clk h1 c1 (Q .normal) false hd st.env):AWp cx (.drawT hd tl) Q st:=by
 intro code hc hm a w hr;have hcode:=hc;cases code<;>simp only[Zl]at hc<;>try cases hc
 case region id ops draw=>
  rcases zah hcode with ⟨_,l,_,h1⟩ | ⟨rfl,l,hl,⟨n,hn,h1⟩ | ⟨_,h1⟩ | ⟨n,_,h1⟩ | h1⟩<;>try (cases h1;done)
  cases h1;exact znu rfl hm hn hl h hr fun st' a' w' h1 h2=>⟨st',h1,h2⟩
 all_goals simp[Yf]at hc
def zt1{p:Nat}{l1 l2:List DO}{o:AO}(hcw:o.op.writes=false)(h:Zbo cx.P (l1.map (fun o=>(false,Zeh p o))++(true,⟨o,p,p⟩)::l2.map (fun o=>(false,Zeh p o))) st.env st.heap st.clk [] [] (Q .normal)):AWp cx (.draw (l1 ++ ⟨o,p,p⟩::l2)) Q st:=by
 intro code hc hm a w hr;have hcode:=hc;cases code<;>simp only[Zl]at hc<;>try cases hc
 case region id ops draw=>
  rcases zah hcode with ⟨_,l,_,h1⟩ | ⟨rfl,l,hl,⟨n,hn,h1⟩ | ⟨hok,h1⟩ | ⟨n,_,h1⟩ | h1⟩<;>try (cases h1;done)
  simp only[AC.draw.injEq]at h1;exact znv rfl hm hok hl h1.symm hcw h hr fun st' a' w' h1 h2=>⟨st',h1,h2⟩
 all_goals simp[Yf]at hc
end
end
section
open Go.RowKit
def Zjh(h h':Heap):Prop:=∀b bx,h'.lookup b=some bx->h.lookup b=some bx
def FK(P:Program)(aos:List AO)(c al s:Nat)(h0:Heap)(c0:Nat)(h1:Heap)(c1 ca0:Nat)(h0a:Heap)(ca:Nat)(hm:Heap)(cm:Nat)(h2:Heap)(c2:Nat)(i:Nat)(ρ:Nat->AV)(x:AV):Prop:=
 ∃ao,aos[i]? = some ao /\
  ((i=c/\Zdv P ao ρ h0 c0 x h1 c1/\∃hb cb,Zdv P ao ρ h0a ca x hb cb/\Zjh hb hm/\cb<=cm) \/
  (i=al/\ao.guard=none/\stepW ao.op ao.dst ρ h0 ca0=some (x,h0a,ca)/\∃ha,stepW ao.op ao.dst ρ h1 ca0=some (x,ha,ca)/\Zjh ha hm) \/
  (i=s/\ao.guard=none/\stepW ao.op ao.dst ρ hm cm=some (x,h2,c2)) \/
  (i≠c/\i≠al/\i≠s/\QF P h0 ao ρ x/\QF P h1 ao ρ x/\QF P h0a ao ρ x/\QF P hm ao ρ x))
section
variable{P:Program}{ops:Array Oper}{cx:Cx}{w:World}{a:Act}
def Zb1.sub{h h':Heap}{clk clk':Nat}{ρ:Nat->AV}(hs:Zjh h h')(hc:clk<=clk')(hr:Zb1 cx clk h ρ a w):Zb1 cx clk' h' ρ a w:=by
 obtain⟨S,M,hr⟩:=hr
 classical
 generalize hMb:(fun g=>if Live h' g then M g else none:Map)=Mb;have hMb1:∀g m,Mb g=some m->Live h' g/\M g=some m:=by
  grind
 have hMb2:∀g,Live h' g->Mb g=M g:=by grind
 have hx:Ext w S M clk w S Mb clk':=⟨fun _ _ hs=>hs,fun _ _ _ _ hc=>hc,hc,fun g m _ hm=>(hMb1 g m hm).2,fun _ _ arr _ _ _ hb=>⟨arr,hb,rfl⟩⟩;refine⟨S,Mb,hr.size,hr.defers,fun t=>(hr.env t).mono hx,⟨fun b bx hb=>?_,fun g m hm=>(hMb1 g m hm).1,fun b bx b' bx' h1 h2 hg=>?_,fun g g' k h1 h2=>hr.wr.heap.inj _ _ _ (hMb1 _ _ h1).2 (hMb1 _ _ h2).2⟩,hr.wr.ext.trans hx,hr.wr.fr,hr.wr.Snew,hr.wr.Slt,fun g k hm=>hr.wr.Mnew g k (hMb1 _ _ hm).2⟩
 ·have hl:Live h' bx.gen:=⟨b,bx,hb,rfl⟩;exact(hr.wr.heap.box b bx (hs b bx hb)).mono hx (hMb2 _ hl) (fun _ _=>rfl) fun _ _ _ hs=>hs
 ·exact hr.wr.heap.gens _ _ _ _ (hs _ _ h1) (hs _ _ h2) hg
def zdl{nt:Nat}{Q':Exit->Act->World->Prop}{i:Nat}{o:Oper}{ao:AO}{ρ:Nat->AV}{h0 h1:Heap}{c0 c1:Nat}{x:AV}{K:Act->World->Prop}(ho:ops[i]? = some o)(hnt:nt=cx.nt)
  (hao:Za6 P nt ops o=some ao) (hgn:ao.guard=none) (hst:stepW ao.op ao.dst ρ h0 c0=some (x,h1,c1)) (hr:Zb1 cx c0 h0 ρ a w) (hK:∀a' w',Zb1 cx c1 h1 (upd ρ o.dst x) a' w'->K a' w'):wpOp P ops Q' i K a w:=by
 obtain⟨S,M,hr⟩:=hr;subst hnt;obtain⟨op,g,hop,hg,rfl,hd⟩:=zag hao;simp only at hgn hst;subst hgn;obtain⟨v,w',S',M',h3,h4,h5⟩:=zb6 hop hr hst;have hfin:K (a.put o.dst v) w':=hK _ _ ⟨S',M',h4.put hd h5⟩;unfold wpOp;simp only[ho,zbj hg a,if_true];rcases h3 with h3 | ⟨h3,rfl⟩
 ·exact .inl (zcw h3 hfin)
 ·refine .inl ?_;unfold Oper.wp;rw[h3,Oper.upon_skip];exact hfin
def znw{nt id c al s:Nat}{aos:List AO}{st:St}{h1 h0a hm h2:Heap}{c1 ca0 ca cm c2:Nat}{K:St->Prop}{Q:Exit->Act->World->Prop}(hnt:nt=cx.nt)(hmo:P.follows .mixedOrders=true)(hB:Zco ops aos=true)
  (hres:Z8 P nt ops ops.toList=some aos) (hws:Zh aos=[al,s]) (hc:c<aos.length) (hcw:∀ao,aos[c]? = some ao->ao.op.writes=false) (hhi:∀i,i<aos.length->i≠al->i≠s->Zbx ops (Zh aos) i<=1)
  (e1:st.clk<=ca0) (e2:c1<=ca0) (e3:ca<=cm)
  (hlex:Zc3 ops (FK P aos c al s st.heap st.clk h1 c1 ca0 h0a ca hm cm h2 c2) (fun ρ=>∃e,ρ=Env.get e/\K ⟨e,h2,c2⟩) ops.toList 0 st.env.get)
  (hr:Rel cx st a w) (hQ:∀st' a' w',K st'->Rel cx st' a' w'->Q .normal a' w'):(Code.region id ops true).wp P Q a w:=by
 have hget':∀i o,ops[i]? = some o->∃ao,aos[i]? = some ao/\Za6 P nt ops o=some ao:=fun i o ho=>zau ops.toList aos hres i o (by grind);have hlen:=zav ops.toList aos hres;have hlen':aos.length=ops.size:=by simpa using hlen.symm
 obtain⟨S,M,hrf⟩:=hr;unfold Zco at hB;simp only[Yk,Yl]at hB;obtain⟨⟨hlexB,hch⟩,_⟩:=hB;have hsort:=zdc aos;have hmem:=fun k=>zbu aos k;rw[hws]at hch hhi hsort;have has:al<s:=by simpa using hsort
 have hals:al∈Zh aos/\s∈Zh aos:=by rw[hws];simp
 obtain⟨aoa,ha1,_⟩:=(hmem al).1 hals.1;obtain⟨aos',hs1,_⟩:=(hmem s).1 hals.2;have hsl:s<aos.length:=(Yr.1 hs1).1;have hall:al<aos.length:=(Yr.1 ha1).1;have hcal:c≠al:=fun h=>by
  obtain⟨ao,h3,h4⟩:=(hmem al).1 hals.1;rw[<-h]at h3;rw[hcw ao h3]at h4;cases h4
 have hcs:c≠s:=fun h=>by
  obtain⟨ao,h3,h4⟩:=(hmem s).1 hals.2;rw[<-h]at h3;rw[hcw ao h3]at h4;cases h4
 have alS:∀(listed:Array Bool),Clo .any ops listed->(listed.getD s false=true\/s∈Region.ready .any ops listed)->listed.getD al false=true:=by
  intro listed hcl hl;rcases hl with hl | hl
  ·exact zby hch hcl 1 0 al s rfl rfl hl
  ·obtain⟨o,ho,e,he,hb,hon⟩:=zcg [al,s] 0 al s hch rfl rfl;obtain⟨_,o',ho',hall'⟩:=mem_ready.1 hl;rw[ho]at ho';cases ho';have h3:=hall' e he hb
   rwa [hon]at h3
 have preS:∀(i:Nat),i<aos.length->i≠s->∀(listed:Array Bool),Clo .any ops listed->(listed.getD s false=true\/s∈Region.ready .any ops listed)->listed.getD i false=true:=by
  intro i hi his listed hcl hl;by_cases hia:i=al
  ·subst hia;exact alS listed hcl hl
  ·have h3:=hhi i hi hia his;unfold Zbx at h3;cases h4:Zad ops ops.size i al with
   | true=>exact zas hcl _ i al (.inl (alS listed hcl hl)) h4
   | false=>
    cases h5:Zad ops ops.size i s with
    | true=>exact zas hcl _ i s hl h5
    | false=>simp[h4,h5]at h3
 refine zct (F:=FK P aos c al s st.heap st.clk h1 c1 ca0 h0a ca hm cm h2 c2)
  (R:=fun listed ρ a w=>if listed.getD s false=true then Zb1 cx c2 h2 ρ a w else if listed.getD al false=true then (if listed.getD c false=true then Zb1 cx cm hm ρ a w else Zb1 cx ca h0a ρ a w) else (if listed.getD c false=true then Zb1 cx c1 h1 ρ a w else Zb1 cx st.clk st.heap ρ a w))
  (Q:=fun ρ=>∃e,ρ=Env.get e/\K ⟨e,h2,c2⟩) (ρ:=st.env.get) hmo hlexB ?_ ?_ ?_ ?_ hlex
 ·intro i o ho ρ ρ' hρ x ⟨ao,hao,hq⟩;obtain⟨ao',g1,g2⟩:=hget' i o ho;rw[hao]at g1;cases g1;refine⟨ao,hao,?_⟩;rcases hq with ⟨k1,k2,hb,cb,k3,k4⟩ | ⟨k1,k2,k3,ha,k4,k5⟩ | ⟨k1,k2,k3⟩ | ⟨k1,k2,k3,k4,k5,k6,k7⟩
  ·exact .inl ⟨k1,k2.congr g2 hρ,hb,cb,k3.congr g2 hρ,k4⟩
  ·obtain⟨op,g,hop,hg,rfl,_⟩:=zag g2;have hops:∀t,Operand.tmp t∈o.op.operands.toList->ρ t=ρ' t:=fun t ht=>hρ t (by
    grind[Oper.looksAt])
   exact .inr (.inl ⟨k1,k2,by rw[<-zbv hop hops];exact k3,ha,by rw[<-zbv hop hops];exact k4,k5⟩)
  ·obtain⟨op,g,hop,hg,rfl,_⟩:=zag g2;have hops:∀t,Operand.tmp t∈o.op.operands.toList->ρ t=ρ' t:=fun t ht=>hρ t (by
    grind[Oper.looksAt])
   exact .inr (.inr (.inl ⟨k1,k2,by rw[<-zbv hop hops];exact k3⟩))
  ·have quiet:∀h,QF P h ao ρ x->QF P h ao ρ' x:=by
    intro h hq;obtain⟨op,g,hop,hg,rfl,_⟩:=zag g2;have hops:∀t,Operand.tmp t∈o.op.operands.toList->ρ t=ρ' t:=fun t ht=>hρ t (by
     grind[Oper.looksAt])
    clear hlex hQ alS preS hhi hmem;unfold QF at hq ⊢;cases g with
    | none=>exact(zbq hop hops).1 hq
    | some tw=>
     grind[Zaz,map_some,Oper.looksAt,zbq]
   exact .inr (.inr (.inr ⟨k1,k2,k3,quiet _ k4,quiet _ k5,quiet _ k6,quiet _ k7⟩))
 ·intro i o ho listed ρ x a w K' hcl hi ⟨ao,hao,hq⟩ hr hK';obtain⟨ao',g1,g2⟩:=hget' i o ho;rw[hao]at g1;cases g1;have hun0:=(mem_ready.1 hi).1;have hun:¬ listed.getD i false=true:=by
   clear hlex hQ alS preS hhi hmem
   grind
  have hisz:i<listed.size:=by
   have h3:=hcl.size;have h4:i<ops.size:=(Ya7.1 ho).1;omega
  have hset:(listed.setIfInBounds i true).getD i false=true:=by simp[hisz]
  have hil:i<aos.length:=(Yr.1 hao).1;have hse:i≠s->¬ listed.getD s false=true:=fun his hl=>hun (preS i hil his listed hcl (.inl hl));rcases hq with ⟨rfl,k2,hb,cb,k3,k4,k5⟩ | ⟨rfl,k2,k3,ha,k4,k5⟩ | ⟨rfl,k2,k3⟩ | ⟨k1,k2,k3,k4,k5,k6,k7⟩
  ·have hns:=hse hcs;rw[getD_set_ne false hcs,getD_set_ne false hcal,hset]at hK';rw[if_neg hns]at hr;simp only[if_neg hns,if_true]at hK';rw[if_neg hun,if_neg hun]at hr;by_cases hla:listed.getD al false=true
   ·rw[if_pos hla]at hr;simp only[if_pos hla]at hK';exact zcm ho hnt g2 k3 hr fun a' w' h'=>hK' a' w' (h'.sub k4 k5)
   ·rw[if_neg hla]at hr;simp only[if_neg hla]at hK';exact zcm ho hnt g2 k2 hr hK'
  ·have hns:=hse (by omega);rw[getD_set_ne false (show i≠s by omega),getD_set_ne false (Ne.symm hcal),hset]at hK';rw[if_neg hns,if_neg hun]at hr;simp only[if_neg hns,if_true]at hK';by_cases hlc:listed.getD c false=true
   ·rw[if_pos hlc]at hr;simp only[if_pos hlc]at hK';exact zdl ho hnt g2 k2 k4 (hr.sub (fun _ _ h=>h) e2) fun a' w' h'=>hK' a' w' (h'.sub k5 e3)
   ·rw[if_neg hlc]at hr;simp only[if_neg hlc]at hK';exact zdl ho hnt g2 k2 k3 (hr.sub (fun _ _ h=>h) e1) hK'
  ·have hla:=preS al hall (by omega) listed hcl (.inr hi);have hlc:=preS c hc hcs listed hcl (.inr hi);rw[if_neg hun,if_pos hla,if_pos hlc]at hr;simp only[hset,if_true]at hK';exact zdl ho hnt g2 k2 k3 hr hK'
  ·have hns:=hse k3;rw[getD_set_ne false k1,getD_set_ne false k2,getD_set_ne false k3]at hK';rw[if_neg hns]at hr;simp only[if_neg hns]at hK';by_cases hla:listed.getD al false=true
   ·rw[if_pos hla]at hr;simp only[if_pos hla]at hK';by_cases hlc:listed.getD c false=true
    ·rw[if_pos hlc]at hr;simp only[if_pos hlc]at hK';exact za1 ho hnt g2 k7 hr hK'
    ·rw[if_neg hlc]at hr;simp only[if_neg hlc]at hK';exact za1 ho hnt g2 k6 hr hK'
   ·rw[if_neg hla]at hr;simp only[if_neg hla]at hK';by_cases hlc:listed.getD c false=true
    ·rw[if_pos hlc]at hr;simp only[if_pos hlc]at hK';exact za1 ho hnt g2 k5 hr hK'
    ·rw[if_neg hlc]at hr;simp only[if_neg hlc]at hK';exact za1 ho hnt g2 k4 hr hK'
 ·intro listed ρ a w hcl hready hr ⟨e,he,hK⟩;subst he;have hl:=zfu hlexB hready hcl.size s (by omega);rw[if_pos hl]at hr;obtain⟨S,M,hr⟩:=hr;exact hQ _ a w hK ⟨S,M,hr⟩
 ·simp only[getD_replicate_false];exact Zb1.drawn ⟨S,M,hrf⟩
end
end
section
open Go.RowKit
def QL(P:Program)(hs:List Heap):List AO->Env->Env->Prop
 | [],e,e'=>e=e'
 | o::r,e,e'=>∃x,(∀h∈hs,QF P h o e.get x)/\QL P hs r (Ze e o.dst x) e'
section
variable{P:Program}{ops:Array Oper}
def zgg{F:Nat->(Nat->AV)->AV->Prop}{Q:(Nat->AV)->Prop}{k:Nat}{o:Oper}{d:Option Nat}{e:Env}{x:AV}(ho:ops[k]? = some o)(hd:d=o.dst)(hF:F k e.get x)(h:Zc3 ops F Q (ops.toList.drop (k+1)) (k+1) (Ze e d x).get) :
  Zc3 ops F Q (ops.toList.drop k) k e.get:=by
 obtain⟨hk,hg⟩:=Ya7.1 ho;have e1:ops.toList.drop k=o::ops.toList.drop (k+1):=by
  rw[Yp (by simpa using hk)];congr 1
 rw[e1];refine⟨x,hF,?_⟩;rw[zbt,hd]at h;exact h
theorem znx{F:Nat->(Nat->AV)->AV->Prop}{Q:(Nat->AV)->Prop}{hs:List Heap}{aos:List AO}(hget:∀(k:Nat) (ao:AO),aos[k]? = some ao->∃o:Oper,ops[k]? = some o/\ao.dst=o.dst):∀(lq:List AO) (k:Nat) (e e':Env),(∀j ao,lq[j]? = some ao->aos[k+j]? = some ao) ->
  (∀j ao ρ x,lq[j]? = some ao->(∀h∈hs,QF P h ao ρ x)->F (k+j) ρ x)->QL P hs lq e e'->Zc3 ops F Q (ops.toList.drop (k+lq.length)) (k+lq.length) e'.get->Zc3 ops F Q (ops.toList.drop k) k e.get
 | [],k,e,e',_,_,hq,h=>by
  cases hq;exact h
 | ao::lq,k,e,e',ha,hF,⟨x,hx,hq⟩,h=>by
  obtain⟨o,ho,hd⟩:=hget k ao (ha 0 ao rfl);refine zgg ho hd (hF 0 ao _ x rfl hx) ?_;refine znx hget lq (k+1) _ e' (fun j b hb=>?_) (fun j b ρ y hb hy=>?_) hq ?_
  ·rw[show k+1+j=k+(j+1) by omega];exact ha (j+1) b hb
  ·rw[show k+1+j=k+(j+1) by omega];exact hF (j+1) b ρ y hb hy
  ·rw[show k+1+lq.length=k+(ao::lq).length by simp only[Yg];omega];exact h
def zt2(aos:List AO):(Zcp ops aos).map (·.ao)=aos:=by
 unfold Zcp;rw[Ybm];refine Ydx fun i=>?_;simp only[Yan,Yct,Ydv];cases aos[i]?<;>rfl
def zt3{aos:List AO}{i:Nat}{d:DO}(h:(Zcp ops aos)[i]? = some d):Zbx ops (Zh aos) i=d.hi:=by
 unfold Zcp at h;simp only[Yan,Yct,Ydv]at h;cases h1:aos[i]? with
 | none=>rw[h1]at h;cases h
 | some a=>
  rw[h1]at h;simp only[Ya1,Function.comp_apply,Option.some.injEq]at h;rw[<-h];simp
def zj5{A:List AO}{oa os:AO}(hA:∀o∈A,o.op.writes=false)(ha:oa.op.writes=true)(hs:os.op.writes=true):Zh (A++[oa,os])=[A.length,A.length+1]:=by
 unfold Zh;rw[List.zipIdx_append,List.filter_append,Yax];have h1:(A.zipIdx.filter fun p=>p.1.op.writes)=[]:=List.filter_eq_nil_iff.2 fun p hp=>by
  have:=hA p.1 (List.fst_mem_of_mem_zipIdx hp);simp[this]
 rw[h1];simp[ha,hs]
end
section
variable{cx:Cx}{Q:Exit->St->Prop}{st:St}
def zt4{l1 l2:List DO}{oc:AO}{da n:Nat}{cs:List AV}{xs vs:Opd}{h1 hb hm h2:Heap}{c1 cb cm:Nat}{e1 e2:Env}{x:AV}
  (hq:∀d∈l1++l2,d.hi<=1/\d.ao.op.writes=false) (hcw:oc.op.writes=false)
  (k1:QL cx.P [st.heap,h1,(.loc da,⟨c1,.str,cs.length,[cs]⟩)::st.heap,hm] (l1.map (·.ao)) st.env e1)
  (k2:Zdv cx.P oc e1.get st.heap st.clk x h1 c1) (k3:Zdv cx.P oc e1.get ((.loc da,⟨c1,.str,cs.length,[cs]⟩)::st.heap) (c1+1) x hb cb) (k3a:Zjh hb hm) (k3b:cb<=cm)
  (k4:QL cx.P [st.heap,h1,(.loc da,⟨c1,.str,cs.length,[cs]⟩)::st.heap,hm] (l2.map (·.ao)) (Ze e1 oc.dst x) e2)
  (k6:Zjh ((.loc da,⟨c1,.str,cs.length,[cs]⟩)::h1) hm)
  (k7:Zbf n hm (ev (Ze e2 (some da) (.ptr (.loc da) c1 cs.length 0 0)).get xs) (ev (Ze e2 (some da) (.ptr (.loc da) c1 cs.length 0 0)).get vs)=some h2)
  (hK:Q .normal ⟨Ze e2 (some da) (.ptr (.loc da) c1 cs.length 0 0),h2,cm⟩) (i1:st.clk<=c1) (i3:c1+1<=cm) :
  AWp cx (.draw (l1 ++ ⟨oc,0,1⟩::(l2++[⟨⟨some da,none,.alloc cs⟩,0,1⟩,⟨⟨none,none,.store n xs vs⟩,1,2⟩]))) Q st:=by
 intro code hc hmo a w hr;have hcode:=hc;cases code<;>simp only[Zl]at hc<;>try cases hc
 case region id ops draw=>
  rcases zah hcode with ⟨_,l,_,g1⟩ | ⟨rfl,aos,hl,⟨n,hn,g1⟩ | ⟨hok,g1⟩ | ⟨n,_,g1⟩ | g1⟩<;>try (cases g1;done)
  simp only[AC.draw.injEq]at g1;have hao:aos=l1.map (·.ao)++oc::(l2.map (·.ao)++[⟨some da,none,.alloc cs⟩,⟨none,none,.store n xs vs⟩]):=by
   rw[<-zt2 (ops:=ops) aos,<-g1];simp
  have hA:aos=(l1.map (·.ao)++oc::l2.map (·.ao))++[⟨some da,none,.alloc cs⟩,⟨none,none,.store n xs vs⟩]:=by rw[hao];simp
  have hw:Zh aos=[l1.length+1+l2.length,l1.length+1+l2.length+1]:=by
   rw[hA,zj5 (fun o ho=>?_) rfl rfl]
   ·simp only[Yq,Yw,Yg];simp only[Yap,Ybj 1]
   ·rcases Yaj.1 ho with ho | ho
    ·obtain⟨d,hd,rfl⟩:=Yy.1 ho;exact(hq d (Y3 _ hd)).2
    ·rcases Yn.1 ho with rfl | ho
     ·exact hcw
     ·obtain⟨d,hd,rfl⟩:=Yy.1 ho;exact(hq d (Ys _ hd)).2
  have hlen:=zav ops.toList aos hl;have hal:aos.length=l1.length+1+l2.length+2:=by
   rw[hao];simp only[Yq,Yw,Yg,Yam];omega
  have hget:∀(k:Nat) (ao:AO),aos[k]? = some ao->∃o:Oper,ops[k]? = some o/\ao.dst=o.dst:=fun k ao hk=>by
   have hk2:k<ops.size:=by
    have:=(Yr.1 hk).1;simp only[Ydl]at hlen;omega
   obtain⟨ao',g2,g3⟩:=zau ops.toList aos hl k (ops[k]'hk2) (by simp[hk2]);rw[hk]at g2;cases g2;obtain⟨op,g,_,_,rfl,_⟩:=zag g3;exact⟨_,by simp[hk2],rfl⟩
  have hc1:aos[l1.length]? = some oc:=by
   rw[hao,Ye (by simp)];simp
  have hAl:(l1.map (·.ao)++oc::l2.map (·.ao)).length=l1.length+1+l2.length:=by
   simp only[Yq,Yw,Yg];omega
  have ha1:aos[l1.length+1+l2.length]? = some ⟨some da,none,.alloc cs⟩:=by
   rw[hA,Ye (by omega),hAl,Ybe]
   rfl
  have hs1:aos[l1.length+1+l2.length+1]? = some ⟨none,none,.store n xs vs⟩:=by
   rw[hA,Ye (by omega),hAl,Ybv]
   rfl
  have q1:∀j ao,(l1.map (·.ao))[j]? = some ao->aos[0+j]? = some ao/\j<l1.length:=fun j ao hj=>by
   have h3:=(Yr.1 hj).1;rw[Yw]at h3;refine⟨?_,h3⟩;rw[hao,Yar,Yo (by simpa using h3)];exact hj
  have q2:∀j ao,(l2.map (·.ao))[j]? = some ao->aos[l1.length+1+j]? = some ao/\j<l2.length:=fun j ao hj=>by
   have h3:=(Yr.1 hj).1;rw[Yw]at h3;refine⟨?_,h3⟩;rw[hao,Ye (by simp;omega)];simp only[Yw];rw[show l1.length+1+j-l1.length=j+1 by omega,Yav,Yo (by simpa using h3)];exact hj
  have hhi:∀i,i<aos.length->i≠l1.length+1+l2.length->i≠l1.length+1+l2.length+1->Zbx ops (Zh aos) i<=1:=by
   intro i hi hia his;have hlt:i<(Zcp ops aos).length:=by
    unfold Zcp;simpa using hi
   obtain⟨d,hd⟩:∃d,(Zcp ops aos)[i]? = some d:=⟨_,Ya hlt⟩;rw[zt3 hd];rw[<-g1]at hd;rcases Ybd i l1.length with h3 | h3 | h3
   ·rw[Yo h3]at hd;exact(hq d (Y3 _ (Yc hd))).1
   ·rw[Ye (by omega),h3,Ybe,Ybw,Option.some.injEq]at hd;rw[<-hd];exact Yi _
   ·rw[Ye (by omega),show i-l1.length=(i-l1.length-1)+1 by omega,Yav,Yo (by omega)]at hd;exact(hq d (Ys _ (Yc hd))).1
  refine znw (c:=l1.length) (al:=l1.length+1+l2.length) (s:=l1.length+1+l2.length+1) (h1:=h1) (c1:=c1) (ca0:=c1) (h0a:=(.loc da,⟨c1,.str,cs.length,[cs]⟩)::st.heap) (ca:=c1+1) (hm:=hm) (cm:=cm) (h2:=h2) (c2:=cm) (K:=Q .normal) rfl hmo hok hl hw (by omega) (fun ao hao'=>by rw[hc1]at hao';cases hao';exact hcw) hhi i1 (Yi _) i3 ?_ hr fun st' a' w' g1 g2=>⟨st',g1,g2⟩;refine znx (P:=cx.P) (hs:=[st.heap,h1,(.loc da,⟨c1,.str,cs.length,[cs]⟩)::st.heap,hm]) hget (l1.map (·.ao)) 0 _ e1 (fun j ao hj=>(q1 j ao hj).1) (fun j ao ρ y hj hy=>?_) k1 ?_
  ·obtain⟨h3,h4⟩:=q1 j ao hj;exact⟨ao,h3,.inr (.inr (.inr ⟨by omega,by omega,by omega,hy _ (by simp),hy _ (by simp),hy _ (by simp),hy _ (by simp)⟩))⟩
  rw[Yar,Yw];obtain⟨o1,ho1,hd1⟩:=hget _ _ hc1;refine zgg ho1 hd1 ⟨oc,hc1,.inl ⟨rfl,k2,hb,cb,k3,k3a,k3b⟩⟩ ?_;refine znx (P:=cx.P) (hs:=[st.heap,h1,(.loc da,⟨c1,.str,cs.length,[cs]⟩)::st.heap,hm]) hget (l2.map (·.ao)) (l1.length+1) _ e2 (fun j ao hj=>(q2 j ao hj).1) (fun j ao ρ y hj hy=>?_) k4 ?_
  ·obtain⟨h3,h4⟩:=q2 j ao hj;exact⟨ao,h3,.inr (.inr (.inr ⟨by omega,by omega,by omega,hy _ (by simp),hy _ (by simp),hy _ (by simp),hy _ (by simp)⟩))⟩
  rw[Yw];obtain⟨o2,ho2,hd2⟩:=hget _ _ ha1;refine zgg (x:=.ptr (.loc da) c1 cs.length 0 0) ho2 hd2 ⟨_,ha1,.inr (.inl ⟨rfl,rfl,rfl,_,rfl,k6⟩)⟩ ?_;obtain⟨o3,ho3,hd3⟩:=hget _ _ hs1;refine zgg (x:=.tup []) ho3 hd3 ⟨_,hs1,.inr (.inr (.inl ⟨rfl,rfl,?_⟩))⟩ ?_
  ·show (Zbf n hm _ _).map (fun h'=>(AV.tup [],h',cm))=_;rw[k7]
   rfl
  ·have e3:ops.toList.drop (l1.length+1+l2.length+1+1)=[]:=Yc5 (by omega);rw[e3];exact⟨_,rfl,hK⟩
 all_goals simp[Yf]at hc
end
end
section
open Go.RowKit
mutual
def wkA:AV->AV
 | .sl els _=>.sl (wkL els) .an
 | .agg cs=>.agg (wkR cs)
 | .tup cs=>.tup (wkR cs)
 | .i k n=>.i k n
 | .b x=>.b x
 | .s l=>.s l
 | .raw v=>.raw v
 | .ep cs o=>.ep cs o
 | .bs id g z off n=>.bs id g z off n
 | .ptr id g z i o=>.ptr id g z i o
 | .ifc t x=>.ifc t x
 | .fnp f id g z i o=>.fnp f id g z i o
 | .fnv f x=>.fnv f (wkA x)
 | .dead=>.dead
def wkR:List AV->List AV
 | []=>[]
 | c::r=>wkA c::wkR r
def wkL:List (List AV)->List (List AV)
 | []=>[]
 | r::l=>wkR r::wkL l
end
def wkIf(ex:Bool)(x:AV):AV:=if ex then x else wkA x
def rlC(σn:BId->BId)(σg:Nat->Nat):AV->AV
 | .bs id g z off n=>.bs (σn id) (σg g) z off n
 | .ptr id g z i o=>.ptr (σn id) (σg g) z i o
 | .fnp f id g z i o=>.fnp f (σn id) (σg g) z i o
 | .agg _ | .tup _ | .ifc .. => .dead
 | x=>x
def rl1(σn:BId->BId)(σg:Nat->Nat):AV->AV
 | .agg cs=>.agg (cs.map (rlC σn σg))
 | x=>rlC σn σg x
def rlA(σn:BId->BId)(σg:Nat->Nat):AV->AV
 | .tup cs=>.tup (cs.map (rl1 σn σg))
 | x=>rl1 σn σg x
def rfC:AV->List BId
 | .bs id _ _ _ _=>[id]
 | .ptr id _ _ _ _=>[id]
 | .fnp _ id _ _ _ _=>[id]
 | _=>[]
def rf1:AV->List BId
 | .agg cs=>cs.flatMap rfC
 | x=>rfC x
def rfA:AV->List BId
 | .tup cs=>cs.flatMap rf1
 | x=>rf1 x
def Zaa(ex:Bool)(σn:BId->BId)(σg:Nat->Nat)(bx:Box):Box:=
 ⟨σg bx.gen,bx.kind,bx.z,if bx.kind=.str then bx.els.map fun r=>r.map fun c=>rlC σn σg (wkIf ex c) else if ex then bx.els else wkL bx.els⟩
def kids(h:Heap)(b:BId):List BId:=
 match h.lookup b with
 | some bx=>if bx.kind=.str then bx.els.flatMap fun r=>r.flatMap rfC else []
 | none=>[]
def Zfk(h:Heap):Nat->List BId->List BId->List BId
 | 0,_,acc=>acc
 | _,[],acc=>acc
 | n+1,b::todo,acc=>if acc.contains b then Zfk h n todo acc else Zfk h n (kids h b++todo) (acc++[b])
def Zk4:Nat->List BId
 | 0=>[]
 | k+1=>Zk4 k++[.bor k]
def Zdx(h:Heap)(ids:List BId):Heap:=ids.filterMap fun b=>(h.lookup b).map fun bx=>(b,bx)
def Zcb:Heap->Nat->Nat->Nat
 | [],_,j=>j
 | p::l,g,j=>if p.2.gen=g then j else Zcb l g (j+1)
def Zci(k:Nat)(hp:Heap)(g:Nat):Nat:=if g<=k then g else Zcb hp g (k+1)
def Zcu(ex:Bool)(k:Nat)(live:List Nat)(st:St):St:=
 let env:=live.map fun t=>(t,st.env.get t)
 let hp:=Zdx st.heap (Zfk st.heap 40 (Zk4 k++env.flatMap fun p=>rfA p.2) [])
 ⟨env.map fun p=>(p.1,rlA id (Zci k hp) (wkIf ex p.2)),hp.map fun p=>(p.1,Zaa ex id (Zci k hp) p.2),k+hp.length+2⟩
inductive Gh where
 | nil (t z:Nat)                      -- an empty list,told as a row of the call's own
 | frz (t:Nat)                        -- a row of the call's own,told as a value
 | norm (ex:Bool) (live:List Nat)
 | fld (t:Nat) (i o z:Nat)          -- an empty list in a field of the box that slot t points to
 | shr (t:Nat)                        -- a row of the call's own,stored into no more,but told as a row
 | opn (t j z:Nat)                    -- an empty list in a cell (slot j tells which) of the row in slot t,told as a row of the call's own
 | shi (t j:Nat)                      -- the row in such a cell,stored into no more
 | trm (live:List Nat)                -- these slots alone
 | shf (t:Nat) (i o:Nat)            -- the row in a field of the box that slot t points to,stored into no more
inductive AX where
 | skip
 | reg (ops:List AO)
 | draw (ops:List DO)
 | seq (a b:AX)
 | cond (c:Opd) (x y:AX)
 | block (id:Nat) (c:AX)
 | loop (c:AX)
 | exit (id:Nat)
 | ret
 | note (c:AX) (g:Gh)
 | pre (g:Gh) (c:AX)   -- ahead of c
 | scope (c:AX)
 | lp (id:Nat) (g:Gh) (c:AX) (g2:Gh)   -- a loop in its block: told by g ahead of it,by g2 behind
 | bad
 | drawT (hd tl:List AO)
 | drawM (hd tl:List AO)
 | prim (f:List AV->Option AV)   -- no code: a function known by its contract
 | label (l:Nat)
 | goto (l:Nat)
 | gsc (l:Nat) (c r:AX)   -- a scope,and what stands behind its label
 | drawC (l1:List AO) (o:AO) (l2 tl:List AO)   -- a drawn region and its tail,one call that may change boxes in its head
 | drawN (l1:List DO) (o:AO) (l2:List DO)      -- a drawn region,such a call ahead of all that writes
 | drawR (hd tl:List AO)   -- a drawn region and its tail,calls in its head that are handed shared rows of the call's own
 | drawP (l1:List DO) (o:AO) (l2:List DO) (da:Nat) (cs:List AV) (n:Nat) (xs vs:Opd)   -- such a call beside one new box,and a store behind all
def AX.isPrim:AX->Option (List AV->Option AV)
 | .prim f=>some f
 | _=>none
def AX.isBad:AX->Bool
 | .bad=>true
 | _=>false
def Zj0:Nat->String
 | 1=>"Of"
 | 2=>"Neg"
 | 3=>"Add"
 | 4=>"Sub"
 | 5=>"Mul"
 | 6=>"Quo"
 | 7=>"Pow"
 | 8=>"Fits"
 | _=>""
structure AFx where
 np:Nat
 nt:Nat
 res:List RV
 body:AX
 lent:Option (List Bool)
 exact:Bool
abbrev Tbl:=Nat->Option AFx
def Zhu(af:AFx):List (String×Nat):=af.res.filterMap fun r=>match r with | .cell j (some u)=>some (Zj0 j,u) | _=>none
def Zd(T:Tbl)(k:Nat):Nat:=match T (1000000+k) with | some af=>af.np | none=>0
def Zb5(T:Tbl)(k:Nat):List (String×Nat):=match T (1000000+k) with | some af=>if af.body.isBad then Zhu af else [] | none=>[]
def Zgh(T:Tbl)(k:Nat):Option Nat:=match T (1000000+k) with | some af=>if (af.body.isBad&&af.res.isEmpty)&&af.np != 0 then some af.nt else none | none=>none
def zz2{T:Tbl}{k u:Nat}(h:Zgh T k=some u):Zd T k≠0:=by
 unfold Zgh at h;unfold Zd;split at h
 ·split at h
  ·rename_i hc;rw[Yk]at hc;simpa using hc.2
  ·cases h
 ·cases h
inductive Ex where
 | n
 | x (id:Nat)
 | r
 | g (l:Nat)
def ghS(k:Nat)(g:Gh)(st:St):Option St:=
 match g with
 | .nil t z=>
  match st.env.get t with
  | .sl [] .nl=>some ⟨(t,.bs (.loc t) st.clk z 0 0)::st.env,(.loc t,⟨st.clk,.own,z,[]⟩)::st.heap,st.clk+1⟩
  | _=>none
 | .frz t=>(frz st.heap (st.env.get t)).map fun y=>⟨(t,y)::st.env,Zx (refs (st.env.get t)) st.heap,st.clk⟩
 | .norm ex live=>some (Zcu ex k live st)
 | .shr t=>(frz st.heap (st.env.get t)).map fun _=>⟨st.env,Zx (refs (st.env.get t)) st.heap,st.clk⟩
 | .trm live=>some ⟨live.map fun t=>(t,st.env.get t),st.heap,st.clk⟩
 | .opn t j z=>
  match st.env.get t,st.env.get j with
  | .bs b g z0 off _,.i _ v=>
   match Zac st.heap b g z0 with
   | some bx=>
    match bx.els[off+v.toNat]? with
    | some (.sl [] .nl::r)=>
     if bx.kind≠.sh/\(st.heap.lookup (.fld b (off+v.toNat))).isNone then
      some ⟨st.env,(b,{ bx with kind:=.str,els:=bx.els.set (off+v.toNat) (.bs (.fld b (off+v.toNat)) st.clk z 0 0::r) })::(.fld b (off+v.toNat),⟨st.clk,.own,z,[]⟩)::st.heap,st.clk+1⟩
     else none
    | _=>none
   | none=>none
  | _,_=>none
 | .shi t j=>
  match st.env.get t,st.env.get j with
  | .bs b g z0 off _,.i _ v=>
   match Zac st.heap b g z0 with
   | some bx=>
    match bx.els[off+v.toNat]? with
    | some (y::_)=>(frz st.heap y).map fun _=>⟨st.env,Zx (refs y) st.heap,st.clk⟩
    | _=>none
   | none=>none
  | _,_=>none
 | .shf t i o=>
  match st.env.get t with
  | .ptr b g z0 _ _=>
   match Zac st.heap b g z0 with
   | some bx=>
    match bx.els[i]? with
    | some r=>
     match r[o]? with
     | some y=>(frz st.heap y).map fun _=>⟨st.env,Zx (refs y) st.heap,st.clk⟩
     | none=>none
    | none=>none
   | none=>none
  | _=>none
 | .fld t i o z=>
  match st.env.get t with
  | .ptr b g z0 _ _=>
   match Zac st.heap b g z0 with
   | some bx=>
    match bx.els[i]? with
    | some r=>
     match r[o]? with
     | some (.sl [] .nl)=>
      if bx.kind=.str/\(st.heap.lookup (.fld b o)).isNone then
       some ⟨st.env,(b,{ bx with els:=bx.els.set i (r.set o (.bs (.fld b o) st.clk z 0 0)) })::(.fld b o,⟨st.clk,.own,z,[]⟩)::st.heap,st.clk+1⟩
      else none
     | _=>none
    | none=>none
   | none=>none
  | _=>none
structure Orc where
 call:Nat->List AV->Heap->Option (AV×Heap)
 loop:Nat->AX->St->Option (Ex×St)
def Zfv:List Bool->List AV->List BId
 | m::ms,x::xs=>(if m then rfA x else [])++Zfv ms xs
 | _,_=>[]
def Zeo:List BId->BId->Nat->Nat
 | [],_,j=>j
 | b::l,x,j=>if b=x then j else Zeo l x (j+1)
def inN(l:List BId)(b:BId):BId:=.bor (Zeo l b 0)
def inG(hp:Heap)(g:Nat):Nat:=Zcb hp g 0
def Zax(l:List BId)(d:Nat)(b:BId):BId:=
 match b with
 | .bor i=>l.getD i (.fld (.loc d) i)
 | .loc n=>.fld (.loc d) n
 | .fld b o=>.fld (.fld (.loc d) 0) (match b with | .loc n=>1000+1000*n+o | _=>o)
def Za7(hp:Heap)(clk:Nat)(g:Nat):Nat:=
 match hp[g]? with
 | some p=>p.2.gen
 | none=>clk+(g-hp.length)
def Zah(O:Orc)(T:Tbl)(u:Nat)(xs:List AV)(d:Option Nat)(st:St):Option St:=
 match T u with
 | none=>none
 | some af=>
  match af.lent with
  | none=>
   (xs.mapM (Zaw st.heap)).bind fun ys=>(O.call u (ys.map (wkIf af.exact)) []).bind fun r=>
    some ⟨Ze st.env d r.1,if scalar r.1 then st.heap else Zx (xs.flatMap refs) st.heap,st.clk⟩
  | some ms=>
   (Zhn st.heap ms xs).bind fun ys=>
    let h1:=Zx (Zc4 ms xs) st.heap
    let l:=Zfk h1 40 (Zfv ms xs) []
    let hp:=Zdx h1 l
    if hp.map (·.1)=l/\l.Nodup then
     (O.call u (ys.map fun y=>rlA (inN l) (inG hp) (wkIf af.exact y)) (hp.map fun p=>(inN l p.1,Zaa af.exact (inN l) (inG hp) p.2))).bind fun r=>
      let hb':=r.2.map fun p=>(Zax l (d.getD 0) p.1,Zaa true (Zax l (d.getD 0)) (Za7 hp st.clk) p.2)
      let r':=rlA (Zax l (d.getD 0)) (Za7 hp st.clk) r.1
      if (hb'.map (·.1)).Nodup&&Zb2 hb' r'&&Zgw hb' then
       some ⟨Ze st.env d r',hb'++(h1.filter fun p=>!(l.contains p.1 || (hb'.map (·.1)).contains p.1)),st.clk+r.2.length+2⟩
      else none
    else none
def opX(O:Orc)(T:Tbl)(op:AOp)(d:Option Nat)(st:St):Option St:=
 match op with
 | .call u args=>Zah O T u (args.map (ev st.env.get)) d st
 | .ifc k x=>some ⟨Ze st.env d (.ifc (Zd T k) (ev st.env.get x)),st.heap,st.clk⟩
 | .inv nm k u r args=>
  match ev st.env.get r with
  | .ifc t y=>if t=Zd T k/\(nm,u)∈Zb5 T k then Zah O T u (y::args.map (ev st.env.get)) d st else none
  | .fnv f x=>if nm="()"/\f=Zd T k/\Zgh T k=some u then Zah O T u (x::args.map (ev st.env.get)) d st else none
  | .fnp f id g z i o=>if nm="()"/\f=Zd T k/\Zgh T k=some u then Zah O T u (args.map (ev st.env.get)++[.ptr id g z i o]) d st else none
  | _=>none
 | .xop (.mkv k) xs=>(stepW (.xop (.mkv (Zd T k)) xs) d st.env.get st.heap st.clk).map fun q=>⟨Ze st.env d q.1,q.2.1,q.2.2⟩
 | .xop (.mkf k) xs=>(stepW (.xop (.mkf (Zd T k)) xs) d st.env.get st.heap st.clk).map fun q=>⟨Ze st.env d q.1,q.2.1,q.2.2⟩
 | .alloc .. | .store .. | .mks .. | .app .. | .xop .. => (stepW op d st.env.get st.heap st.clk).map fun q=>⟨Ze st.env d q.1,q.2.1,q.2.2⟩
 | .bsl z zs len ps=>(Zds z zs len st.heap (ps.map fun p=>(p.1,ev st.env.get p.2))).map fun q=>⟨Ze st.env d q.1,q.2,st.clk⟩
 | op=>(Zi op st.env.get st.heap).map fun x=>⟨Ze st.env d x,st.heap,st.clk⟩
def gX(O:Orc)(T:Tbl)(x:AV)(want:Bool)(op:AOp)(d:Option Nat)(st:St):Option St:=
 match x with
 | .b v=>if v=want then opX O T op d st else some ⟨Ze st.env d (.tup []),st.heap,st.clk⟩
 | .tup _=>some ⟨Ze st.env d (.tup []),st.heap,st.clk⟩
 | _=>none
def Zga(O:Orc)(T:Tbl)(o:AO)(st:St):Option St:=
 match o.guard with
 | none=>opX O T o.op o.dst st
 | some (t,want)=>gX O T (st.env.get t) want o.op o.dst st
def Zdf(O:Orc)(T:Tbl):List AO->St->Option St
 | [],st=>some st
 | o::r,st=>(Zga O T o st).bind (Zdf O T r)
open Classical in
noncomputable def Zfl(op:AOp)(e:Env)(older:List Heap)(x:AV):Bool:=op.free || decide (∀h'∈older,Zi op e.get h'=some x)
def zq4{op:AOp}{e:Env}{older:List Heap}{x:AV}(h:Zfl op e older x=true):op.free=true\/∀h'∈older,Zi op e.get h'=some x:=by
 classical
 unfold Zfl at h;rw[Yck]at h;rcases h with h | h
 ·exact .inl h
 ·exact .inr (of_decide_eq_true h)
noncomputable def opD(O:Orc)(T:Tbl)(op:AOp)(e:Env)(h:Heap)(older:List Heap):Option AV:=
 match op with
 | .call u args=>
  match T u with
  | none=>none
  | some af=>if af.lent.isNone&&(args.map (ev e.get)).all noRef then (O.call u ((args.map (ev e.get)).map (wkIf af.exact)) []).map (·.1) else none
 | .ifc k x=>some (.ifc (Zd T k) (ev e.get x))
 | .inv nm k u r args=>
  match ev e.get r with
  | .ifc t y=>
   if t=Zd T k/\(nm,u)∈Zb5 T k then
    match T u with
    | none=>none
    | some af=>if af.lent.isNone&&(drp1 y::args.map (ev e.get)).all noRef then (O.call u ((drp1 y::args.map (ev e.get)).map (wkIf af.exact)) []).map (·.1) else none
   else none
  | _=>none
 | .bsl z zs len ps=>
  if (ps.map fun p=>(p.1,ev e.get p.2)).all (fun p=>noRef p.2) then (Zds z zs len [] (ps.map fun p=>(p.1,ev e.get p.2))).map (·.1) else none
 | .app z (.c (.sl [] .nl)) y=>Zf8 z (ev e.get y)
 | op=>(Zi op e.get h).bind fun x=>if Zfl op e older x then some x else none
def zn0{O:Orc}{T:Tbl}{z:Nat}{x0 y:Opd}{e:Env}{h:Heap}{older:List Heap}(hc:x0≠.c (.sl [] .nl)):opD O T (.app z x0 y) e h older=none:=by
 cases x0 with
 | t n=>simp[opD,Zi]
 | c a=>
  cases a
  case sl els f=>
   cases els with
   | nil=>cases f<;>first | exact absurd rfl hc | simp[opD,Zi]
   | cons r l=>simp[opD,Zi]
  all_goals simp[opD,Zi]
noncomputable def qX(O:Orc)(T:Tbl)(o:AO)(e:Env)(h:Heap)(older:List Heap):Option (AV×Bool):=
 match o.guard with
 | none=>(opD O T o.op e h older).map fun x=>(x,true)
 | some (t,want)=>
  match e.get t with
  | .b v=>if v=want then (opD O T o.op e h older).map fun x=>(x,true) else some (.tup [],false)
  | .tup []=>some (.tup [],false)
  | _=>none
def AOp.callN:AOp->Option (Nat×List Opd)
 | .call u args=>some (u,args)
 | _=>none
def zq5{op:AOp}{q:Nat×List Opd}(h:op.callN=some q):op=.call q.1 q.2:=by
 cases op<;>simp only[AOp.callN]at h<;>cases h
 rfl
open Classical in
noncomputable def Zj1(xs:List AV)(h:Heap)(older:List Heap):Option (List AV):=
 if xs.all noRef=true then none else (Zb0 h xs).bind fun ys=>if decide (∀h'∈older,Zb0 h' xs=some ys)=true then some ys else none
noncomputable def Ze7(g:Option (Nat×Bool))(c:Option (Nat×List Opd))(e:Env)(h:Heap)(older:List Heap):Option (Nat×List AV):=
 match g,c with
 | none,some q=>(Zj1 (q.2.map (ev e.get)) h older).map fun ys=>(q.1,ys)
 | _,_=>none
def zfd{g:Option (Nat×Bool)}{op:AOp}{e:Env}{h:Heap}{older:List Heap}{p:Nat×List AV}(hq:Ze7 g op.callN e h older=some p) :
  g=none/\∃args,op=.call p.1 args/\Zb0 h (args.map (ev e.get))=some p.2/\∀h'∈older,Zb0 h' (args.map (ev e.get))=some p.2:=by
 classical
 unfold Ze7 at hq;split at hq
 ·rename_i q hc;obtain⟨ys,h1,rfl⟩:=map_some hq;refine⟨rfl,q.2,zq5 hc,?_⟩;unfold Zj1 at h1;split at h1
  ·cases h1
  ·obtain⟨zs,h2,h3⟩:=bind_some h1;split at h3
   ·rename_i hd;cases h3;exact⟨h2,of_decide_eq_true hd⟩
   ·cases h3
 ·cases hq
def Zdy(O:Orc)(T:Tbl)(u:Nat)(ys:List AV):Option AV:=
 match T u with
 | none=>none
 | some af=>if af.lent.isNone=true then (O.call u (ys.map (wkIf af.exact)) []).map (·.1) else none
def Zgb(op:AOp)(ρ:Nat->AV)(h:Heap):Option AV:=
 match op with
 | .call _ args=>(Zb0 h (args.map (ev ρ))).map .tup
 | op=>Zi op ρ h
abbrev Zae:=List (Nat×AOp×Env×AV)
open Classical in
noncomputable def Z9(pend:Zae)(h:Heap):Bool:=decide (∀p∈pend,0<p.1->Zgb p.2.1 p.2.2.1.get h=some p.2.2.2)
def Zbh(o:DO)(n:Nat)(e:Env)(r:AV×Bool)(pend:Zae):Zae:=
 if r.2&&!o.ao.op.free&&decide (n<o.hi) then (o.hi-n,o.ao.op,e,r.1)::pend else pend
noncomputable def Zbl(O:Orc)(T:Tbl):List DO->Env->Heap->Nat->List Heap->Zae->Option St
 | [],e,h,clk,_,_=>some ⟨e,h,clk⟩
 | o::r,e,h,clk,older,pend=>
  match o.ao.op.writes with
  | true=>if o.ao.guard.isNone then (stepW o.ao.op o.ao.dst e.get h clk).bind fun q=>if Z9 pend q.2.1 then Zbl O T r (Ze e o.ao.dst q.1) q.2.1 q.2.2 (h::older) (pend.map fun p=>(p.1-1,p.2)) else none else none
  | false=>
   match Ze7 o.ao.guard o.ao.op.callN e h (older.take (older.length-o.lo)) with
   | none=>(qX O T o.ao e h (older.take (older.length-o.lo))).bind fun x=>Zbl O T r (Ze e o.ao.dst x.1) h clk older (Zbh o older.length e x pend)
   | some p=>(Zdy O T p.1 p.2).bind fun x=>Zbl O T r (Ze e o.ao.dst x) h clk older (if older.length<o.hi then (o.hi-older.length,o.ao.op,e,.tup p.2)::pend else pend)
noncomputable def Zdz(O:Orc)(T:Tbl)(tl:List AO):List AO->Env->Heap->Nat->Option St
 | [],e,h,clk=>Zdf O T tl ⟨e,h,clk⟩
 | o::r,e,h,clk=>(qX O T o e h []).bind fun x=>Zdz O T tl r (Ze e o.dst x.1) h clk
noncomputable def Zce(O:Orc)(T:Tbl)(tl:List AO):List AO->Env->Heap->Nat->Option St
 | [],e,h,clk=>Zdf O T tl ⟨e,h,clk⟩
 | o::r,e,h,clk=>
  match Ze7 o.guard o.op.callN e h []with
  | none=>(qX O T o e h []).bind fun x=>Zce O T tl r (Ze e o.dst x.1) h clk
  | some p=>(Zdy O T p.1 p.2).bind fun x=>Zce O T tl r (Ze e o.dst x) h clk
def Zhg(c0:Nat)(op:AOp)(e:Env)(l:List Nat):Bool:=l.all fun g=>decide (g<c0) || (Zft op).any fun t=>(gnA (e.get t)).contains g
def Zhv(c0:Nat)(op:AOp)(e:Env)(hp:Heap):Bool:=hp.all fun p=>if p.2.kind=.str then p.2.els.all fun r=>r.all fun x=>Zhg c0 op e (gnA x) else true
def AOp.lentN:AOp->Option (Nat×List Opd)
 | .call u args=>if 2000<=u/\u<3000 then some (u,args) else none
 | _=>none
def geB(clk:Nat)(l:List Nat):Bool:=l.all fun g=>decide (clk<=g)
def geH(clk:Nat)(hp:Heap):Bool:=hp.all fun p=>if p.2.kind=.str then p.2.els.all fun r=>r.all fun x=>geB clk (gnA x) else true
def Ze1(O:Orc)(T:Tbl)(u:Nat)(xs:List AV)(d clk:Nat):Option (AV×Heap×Nat):=
 match T u with
 | none=>none
 | some af=>
  match af.lent with
  | none=>none
  | some _=>
   if xs.all noRef=true then
    (O.call u (xs.map fun y=>rlA (inN []) (inG []) (wkIf af.exact y)) []).bind fun r=>
     let hb':=r.2.map fun p=>(Zax [] d p.1,Zaa true (Zax [] d) (Za7 [] clk) p.2)
     let r':=rlA (Zax [] d) (Za7 [] clk) r.1
     if (hb'.map (·.1)).Nodup/\geB clk (gnA r')=true/\geH clk hb'=true then some (r',hb',clk+(r.2.length+2)) else none
   else none
def Zfw(h0:Heap)(op:AOp)(e:Env):Bool:=
 match op with
 | .store _ x _=>match ev e.get x with | .ptr id _ _ _ _=>(h0.lookup id).isNone | _=>false
 | _=>false
def Zlt:AV->List BId
 | .bs id .. => [id]
 | _=>[]
def Zep:List AO->Env->List BId
 | [],_=>[]
 | o::r,e=>
  match o.op with
  | .mov x=>Zep r (Ze e o.dst (ev e.get x))
  | .app _ x _=>Zlt (ev e.get x)++Zep r (Ze e o.dst .dead)
  | _=>Zep r (Ze e o.dst .dead)
def Zeu(ids:List BId)(h:Heap):Heap:=match ids with | []=>h | _=>h.filter fun p=>!ids.contains p.1
def Zj2(c0:Nat)(z x:Option Box)(b:BId)(o:Option Box):Option (BId×Box):=
 match z,x,o with
 | none,some _,some o=>if o.gen<c0 then some (b,o) else none
 | _,_,_=>none
def Zji(c0:Nat)(h0 X h:Heap):AV->Option (BId×Box)
 | .bs b _ _ _ _=>Zj2 c0 (h0.lookup b) (X.lookup b) b (h.lookup b)
 | _=>none
def Zg7(c0:Nat)(h0 X h:Heap)(op:AOp)(e:Env):Option (BId×Box):=
 match op with
 | .app _ x _=>Zji c0 h0 X h (ev e.get x)
 | _=>none
noncomputable def Zau(O:Orc)(T:Tbl)(tl:List AO)(h0:Heap)(c0:Nat)(X:Heap):List AO->Env->Heap->Nat->Option St
 | [],e,h,clk=>Zdf O T tl ⟨e,h,clk⟩
 | o::r,e,h,clk=>
  match o.op.maker with
  | true=>
   match o.guard,o.dst with
   | none,some d=>
    match Zg7 c0 h0 X h o.op e with
    | none=>(stepW o.op (some d) e.get [] clk).bind fun q=>if (h.lookup (.loc d)).isNone&&Zhv c0 o.op e q.2.1 then Zau O T tl h0 c0 X r (Ze e (some d) q.1) (q.2.1++h) q.2.2 else none
    | some p=>(stepW o.op (some d) e.get [p] clk).bind fun q=>if Zhv c0 o.op e (q.2.1.take 1) then Zau O T tl h0 c0 X r (Ze e (some d) q.1) (q.2.1.take 1++h) q.2.2 else none
   | _,_=>none
  | false=>
   match o.op.isStore with
   | true=>
    match o.guard,o.dst with
    | none,none=>(stepW o.op none e.get h clk).bind fun q=>if Zfw X o.op e=true then Zau O T tl h0 c0 X r e q.2.1 q.2.2 else none
    | _,_=>none
   | false=>
    match o.op.lentN with
    | some ua=>
     match o.guard,o.dst with
     | none,some d=>(Ze1 O T ua.1 (ua.2.map (ev e.get)) d clk).bind fun q=>if q.2.1.all (fun p=>(h.lookup p.1).isNone)=true then Zau O T tl h0 c0 X r (Ze e (some d) q.1) (q.2.1++h) q.2.2 else none
     | _,_=>none
    | none=>(qX O T o e h0 []).bind fun x=>if Zhg c0 o.op e (gnA x.1) then Zau O T tl h0 c0 X r (Ze e o.dst x.1) h clk else none
noncomputable def Zc6(O:Orc)(T:Tbl)(K:Env->Zae->Option St)(h:Heap):List DO->Env->Zae->Option St
 | [],e,pend=>K e pend
 | o::r,e,pend=>
  match o.ao.op.writes with
  | true=>none
  | false=>(qX O T o.ao e h []).bind fun x=>Zc6 O T K h r (Ze e o.ao.dst x.1) (Zbh o 0 e x pend)
noncomputable def Zc7(O:Orc)(T:Tbl)(K:Env->Option St)(h0 h1:Heap):List AO->Env->Option St
 | [],e=>K e
 | o::r,e=>
  match o.op.writes with
  | true=>none
  | false=>(qX O T o e h1 [h0]).bind fun x=>Zc7 O T K h0 h1 r (Ze e o.dst x.1)
def Zed(O:Orc)(T:Tbl)(o:AO)(st:St):Option St:=
 match o.guard,o.dst,o.op with
 | none,some d,.call u args=>Zah O T u (args.map (ev st.env.get)) (some d) st
 | _,_,_=>none
noncomputable def Zgc(O:Orc)(T:Tbl)(l1:List AO)(o:AO)(l2 tl:List AO)(st:St):Option St:=
 Zc6 O T (fun e pend=>(Zed O T o ⟨e,st.heap,st.clk⟩).bind fun s=>if Z9 pend s.heap then Zc7 O T (fun e2=>Zdf O T tl ⟨e2,s.heap,s.clk⟩) st.heap s.heap l2 s.env else none) st.heap (l1.map fun o=>⟨o,0,1⟩) st.env []
noncomputable def Zgd(O:Orc)(T:Tbl)(l1:List DO)(o:AO)(l2:List DO)(st:St):Option St:=
 if o.op.writes=true then none else Zc6 O T (fun e pend=>(Zed O T o ⟨e,st.heap,st.clk⟩).bind fun s=>if Z9 pend s.heap then Zbl O T (l2.map (Zeh 0)) s.env s.heap s.clk [st.heap] (pend.map fun p=>(p.1-1,p.2)) else none) st.heap (l1.map (Zeh 0)) st.env []
noncomputable def Zc8(O:Orc)(T:Tbl)(K:Env->Option St)(hs:List Heap)(h1:Heap):List AO->Env->Option St
 | [],e=>K e
 | o::r,e=>
  match o.op.writes with
  | true=>none
  | false=>(qX O T o e h1 hs).bind fun x=>Zc8 O T K hs h1 r (Ze e o.dst x.1)
open Classical in
noncomputable def Zk5(h h':Heap):Bool:=decide (∀p∈h',h.lookup p.1=some p.2)
open Classical in
noncomputable def Zj3(c0:Nat)(s1 s2:St):Bool:=decide (s2.env=s1.env/\c0<=s1.clk/\s1.clk+1<=s2.clk)
def Zh5(l:List DO):Bool:=l.all fun d=>decide (d.hi<=1)
noncomputable def Ze2(O:Orc)(T:Tbl)(l1:List DO)(o:AO)(l2:List DO)(da:Nat)(cs:List AV)(n:Nat)(xs vs:Opd)(st:St):Option St:=
 if (Zh5 l1&&Zh5 l2&&!o.op.writes)=true then
  Zc6 O T (fun e pend=>(Zed O T o ⟨e,st.heap,st.clk⟩).bind fun s1=>
   (Zed O T o ⟨e,(.loc da,⟨s1.clk,.str,cs.length,[cs]⟩)::st.heap,s1.clk+1⟩).bind fun s2=>
    if (Z9 pend s1.heap&&Z9 pend ((.loc da,⟨s1.clk,.str,cs.length,[cs]⟩)::st.heap)&&Z9 pend s2.heap&&(Zj3 st.clk s1 s2&&Zk5 ((.loc da,⟨s1.clk,.str,cs.length,[cs]⟩)::s1.heap) s2.heap))=true then
     Zc8 O T (fun e2=>(Zbf n s2.heap (ev (Ze e2 (some da) (.ptr (.loc da) s1.clk cs.length 0 0)).get xs) (ev (Ze e2 (some da) (.ptr (.loc da) s1.clk cs.length 0 0)).get vs)).map fun h2=>⟨Ze e2 (some da) (.ptr (.loc da) s1.clk cs.length 0 0),h2,s2.clk⟩)
      [st.heap,s1.heap,(.loc da,⟨s1.clk,.str,cs.length,[cs]⟩)::st.heap] s2.heap (l2.map (·.ao)) s1.env
    else none) st.heap (l1.map fun o=>⟨o.ao,0,1⟩) st.env []
 else none
def Zj4(f:St->Option (Ex×St))(l:Nat):Nat->Option (Ex×St)->Option (Ex×St)
 | 0,_=>none
 | n+1,o=>o.bind fun x=>match x.1 with | .g j=>if j=l then Zj4 f l n (f x.2) else none | _=>some x
noncomputable def evX(O:Orc)(T:Tbl)(k:Nat):AX->St->Option (Ex×St)
 | .skip,st=>some (.n,st)
 | .reg l,st=>(Zdf O T l st).map fun s=>(.n,s)
 | .draw l,st=>(Zbl O T l st.env st.heap st.clk [] []).map fun s=>(.n,s)
 | .drawT hd tl,st=>(Zdz O T tl hd st.env st.heap st.clk).map fun s=>(.n,s)
 | .drawM hd tl,st=>(Zau O T tl (Zeu (Zep hd st.env) st.heap) st.clk st.heap hd st.env st.heap st.clk).map fun s=>(.n,s)
 | .drawC l1 o l2 tl,st=>(Zgc O T l1 o l2 tl st).map fun s=>(.n,s)
 | .drawN l1 o l2,st=>(Zgd O T l1 o l2 st).map fun s=>(.n,s)
 | .drawR hd tl,st=>(Zce O T tl hd st.env st.heap st.clk).map fun s=>(.n,s)
 | .drawP l1 o l2 da cs n xs vs,st=>(Ze2 O T l1 o l2 da cs n xs vs st).map fun s=>(.n,s)
 | .bad,_=>none
 | .prim _,_=>none
 | .seq a b,st=>(evX O T k a st).bind fun r=>match r.1 with | .n=>evX O T k b r.2 | _=>some r
 | .cond c x y,st=>match ev st.env.get c with | .b t=>if t then evX O T k x st else evX O T k y st | _=>none
 | .block id c,st=>(evX O T k c st).bind fun r=>match r.1 with | .x j=>if j=id then some (.n,r.2) else some r | _=>some r
 | .loop c,st=>O.loop k c st
 | .exit id,st=>some (.x id,st)
 | .ret,st=>some (.r,st)
 | .note c g,st=>(evX O T k c st).bind fun r=>match r.1 with | .n=>(ghS k g r.2).map fun s=>(.n,s) | _=>some r
 | .pre g c,st=>(ghS k g st).bind fun s=>evX O T k c s
 | .scope c,st=>(evX O T k c st).bind fun r=>match r.1 with | .g _=>none | _=>some r
 | .lp id g c g2,st=>(ghS k g st).bind fun s=>(O.loop k c s).bind fun r=>match r.1 with | .n=>(ghS k g2 r.2).map fun s=>(.n,s) | .x j=>if j=id then (ghS k g2 r.2).map fun s=>(.n,s) else some r | _=>some r
 | .label _,st=>some (.n,st)
 | .goto l,st=>some (.g l,st)
 | .gsc l c r,st=>Zj4 (fun s=>evX O T k r s) l 100 (evX O T k c st)
def Zj5(af:AFx)(k:Nat)(r:Ex×St):Option (AV×Heap):=
 match r.1 with
 | .x _=>none
 | .g _=>none
 | _=>
  (Zcl r.2 af.res).bind fun x=>
  match af.lent with
  | none=>(frz r.2.heap x).map fun y=>(wkIf af.exact y,[])
  | some _=>let s:=Zcu af.exact k [0] ⟨[(0,x)],r.2.heap,r.2.clk⟩;some (s.env.get 0,s.heap)
noncomputable def Zcv(T:Tbl)(O:Orc):Orc where
 call u xs hb:=
  match T u with
  | none=>none
  | some af=>
   match af.body.isPrim with
   | some f=>if hb=[]/\af.lent=none then (f xs).map fun x=>(x,[]) else none
   | none=>if xs.length=af.np/\(af.lent=none->hb=[]) then (evX O T hb.length af.body ⟨Zca xs,hb,hb.length+1⟩).bind (Zj5 af hb.length) else none
 loop k c st:=(evX O T k c st).bind fun r=>match r.1 with | .n=>O.loop k c r.2 | _=>some r
noncomputable def orcN(T:Tbl):Nat->Orc
 | 0=>⟨fun _ _ _=>none,fun _ _ _=>none⟩
 | n+1=>Zcv T (orcN T n)
end
end Go.Ab