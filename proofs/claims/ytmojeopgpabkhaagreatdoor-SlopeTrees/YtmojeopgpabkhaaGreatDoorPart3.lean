/-
  A calculus of values, boxes and code, and what functions of the program compute, proved in it.
  Conditions: none beyond those that the theorems state. (Part 3.)
-/
import Derived.Test.YtmojeopgpabkhaaGreatDoorPart2

set_option linter.unusedSectionVars false
set_option linter.unusedVariables false
set_option linter.unusedSimpArgs false
set_option linter.unnecessarySimpa false
set_option linter.defProp false
set_option maxRecDepth 100000

namespace Go.Ab
section
open Go.RowKit
theorem zjx(l:List AV)(j:Nat):(wkR l)[j]? = (l[j]?).map wkA:=by
 induction l generalizing j with
 | nil=>simp[wkR]
 | cons c l ih=>cases j<;>simp[wkR,ih]
theorem zjy(l:List AV):(wkR l).length=l.length:=by
 induction l with
 | nil=>rfl
 | cons c l ih=>simp[wkR,ih]
theorem zjz(l:List AV):wkR l=l.map wkA:=by
 induction l with
 | nil=>rfl
 | cons c l ih=>simp[wkR,ih]
theorem zav(l:List (List AV)):wkL l=l.map wkR:=by
 induction l with
 | nil=>rfl
 | cons c l ih=>simp[wkL,ih]
theorem zyw(l:List (List AV))(j:Nat):(wkL l)[j]? = (l[j]?).map wkR:=by rw[zav];simp
theorem zm0(l:List (List AV)):(wkL l).length=l.length:=by rw[zav];simp
section
variable{w:World}{S:Nat->Nat->Prop}{M M':Map}{clk clk':Nat}
def CP.wk{v:Value}{x:AV}(h:CP w S v x):CP w S v (wkA x):=by
 induction h with
 | i k n=>exact .i k n
 | b x=>exact .b x
 | s l=>exact .s l
 | raw v=>exact .raw v
 | dead v=>exact .dead v
 | agg vs cs hl h1 _ ih=>
  refine .agg vs _ (by rw[zjy];omega) h1 fun j v c hv hc=>?_
  grind[zjx]
 | tup vs cs hl _ ih=>
  refine .tup vs _ (by rw[zjy];omega) fun j v c hv hc=>?_
  grind[zjx]
 | slnil f hf=>exact .slnil _ (.inr rfl)
 | slz a f hf=>exact .slz a _ (.inr rfl)
 | sl blk off z cap els f u hf hfull hcap hmax hz hSc _ ih=>
  rw[<-zm0 els];refine .sl blk off z cap _ _ u (by grind) (by grind) (by rw[zm0];omega) hmax (fun i r hr=>?_) (fun i j hi hj=>hSc i j (by rw[zm0]at hi;omega) hj) fun i r j c hr hc=>?_
  ·grind[zyw,zjy]
  grind[zyw,zjx]
 | ep blk off cs o u hSc _ ih=>exact .ep blk off cs o u hSc ‹_›
 | fnv f v x _ ih=>exact .fnv f v _ ih
def C.wk{v:Value}{x:AV}(h:C w S M clk v x):C w S M clk v (wkA x):=by
 induction h with
 | p h=>exact .p h.wk
 | bs id g z off n v hg h h1=>exact .bs id g z off n v hg h h1
 | ptr id g z i o v hg h h1=>exact .ptr id g z i o v hg h h1
 | agg vs cs hl h1 _ ih=>
  refine .agg vs _ (by rw[zjy];omega) h1 fun j v c hv hc=>?_
  grind[zjx]
 | tup vs cs hl _ ih=>
  refine .tup vs _ (by rw[zjy];omega) fun j v c hv hc=>?_
  grind[zjx]
 | ifc t v x h _=>exact .ifc t v x h
 | fnp f id g z i o v hg h h1=>exact .fnp f id g z i o v hg h h1
theorem CP.wkIf{v:Value}{x:AV}(ex:Bool)(h:CP w S v x):CP w S v (wkIf ex x):=by
 unfold Go.Ab.wkIf;split
 ·exact h
 ·exact h.wk
theorem C.wkIf{v:Value}{x:AV}(ex:Bool)(h:C w S M clk v x):C w S M clk v (wkIf ex x):=by
 unfold Go.Ab.wkIf;split
 ·exact h
 ·exact h.wk
structure Rlb (M M':Map) (clk clk':Nat) (σ:Nat->Nat):Prop where
 fwd:∀g,g<clk->(M' (σ g)=M g\/M' (σ g)=none)/\σ g<clk'
theorem C.rlC{v:Value}{x:AV}{σn:BId->BId}{σg:Nat->Nat}(hr:Rlb M M' clk clk' σg)(h:C w S M clk v x):C w S M' clk' v (rlC σn σg x):=by
 cases h with
 | p h=>
  cases h with
  | i k n=>exact .p (.i k n)
  | b x=>exact .p (.b x)
  | s l=>exact .p (.s l)
  | raw v=>exact .p (.raw v)
  | dead v=>exact .p (.dead v)
  | agg=>exact .p (.dead _)
  | tup=>exact .p (.dead _)
  | slnil f hf=>exact .p (.slnil f hf)
  | slz a f hf=>exact .p (.slz a f hf)
  | sl blk off z cap els f u h1 h2 h3 h4 h5 h6 h7=>exact .p (.sl blk off z cap els f u h1 h2 h3 h4 h5 h6 h7)
  | ep blk off cs o u h1 h2=>exact .p (.ep blk off cs o u h1 h2)
  | fnv f v x h=>exact .p (.fnv f v x h)
 | bs id g z off n v hg h h1=>
  obtain⟨h2,h3⟩:=hr.fwd g hg;refine .bs _ _ _ _ _ _ h3 ?_ h1;rcases h2 with h2 | h2<;>rw[h2]
  ·exact h
  ·trivial
 | ptr id g z i o v hg h h1=>
  obtain⟨h2,h3⟩:=hr.fwd g hg;refine .ptr _ _ _ _ _ _ h3 ?_ h1;rcases h2 with h2 | h2<;>rw[h2]
  ·exact h
  ·trivial
 | fnp f id g z i o v hg h h1=>
  obtain⟨h2,h3⟩:=hr.fwd g hg;refine .fnp _ _ _ _ _ _ _ h3 ?_ h1;rcases h2 with h2 | h2<;>rw[h2]
  ·exact h
  ·trivial
 | agg vs cs=>exact .p (.dead _)
 | tup vs cs=>exact .p (.dead _)
 | ifc t v x=>exact .p (.dead _)
theorem getElem?_mapped{α β:Type}{l:List α}{f:α->β}{j:Nat}{y:β}(h:(l.map f)[j]? = some y):∃x,l[j]? = some x/\y=f x:=by
 grind
theorem C.rl1{v:Value}{x:AV}{σn:BId->BId}{σg:Nat->Nat}(hr:Rlb M M' clk clk' σg)(h:C w S M clk v x):C w S M' clk' v (rl1 σn σg x):=by
 cases x
 case agg cs=>
  obtain⟨vs,rfl,hl,h1,hc⟩:=h.inv_agg;refine .agg vs _ (by grind) h1 fun j v c hv hcj=>?_
  grind[rlC]
 all_goals exact h.rlC (σn:=σn) hr
def C.rlA{v:Value}{x:AV}{σn:BId->BId}{σg:Nat->Nat}(hr:Rlb M M' clk clk' σg)(h:C w S M clk v x):C w S M' clk' v (rlA σn σg x):=by
 cases x
 case tup cs=>
  obtain⟨vs,rfl,hl,hc⟩:=h.inv_tup;refine .tup vs _ (by grind) fun j v c hv hcj=>?_
  grind[rl1]
 all_goals exact h.rl1 (σn:=σn) hr
def Zcq.rl{bx:Box}{ex:Bool}{σn:BId->BId}{σg:Nat->Nat}(hr:Rlb M M' clk clk' σg)(hM:M' (σg bx.gen)=M bx.gen)(h:Zcq w S M clk bx):Zcq w S M' clk' (Zat ex σn σg bx):=by
 obtain⟨h1,h2,m,hm,h3⟩:=h
 -- each row of the new box
 have row:∀(i:Nat) (r:List AV),(Zat ex σn σg bx).els[i]? = some r->∃r0,bx.els[i]? = some r0/\r.length=r0.length/\∀(j:Nat) c,r[j]? = some c->∃c0,r0[j]? = some c0 /\
   ((bx.kind=.str/\c=Go.Ab.rlC σn σg (wkIf ex c0))\/(bx.kind≠.str/\c=wkIf ex c0)):=by
  grind[Zat,getElem?_mapped,wkIf,zav,zjz]
 have hlen:(Zat ex σn σg bx).els.length=bx.els.length:=by
  grind[Zat,zm0]
 refine⟨(hr.fwd _ h1).2,fun r hrm=>?_,m,by rw[<-hm];exact hM,?_⟩
 ·obtain⟨i,hi⟩:=Yam hrm;obtain⟨r0,h4,h5,_⟩:=row i r hi;rw[h5];exact h2 r0 (Yd h4)
 ·cases m with
  | none=>
   grind[Zat]
  | some k=>
   have hkk:(Zat ex σn σg bx).kind=bx.kind:=rfl;by_cases hmp:bx.kind=.mp
   ·obtain⟨es,c,h4,h5,h7⟩:=ckP' hmp h3;refine ckP (hkk.trans hmp) ⟨es,c,h4,?_,h7⟩;have hels:(Zat ex σn σg bx).els=if ex then bx.els else wkL bx.els:=by simp[Zat,hmp]
    rw[hels];cases ex with
    | true=>simpa using h5
    | false=>
     have h8:=Zfo.map (f:=wkA) (fun v x hv=>CP.wk hv) h5;simp only[Yah,if_false,zav]
     rwa [show wkR=fun r:List AV=>r.map wkA from funext zjz]
   obtain⟨arr,e,h4,h5,h6,h7,h8⟩:=ck' hmp h3;refine ck (by rw[hkk];exact hmp) ⟨arr,e,h4,by rw[hlen];exact h5,fun i r j c hi hj=>?_,h7,by rw[hlen];exact h8⟩;obtain⟨r0,h9,h10,h11⟩:=row i r hi;obtain⟨c0,h12,h13⟩:=h11 j c hj;obtain⟨u,hu,ho,hC,hP⟩:=h6 i r0 j c0 h9 h12;refine⟨u,hu,ho,?_,fun hk=>?_⟩
   ·rcases h13 with ⟨hk,rfl⟩ | ⟨hk,rfl⟩
    ·exact(hC.wkIf ex).rlC hr
    ·exact .p ((hP hk).wkIf ex)
   ·rcases h13 with ⟨hk',rfl⟩ | ⟨hk',rfl⟩
    ·exact absurd hk' hk
    ·exact(hP hk).wkIf ex
def HeapRel.rl{h h2:Heap}{ex:Bool}{σn:BId->BId}{σg:Nat->Nat}{D:Nat->Prop}(hr:Rlb M M' clk clk' σg)(hh:HeapRel w S M clk h)
  (h1:∀b' bx',h2.lookup b'=some bx'->∃b bx,h.lookup b=some bx/\bx'=Zat ex σn σg bx/\M' (σg bx.gen)=M bx.gen/\b'=σn b/\D bx.gen)
  (h3:∀g' m,M' g'=some m->∃b' bx',h2.lookup b'=some bx'/\bx'.gen=g')
  (h4:∀g1 g2,D g1->D g2->σg g1=σg g2->g1=g2)
  (h5:∀g' m,M' g'=some m->∃g,M g=some m/\σg g=g'):HeapRel w S M' clk' h2:=by
 refine⟨fun b' bx' hb=>?_,h3,fun b1 x1 b2 x2 hb1 hb2 hg=>?_,fun g g' k hg hg'=>?_⟩
 ·obtain⟨b,bx,h6,rfl,h7,_⟩:=h1 b' bx' hb;exact(hh.box b bx h6).rl hr h7
 ·obtain⟨c1,y1,h6,rfl,_,rfl,d1⟩:=h1 b1 x1 hb1;obtain⟨c2,y2,h8,rfl,_,rfl,d2⟩:=h1 b2 x2 hb2;rw[hh.gens _ _ _ _ h6 h8 (h4 _ _ d1 d2 hg)]
 ·obtain⟨g1,h6,rfl⟩:=h5 _ _ hg;obtain⟨g2,h7,rfl⟩:=h5 _ _ hg';rw[hh.inj _ _ _ h6 h7]
def WRel.rl{cx:Cx}{h h2:Heap}{ex:Bool}{σn:BId->BId}{σg:Nat->Nat}{D:Nat->Prop}(hr:Rlb M M' clk clk' σg)(hw:WRel cx S M clk h w)(hc:cx.clk0<=clk')
  (h0:∀g m,g<cx.clk0->M' g=some m->M g=some m)
  (h1:∀b' bx',h2.lookup b'=some bx'->∃b bx,h.lookup b=some bx/\bx'=Zat ex σn σg bx/\M' (σg bx.gen)=M bx.gen/\b'=σn b/\D bx.gen)
  (h3:∀g' m,M' g'=some m->∃b' bx',h2.lookup b'=some bx'/\bx'.gen=g')
  (h4:∀g1 g2,D g1->D g2->σg g1=σg g2->g1=g2)
  (h5:∀g' m,M' g'=some m->∃g,M g=some m/\σg g=g'):WRel cx S M' clk' h2 w:=
 ⟨hw.heap.rl hr h1 h3 h4 h5,⟨hw.ext.hS,hw.ext.hcell,hc,fun g m hg hm=>hw.ext.hM g m hg (h0 g m hg hm),fun g k arr e hg hm hb=>hw.ext.hblk g k arr e hg (h0 g _ hg hm) hb⟩,hw.fr,hw.Snew,hw.Slt,
  fun g k hm=>let ⟨g1,h6,_⟩:=h5 g _ hm;hw.Mnew g1 k h6⟩
end
end
section
open Go.RowKit
section
variable{α β:Type}{P:Program}{K:St->Prop}
@[simp] def zagh(t d:Nat)(x:AV)(e:Env):Env.get ((d,x)::e) t=if t=d then x else e.get t:=by
 simp only[Env.get,Yay];by_cases h:t=d
 ·subst h;simp
 ·have:(t == d)=false:=by simpa using h
  simp[this,h]
@[simp] def zajy(t:Nat):Env.get [] t=.dead:=rfl
@[simp] def zagi{st:St}:Zew P [] st K↔K st:=Iff.rfl
@[simp] def zabz{o:AO}{l:List AO}{st:St}:Zew P (o::l) st K↔Zi1 P o st fun st'=>Zew P l st' K:=Iff.rfl
@[simp] def z94{d:Option Nat}{op:AOp}{st:St}:Zi1 P ⟨d,none,op⟩ st K↔opK P op d st K:=Iff.rfl
@[simp] def zab0(e:Env)(x:AV):Zi e none x=e:=rfl
@[simp] def zab1(e:Env)(d:Nat)(x:AV):Zi e (some d) x=(d,x)::e:=rfl
@[simp] def ev_t(e:Nat->AV)(n:Nat):ev e (.t n)=e n:=rfl
@[simp] def ev_c(e:Nat->AV)(x:AV):ev e (.c x)=x:=rfl
@[simp] def z5k{N:St->Prop}{Q:Exit->St->Prop}{st:St}:Zkm N Q .normal st↔N st:=Iff.rfl
@[simp] def z95{N:St->Prop}{Q:Exit->St->Prop}{st:St}{id:Nat}:Zkm N Q (.exit id) st↔Q (.exit id) st:=Iff.rfl
@[simp] def zab2{N:St->Prop}{Q:Exit->St->Prop}{st:St}:Zkm N Q .ret st↔Q .ret st:=Iff.rfl
@[simp] def z2o{id:Nat}{Q:Exit->St->Prop}{st:St}:Zfs id Q .normal st↔Q .normal st:=Iff.rfl
@[simp] def z96{id:Nat}{Q:Exit->St->Prop}{st:St}:Zfs id Q .ret st↔Q .ret st:=Iff.rfl
@[simp] def z6t{id id':Nat}{Q:Exit->St->Prop}{st:St}:Zfs id Q (.exit id') st↔if id'=id then Q .normal st else Q (.exit id') st:=Iff.rfl
def gK(P:Program)(x:AV)(want:Bool)(op:AOp)(d:Option Nat)(st:St)(K:St->Prop):Prop:=
 match x with
 | .b v=>if v=want then opK P op d st K else K ⟨Zi st.env d (.tup []),st.heap,st.clk⟩
 | .tup _=>K ⟨Zi st.env d (.tup []),st.heap,st.clk⟩
 | _=>False
@[simp] def z97{d:Option Nat}{op:AOp}{t:Nat}{want:Bool}{st:St}:Zi1 P ⟨d,some (t,want),op⟩ st K↔gK P (st.env.get t) want op d st K:=by
 rfl
@[simp] def gK_b{v want:Bool}{op:AOp}{d:Option Nat}{st:St}:gK P (.b v) want op d st K↔if v=want then opK P op d st K else K ⟨Zi st.env d (.tup []),st.heap,st.clk⟩:=Iff.rfl
@[simp] def zao8{vs:List AV}{want:Bool}{op:AOp}{d:Option Nat}{st:St}:gK P (.tup vs) want op d st K↔K ⟨Zi st.env d (.tup []),st.heap,st.clk⟩:=Iff.rfl
@[simp] def zajz{z n:Nat}{zs:List AV}{ps:List (Nat×Opd)}{d:Option Nat}{st:St}:opK P (.bsl z zs n ps) d st K↔okK (Zfd z zs n st.heap (ps.map fun p=>(p.1,ev st.env.get p.2))) fun q=>K ⟨Zi st.env d q.1,q.2,st.clk⟩:=Iff.rfl
@[simp] def zaj0{x}{d:Option Nat}{st:St}:opK P (.mov x) d st K↔okK (Zm (.mov x) st.env.get st.heap) fun x=>K ⟨Zi st.env d x,st.heap,st.clk⟩:=Iff.rfl
@[simp] def zagj{c a b}{d:Option Nat}{st:St}:opK P (.pick c a b) d st K↔okK (Zm (.pick c a b) st.env.get st.heap) fun x=>K ⟨Zi st.env d x,st.heap,st.clk⟩:=Iff.rfl
@[simp] def zab3{zs ps}{d:Option Nat}{st:St}:opK P (.build zs ps) d st K↔okK (Zm (.build zs ps) st.env.get st.heap) fun x=>K ⟨Zi st.env d x,st.heap,st.clk⟩:=Iff.rfl
@[simp] def zagk{n x}{d:Option Nat}{st:St}:opK P (.load n x) d st K↔okK (Zm (.load n x) st.env.get st.heap) fun x=>K ⟨Zi st.env d x,st.heap,st.clk⟩:=Iff.rfl
@[simp] def zaj1{o x y}{d:Option Nat}{st:St}:opK P (.bin o x y) d st K↔okK (Zm (.bin o x y) st.env.get st.heap) fun x=>K ⟨Zi st.env d x,st.heap,st.clk⟩:=Iff.rfl
@[simp] def zaj2{g ls x y}{d:Option Nat}{st:St}:opK P (.eqs g ls x y) d st K↔okK (Zm (.eqs g ls x y) st.env.get st.heap) fun x=>K ⟨Zi st.env d x,st.heap,st.clk⟩:=Iff.rfl
@[simp] def zab4{g x}{d:Option Nat}{st:St}:opK P (.eqnil g x) d st K↔okK (Zm (.eqnil g x) st.env.get st.heap) fun x=>K ⟨Zi st.env d x,st.heap,st.clk⟩:=Iff.rfl
@[simp] def zaj3{g x y}{d:Option Nat}{st:St}:opK P (.eqb g x y) d st K↔okK (Zm (.eqb g x y) st.env.get st.heap) fun x=>K ⟨Zi st.env d x,st.heap,st.clk⟩:=Iff.rfl
@[simp] def zao9{o x}{d:Option Nat}{st:St}:opK P (.un o x) d st K↔okK (Zm (.un o x) st.env.get st.heap) fun x=>K ⟨Zi st.env d x,st.heap,st.clk⟩:=Iff.rfl
@[simp] def zagl{k x}{d:Option Nat}{st:St}:opK P (.conv k x) d st K↔okK (Zm (.conv k x) st.env.get st.heap) fun x=>K ⟨Zi st.env d x,st.heap,st.clk⟩:=Iff.rfl
@[simp] def zaj4{z x lo hi mx}{d:Option Nat}{st:St}:opK P (.slc z x lo hi mx) d st K↔okK (Zm (.slc z x lo hi mx) st.env.get st.heap) fun x=>K ⟨Zi st.env d x,st.heap,st.clk⟩:=Iff.rfl
@[simp] def zab5{x lo hi}{d:Option Nat}{st:St}:opK P (.slstr x lo hi) d st K↔okK (Zm (.slstr x lo hi) st.env.get st.heap) fun x=>K ⟨Zi st.env d x,st.heap,st.clk⟩:=Iff.rfl
@[simp] def zaj5{n x}{d:Option Nat}{st:St}:opK P (.fad n x) d st K↔okK (Zm (.fad n x) st.env.get st.heap) fun x=>K ⟨Zi st.env d x,st.heap,st.clk⟩:=Iff.rfl
@[simp] def zaj6{o n x}{d:Option Nat}{st:St}:opK P (.fld o n x) d st K↔okK (Zm (.fld o n x) st.env.get st.heap) fun x=>K ⟨Zi st.env d x,st.heap,st.clk⟩:=Iff.rfl
@[simp] def zaj7{z x i}{d:Option Nat}{st:St}:opK P (.iad z x i) d st K↔okK (Zm (.iad z x i) st.env.get st.heap) fun x=>K ⟨Zi st.env d x,st.heap,st.clk⟩:=Iff.rfl
@[simp] def zaj8{z n x i}{d:Option Nat}{st:St}:opK P (.iaa z n x i) d st K↔okK (Zm (.iaa z n x i) st.env.get st.heap) fun x=>K ⟨Zi st.env d x,st.heap,st.clk⟩:=Iff.rfl
@[simp] def zaj9{x i}{d:Option Nat}{st:St}:opK P (.ixs x i) d st K↔okK (Zm (.ixs x i) st.env.get st.heap) fun x=>K ⟨Zi st.env d x,st.heap,st.clk⟩:=Iff.rfl
@[simp] def zaka{z l n x i}{d:Option Nat}{st:St}:opK P (.ixa z l n x i) d st K↔okK (Zm (.ixa z l n x i) st.env.get st.heap) fun x=>K ⟨Zi st.env d x,st.heap,st.clk⟩:=Iff.rfl
@[simp] def zakb{x}{d:Option Nat}{st:St}:opK P (.len x) d st K↔okK (Zm (.len x) st.env.get st.heap) fun x=>K ⟨Zi st.env d x,st.heap,st.clk⟩:=Iff.rfl
@[simp] def zagm{x}{d:Option Nat}{st:St}:opK P (.lens x) d st K↔okK (Zm (.lens x) st.env.get st.heap) fun x=>K ⟨Zi st.env d x,st.heap,st.clk⟩:=Iff.rfl
@[simp] def zagn{n}{d:Option Nat}{st:St}:opK P (.lenc n) d st K↔okK (Zm (.lenc n) st.env.get st.heap) fun x=>K ⟨Zi st.env d x,st.heap,st.clk⟩:=Iff.rfl
@[simp] def zapa{m xs}{d:Option Nat}{st:St}:opK P (.mm m xs) d st K↔okK (Zm (.mm m xs) st.env.get st.heap) fun x=>K ⟨Zi st.env d x,st.heap,st.clk⟩:=Iff.rfl
@[simp] def zakc{x n}{d:Option Nat}{st:St}:opK P (.ext x n) d st K↔okK (Zm (.ext x n) st.env.get st.heap) fun x=>K ⟨Zi st.env d x,st.heap,st.clk⟩:=Iff.rfl
@[simp] def zago{x}{d:Option Nat}{st:St}:opK P (.nilc x) d st K↔okK (Zm (.nilc x) st.env.get st.heap) fun x=>K ⟨Zi st.env d x,st.heap,st.clk⟩:=Iff.rfl
@[simp] def zab6{zs}{d:Option Nat}{st:St}:opK P (.alloc zs) d st K↔okK (stepW (.alloc zs) d st.env.get st.heap st.clk) fun q=>K ⟨Zi st.env d q.1,q.2.1,q.2.2⟩:=Iff.rfl
@[simp] def zab7{n x v}{d:Option Nat}{st:St}:opK P (.store n x v) d st K↔okK (stepW (.store n x v) d st.env.get st.heap st.clk) fun q=>K ⟨Zi st.env d q.1,q.2.1,q.2.2⟩:=Iff.rfl
@[simp] def zakd{z zs l c}{d:Option Nat}{st:St}:opK P (.mks z zs l c) d st K↔okK (stepW (.mks z zs l c) d st.env.get st.heap st.clk) fun q=>K ⟨Zi st.env d q.1,q.2.1,q.2.2⟩:=Iff.rfl
@[simp] def zake{z x y}{d:Option Nat}{st:St}:opK P (.app z x y) d st K↔okK (stepW (.app z x y) d st.env.get st.heap st.clk) fun q=>K ⟨Zi st.env d q.1,q.2.1,q.2.2⟩:=Iff.rfl
@[simp] def zagp(k:IntKind)(n:Int):Ziq .neg (.i k n)=some (.i k (k.wrap (0-n))):=rfl
@[simp] def zagq(t:Bool):Ziq .not (.b t)=some (.b (!t)):=rfl
attribute [simp] Zm stepW Zip Ziu Zhq Zma mmL mm2 Zjs Zjo Za0 Zg3 Zis Zg2 Zir Zjp Zf4 Zh4 Zjn eqL evO Znx Zdz resV Zd4 Zfd Ziz Zjt Z8 Zkl Zjz rowOf Zkk
@[simp] def zs9{k:IntKind}{a b:Int}:Zay .add (.i k a) (.i k b)=some (.i k (k.wrap (a+b))):=by simp[Zay,Zhe]
@[simp] def z2p{k:IntKind}{a b:Int}:Zay .sub (.i k a) (.i k b)=some (.i k (k.wrap (a-b))):=by simp[Zay,Zhe]
@[simp] def z2q{k:IntKind}{a b:Int}:Zay .mul (.i k a) (.i k b)=some (.i k (k.wrap (a*b))):=by simp[Zay,Zhe]
@[simp] def zta{k:IntKind}{a b:Int}:Zay .quo (.i k a) (.i k b)=if b=0 then none else some (.i k (k.wrap (a.tdiv b))):=by simp[Zay,Zhe]
@[simp] def ztb{k:IntKind}{a b:Int}:Zay .rem (.i k a) (.i k b)=if b=0 then none else some (.i k (a.tmod b)):=by simp[Zay,Zhe]
@[simp] def ztc{k:IntKind}{a b:Int}:Zay .eql (.i k a) (.i k b)=some (.b (a == b)):=by simp[Zay,Zhe]
@[simp] def ztd{k:IntKind}{a b:Int}:Zay .neq (.i k a) (.i k b)=some (.b (a != b)):=by simp[Zay,Zhe]
@[simp] def zte{k:IntKind}{a b:Int}:Zay .lss (.i k a) (.i k b)=some (.b (a<b)):=by simp[Zay,Zhe]
@[simp] def z2r{k:IntKind}{a b:Int}:Zay .leq (.i k a) (.i k b)=some (.b (a<=b)):=by simp[Zay,Zhe]
@[simp] def z2s{k:IntKind}{a b:Int}:Zay .gtr (.i k a) (.i k b)=some (.b (a > b)):=by simp[Zay,Zhe]
@[simp] def z2t{k:IntKind}{a b:Int}:Zay .geq (.i k a) (.i k b)=some (.b (a>=b)):=by simp[Zay,Zhe]
@[simp] def zab8{a b:List UInt8}:Zay .eql (.s a) (.s b)=some (.b (a == b)):=by simp[Zay,Zl9]
@[simp] def zab9{a b:List UInt8}:Zay .add (.s a) (.s b)=if a.length+b.length<=9223372036854775807 then some (.s (a++b)) else none:=by simp[Zay,Zl9]
def zab(n:Int)(h:-9223372036854775808<=n/\n<9223372036854775808):IntKind.wrap .i64 n=n:=by
 simp[IntKind.wrap,IntKind.signed,IntKind.bits]<;>(omega)<;>omega
end
end
section
open Go.RowKit
section
variable{cx:Cx}{Q:Exit->St->Prop}{st:St}{c:AC}{P:Program}{K:St->Prop}
@[simp] def z98{β:Type}(b b':BId)(x:β)(l:List (BId×β)):List.lookup b ((b',x)::l)=if b=b' then some x else List.lookup b l:=by
 grind
attribute [simp] Zgy Zce Zgo Zh7 Znw
attribute [simp] AOp.writes AOp.free Zh5 Zgr
@[simp] def zase(k:IntKind)(n y:Int):bnd (.i k n) y=if 0<=n/\n<=y then some n.toNat else none:=rfl
def WRel.sub{S:Nat->Nat->Prop}{M:Map}{st st':St}{w:World}(hs:Sub st st')(hr:WRel cx S M st.clk st.heap w):∃Mb,WRel cx S Mb st'.clk st'.heap w/\Ext w S M st.clk w S Mb st'.clk:=by
 classical
 generalize hMb:(fun g=>if Live st'.heap g then M g else none:Map)=Mb;have hMb1:∀g m,Mb g=some m->Live st'.heap g/\M g=some m:=by
  grind
 have hMb2:∀g,Live st'.heap g->Mb g=M g:=by grind
 have hx:Ext w S M st.clk w S Mb st'.clk:=⟨fun _ _ hs=>hs,fun _ _ _ _ hc=>hc,hs.clk,fun g m _ hm=>(hMb1 g m hm).2,fun _ _ arr _ _ _ hb=>⟨arr,hb,rfl⟩⟩;refine⟨Mb,⟨⟨fun b bx hb=>?_,fun g m hm=>(hMb1 g m hm).1,fun b bx b' bx' h1 h2 hg=>?_,fun g g' k h1 h2=>hr.heap.inj _ _ _ (hMb1 _ _ h1).2 (hMb1 _ _ h2).2⟩,hr.ext.trans hx,hr.fr,hr.Snew,hr.Slt,fun g k hm=>hr.Mnew g k (hMb1 _ _ hm).2⟩,hx⟩
 ·obtain⟨bx0,h0,h1⟩:=hs.heap b bx hb;have hl:Live st'.heap bx.gen:=⟨b,bx,hb,rfl⟩;have hbox:=hr.heap.box b bx0 h0;rcases h1 with rfl | ⟨hk,rfl⟩
  ·exact hbox.mono hx (hMb2 _ hl) (fun _ _=>rfl) fun _ _ _ hs=>hs
  ·obtain⟨b1,b2,m,hm,b3⟩:=hbox.mono hx (hMb2 bx0.gen hl) (fun _ _=>rfl) fun _ _ _ hs=>hs;refine⟨b1,b2,m,hm,?_⟩;cases m with
   | none=>exact⟨b3.1,by simp,by simp⟩
   | some k=>
    obtain⟨arr,e,c1,c2,c3,c4,c5⟩:=ck' hk.2 b3;exact ck (by simp) ⟨arr,e,c1,c2,fun i r j c hi hj=>let ⟨u,d1,d2,d3,d4⟩:=c3 i r j c hi hj;⟨u,d1,d2,d3,fun _=>d4 hk.1⟩,fun hne=>absurd rfl hne,c5⟩
 ·obtain⟨bx0,h3,h4⟩:=hs.heap b bx h1;obtain⟨bx0',h5,h6⟩:=hs.heap b' bx' h2;have e1:bx.gen=bx0.gen:=by grind
  have e2:bx'.gen=bx0'.gen:=by grind
  exact hr.heap.gens _ _ _ _ h3 h5 (by rw[<-e1,<-e2,hg])
def Zqp(rs:List RV)(post:AV->Heap->Nat->Prop):Exit->St->Prop:=
 fun ex st=>(ex=.normal\/ex=.ret)/\∃r,Zdz st rs=some r/\∃h' c',Sub ⟨[],st.heap,st.clk⟩ ⟨[],h',c'⟩/\post r h' c'
end
end
section
open Go.RowKit
theorem zdy:∀(l:Heap) (g j:Nat),j<=Zdk l g j/\Zdk l g j<=j+l.length
 | [],g,j=>by simp[Zdk]
 | p::l,g,j=>by
  have:=zdy l g (j+1);simp only[Zdk,Yg];split<;>omega
theorem zir:∀(l:Heap) (g j:Nat),(∃p∈l,p.2.gen=g)->Zdk l g j<j+l.length
 | [],g,j,h=>by grind
 | p::l,g,j,h=>by
  simp only[Zdk,Yg];split
  ·omega
  ·obtain⟨q,hq,he⟩:=h;have hq':q∈l:=by
    grind
   have:=zir l g (j+1) ⟨q,hq',he⟩;omega
theorem zm1:∀(l:Heap) (g j:Nat),(¬ ∃p∈l,p.2.gen=g)->Zdk l g j=j+l.length
 | [],g,j,h=>by simp[Zdk]
 | p::l,g,j,h=>by
  simp only[Zdk,Yg];rw[if_neg (fun he=>h ⟨p,Yv,he⟩),zm1 l g (j+1) fun⟨q,hq,he⟩=>h ⟨q,Yk _ hq,he⟩];omega
theorem zj0:∀(l:Heap) (g g' j:Nat),(∃p∈l,p.2.gen=g)->(∃p∈l,p.2.gen=g')->Zdk l g j=Zdk l g' j->g=g'
 | [],g,g',j,h,_,_=>by obtain⟨p,hp,_⟩:=h;simp at hp
 | p::l,g,g',j,h,h',he=>by
  simp only[Zdk]at he;have low:=zdy l g (j+1);have low':=zdy l g' (j+1);split at he<;>split at he
  ·rename_i h1 h2;rw[<-h1,<-h2]
  ·omega
  ·omega
  ·rename_i h1 h2;have tl:∀g,p.2.gen≠g->(∃q∈p::l,q.2.gen=g)->∃q∈l,q.2.gen=g:=by
    intro g hne ⟨q,hq,he⟩;rcases Yw.1 hq with rfl | h
    ·exact absurd he hne
    ·exact⟨q,h,he⟩
   exact zj0 l g g' (j+1) (tl g h1 h) (tl g' h2 h') he
def zgt{h:Heap}{ids:List BId}{p:BId×Box}(hp:p∈Zfi h ids):h.lookup p.1=some p.2:=by
 obtain⟨b,_,h2⟩:=List.mem_filterMap.1 hp;cases hb:h.lookup b with
 | none=>grind
 | some bx=>grind
def za8{β γ:Type}[BEq β][LawfulBEq β]:∀(l:List (β×γ)) (b:β) (x:γ),l.lookup b=some x->(b,x)∈l:=by
 intro l b x h
 induction l with
 | nil=>cases h
 | cons p l ih=>
  grind
def zhn{γ:Type}:∀(l:List (BId×γ)) (p:BId×γ),p∈l->∃x,l.lookup p.1=some x:=by
 intro l p h
 induction l with
 | nil=>cases h
 | cons q l ih=>
  obtain⟨q1,q2⟩:=q;by_cases hb:p.1=q1
  ·simp_all
  grind
def zo0{h:Heap}{ids:List BId}{p:BId×Box}(hp:p∈Zfi h ids):(Zfi h ids).lookup p.1=some p.2:=by
 obtain⟨x,hx⟩:=zhn _ _ hp;have h1:=zgt (za8 _ _ _ hx);rw[zgt hp]at h1
 grind
def zrl(live:List Nat)(f:Nat->AV)(t:Nat):(live.map fun t=>(t,f t)).lookup t=if t∈live then some (f t) else none:=by
 induction live with
 | nil=>simp
 | cons s l ih=>
  grind
section
variable{cx:Cx}{st:St}{a:Act}{w:World}
def ztl{k:Nat}{hp:Heap}{g g':Nat}(h:∃p∈hp,p.2.gen=g)(h':∃p∈hp,p.2.gen=g')(he:Zdv k hp g=Zdv k hp g'):g=g':=by
 grind[Zdv,zdy,zj0]
def Rel.norm{ex:Bool}{k:Nat}{live:List Nat}(hk:cx.clk0=k+1)(hr:Rel cx st a w):Rel cx (Zec ex k live st) a w:=by
 obtain⟨S,M,hr⟩:=hr;generalize hids:Zhj st.heap 40 (Znj k++(live.map fun t=>(t,st.env.get t)).flatMap fun p=>rfA p.2) []=ids;generalize hhp:Zfi st.heap ids=hp;have hn:Zec ex k live st=⟨(live.map fun t=>(t,st.env.get t)).map fun p=>(p.1,rlA id (Zdv k hp) (wkIf ex p.2)),hp.map fun p=>(p.1,Zat ex id (Zdv k hp) p.2),k+hp.length+2⟩:=by
  rw[<-hhp,<-hids];rfl
 have hlk:∀b bx,hp.lookup b=some bx->st.heap.lookup b=some bx:=by
  intro b bx hb;have:=za8 _ _ _ hb;rw[<-hhp]at this;exact zgt this
 have hml:∀p∈hp,hp.lookup p.1=some p.2:=by
  intro p hm;rw[<-hhp]at hm ⊢;exact zo0 hm
 classical
 generalize hM':(fun g'=>if h:∃g,(∃p∈hp,p.2.gen=g)/\Zdv k hp g=g' then M (Classical.choose h) else none:Map)=M';have hM1:∀g,(∃p∈hp,p.2.gen=g)->M' (Zdv k hp g)=M g:=by
  intro g hg;rw[<-hM'];have h:∃g0,(∃p∈hp,p.2.gen=g0)/\Zdv k hp g0=Zdv k hp g:=⟨g,hg,rfl⟩;simp only[dif_pos h];rw[ztl (Classical.choose_spec h).1 hg (Classical.choose_spec h).2]
 have hM2:∀g' m,M' g'=some m->∃g,(∃p∈hp,p.2.gen=g)/\Zdv k hp g=g'/\M g=some m:=by
  grind
 have hrl:Rlb M M' st.clk (k+hp.length+2) (Zdv k hp):=by
  refine⟨fun g hg=>⟨?_,?_⟩⟩
  ·by_cases hin:∃p∈hp,p.2.gen=g
   ·grind
   ·right;cases hm:M' (Zdv k hp g) with
    | none=>rfl
    | some m=>
     obtain⟨g1,h1,h2,_⟩:=hM2 _ _ hm;have hlt:=zir hp g1 (k+1) h1
     grind[zm1,zdy,Zdv]
  grind[zdy,Zdv]
 have hw:=hr.wr;refine⟨S,M',?_⟩;rw[hn];refine⟨hr.size,hr.defers,fun t=>?_,?_⟩
 ·rw[Ybo];have e1:Env.get (live.map fun t=>(t,rlA id (Zdv k hp) (wkIf ex (st.env.get t)))) t=(if t∈live then some (rlA id (Zdv k hp) (wkIf ex (st.env.get t))) else none).getD .dead:=by
   rw[<-zrl live (fun t=>rlA id (Zdv k hp) (wkIf ex (st.env.get t)))];rfl
  show C w S M' _ _ (Env.get (live.map fun t=>(t,rlA id (Zdv k hp) (wkIf ex (st.env.get t)))) t);rw[e1];split
  ·exact((hr.env t).wkIf ex).rlA hrl
  ·exact .p (.dead _)
 ·refine hw.rl (ex:=ex) (σn:=id) (σg:=Zdv k hp) (D:=fun g=>∃p∈hp,p.2.gen=g) hrl (by grind) (fun g m hg hm=>?_) (fun b' bx' hb=>?_) (fun g' m hm=>?_) (fun g1 g2 hd1 hd2 hg=>?_) (fun g' m hm=>?_)
  ·grind[zdy,Zdv]
  ·rw[zff (fun _ bx=>Zat ex id (Zdv k hp) bx) b' hp]at hb;obtain⟨bx,h1,rfl⟩:=map_some hb;exact⟨b',bx,hlk _ _ h1,rfl,hM1 _ ⟨_,za8 _ _ _ h1,rfl⟩,rfl,⟨_,za8 _ _ _ h1,rfl⟩⟩
  ·obtain⟨g1,⟨p,h1,h1'⟩,h2,h3⟩:=hM2 _ _ hm;refine⟨p.1,Zat ex id (Zdv k hp) p.2,?_,by show Zdv k hp p.2.gen=g';grind⟩;rw[zff (fun _ bx=>Zat ex id (Zdv k hp) bx) p.1 hp,hml p h1]
   rfl
  ·exact ztl hd1 hd2 hg
  grind
def Rel.nil(t:Nat)(id:BId)(z:Nat)(hx:st.env.get t=.sl [] .nl)(hr0:Rel cx st a w):Rel cx ⟨(t,.bs id st.clk z 0 0)::st.env,(id,⟨st.clk,.own,z,[]⟩)::st.heap,st.clk+1⟩ a w:=by
 obtain⟨S,M,hr⟩:=hr0;refine⟨S,Zdu M ((id,⟨st.clk,.own,z,[]⟩)::st.heap) st.clk none,?_⟩;have h1:=hr.set (id:=id) (bx':=⟨st.clk,.own,z,[]⟩) (k':=none) (touched:=none) (clk':=st.clk+1) (Ybf _) (.inl rfl) (fun hlt=>absurd hlt (Yba _)) (Touch.of_below (Below.refl _ _)) (fun k hk=>by grind)
  ⟨Y2 _,fun r hr=>by grind,none,zan _ _ _ _,rfl,by simp⟩
 refine⟨h1.size,h1.defers,fun t'=>?_,h1.wr⟩;have e1:Env.get ((t,AV.bs id st.clk z 0 0)::st.env)=upd st.env.get (some t) (.bs id st.clk z 0 0):=zb5 st.env (some t) _;rw[e1];simp only[upd];split
 ·rename_i ht;subst ht;have hv:=hr.env t';rw[hx]at hv;have hv2:a.tmps.getD t' undef=.slice none 0 0:=by
   rcases hv.inv_sl.inv_sl with ⟨_,b0,hv,_,hb2⟩ | ⟨_,_,_,_,_,_,hf,_⟩
   all_goals grind
  rw[hv2];refine .bs _ _ _ _ _ _ (Y2 _) ?_ rfl
  grind[Zhd,zan]
 ·exact h1.env t'
def Rel.shr(t:Nat){y:AV}(hy:frz st.heap (st.env.get t)=some y)(hr0:Rel cx st a w):Rel cx ⟨st.env,Z8 (refs (st.env.get t)) st.heap,st.clk⟩ a w:=by
 obtain⟨S,M,hr⟩:=hr0;exact⟨_,M,hr.share (refs (st.env.get t)) (zdx hy)⟩
def Rel.frz(t:Nat){y:AV}(hy:frz st.heap (st.env.get t)=some y)(hr0:Rel cx st a w):Rel cx ⟨(t,y)::st.env,Z8 (refs (st.env.get t)) st.heap,st.clk⟩ a w:=by
 obtain⟨S,M,hr⟩:=hr0;have hk:=zdx hy;refine⟨Zck st.heap M (refs (st.env.get t)) S,M,?_⟩;have h1:=hr.share (refs (st.env.get t)) hk;refine⟨h1.size,h1.defers,fun t'=>?_,h1.wr⟩;have e1:Env.get ((t,y)::st.env)=upd st.env.get (some t) y:=zb5 st.env (some t) _;rw[e1];simp only[upd];split
 ·rename_i ht;subst ht;exact .p (zxe hr.wr.heap (hr.env t') hy fun id hid=>hid)
 ·exact h1.env t'
def Rel.fld(b id:BId)(z i o:Nat){bx:Box}{r:List AV}(hb:st.heap.lookup b=some bx)(hk:bx.kind=.str)(hi:bx.els[i]? = some r)(ho:r[o]? = some (.sl [] .nl))(hid:st.heap.lookup id=none)(hr0:Rel cx st a w):Rel cx ⟨st.env,(b,{ bx with els:=bx.els.set i (r.set o (.bs id st.clk z 0 0)) })::(id,⟨st.clk,.own,z,[]⟩)::st.heap,st.clk+1⟩ a w:=by
 obtain⟨S,M,hr⟩:=hr0;refine⟨S,Zdu M ((id,⟨st.clk,.own,z,[]⟩)::st.heap) st.clk none,?_⟩;have h1:=hr.set (id:=id) (bx':=⟨st.clk,.own,z,[]⟩) (k':=none) (touched:=none) (clk':=st.clk+1) (Ybf _) (.inl rfl) (fun hlt=>absurd hlt (Yba _)) (Touch.of_below (Below.refl _ _)) (fun k hk=>by grind)
  ⟨Y2 _,fun r hr=>by grind,none,zan _ _ _ _,rfl,by simp⟩
 have hb1:List.lookup b ((id,(⟨st.clk,.own,z,[]⟩:Box))::st.heap)=some bx:=by grind
 have hw:=h1.wr;generalize hM':Zdu M ((id,⟨st.clk,.own,z,[]⟩)::st.heap) st.clk none=M' at *
 have hself:M' st.clk=some none:=by rw[<-hM'];exact zan _ _ _ _
 generalize hbx':({ bx with els:=bx.els.set i (r.set o (.bs id st.clk z 0 0)) }:Box)=bx' at *
 have hgen:bx'.gen=bx.gen:=by grind
 have hz:bx'.z=bx.z:=by grind
 have hkk:bx'.kind=bx.kind:=by grind
 have hbox:Zcq w S M' (st.clk+1) bx':=by
  obtain⟨b1,b2,m,hm1,b3⟩:=hw.heap.box b bx hb1;refine⟨by omega,fun r' hr'=>?_,m,by grind,?_⟩
  ·grind
  ·cases m with
   | none=>
    grind
   | some k=>
    have hmp:bx.kind≠.mp:=by rw[hk];simp
    obtain⟨arr,e,hh,hsz,hcc,hns,hlt⟩:=ck' hmp b3;refine ck (by rw[hkk];exact hmp) ⟨arr,e,hh,by grind,fun i' r' j c' hi' hj=>?_,by grind,by grind⟩;rw[<-hbx']at hi';simp only[Yce]at hi';rw[hz,hkk];split at hi'
    ·rename_i hii;subst hii;split at hi'
     ·cases hi';rw[Yce]at hj;split at hj
      ·rename_i hjo;subst hjo;split at hj
       ·cases hj;obtain⟨u,hu,hu1,hC,hP⟩:=hcc i r o _ hi ho;refine⟨u,hu,hu1,?_,fun hne'=>absurd hk hne'⟩;have hv2:u=.slice none 0 0:=by
         rcases hC.inv_sl.inv_sl with ⟨_,b0,hv,_,hb2⟩ | ⟨_,_,_,_,_,_,hf,_⟩
         all_goals grind
        rw[hv2];refine .bs _ _ _ _ _ _ (Y2 _) ?_ rfl
        grind[Zhd]
       grind
      grind
     grind
    grind
 have to:∀q x,List.lookup q ((b,bx')::(id,(⟨st.clk,.own,z,[]⟩:Box))::st.heap)=some x->∃x0,List.lookup q ((id,(⟨st.clk,.own,z,[]⟩:Box))::st.heap)=some x0/\x0.gen=x.gen:=by
  grind
 refine⟨h1.size,h1.defers,h1.env,⟨⟨fun q x hq=>?_,fun g m hm=>?_,fun q1 x1 q2 x2 hq1 hq2 hg=>?_,hw.heap.inj⟩,hw.ext,hw.fr,hw.Snew,hw.Slt,hw.Mnew⟩⟩
 ·by_cases hqb:q=b
  ·grind
  ·rw[zbj _ _ hqb]at hq;exact hw.heap.box q x hq
 ·obtain⟨q,x,hq,hg⟩:=hw.heap.live g m hm;by_cases hqb:q=b
  ·grind[zb4]
  ·exact⟨q,x,by grind,hg⟩
 ·obtain⟨y1,hy1,e1⟩:=to q1 x1 hq1;obtain⟨y2,hy2,e2⟩:=to q2 x2 hq2;exact hw.heap.gens _ _ _ _ hy1 hy2 (by rw[e1,e2,hg])
def Rel.str(b:BId){bx:Box}{r:List AV}{i:Nat}(hb:st.heap.lookup b=some bx)(hk:bx.kind≠.sh)(hmp:bx.kind≠.mp)(hi:bx.els[i]? = some r)(hr0:Rel cx st a w):Rel cx ⟨st.env,(b,{ bx with kind:=.str })::st.heap,st.clk⟩ a w:=by
 obtain⟨S,M,hr⟩:=hr0;refine⟨S,M,?_⟩;have hw:=hr.wr;generalize hbx':({ bx with kind:=.str }:Box)=bx' at *
 have hgen:bx'.gen=bx.gen:=by grind
 have hbox:Zcq w S M st.clk bx':=by
  obtain⟨b1,b2,m,hm1,b3⟩:=hw.heap.box b bx hb;refine⟨by omega,by grind,m,by grind,?_⟩;cases m with
  | none=>grind
  | some k=>
   obtain⟨arr,e,hh,hsz,hcc,hns,hlt⟩:=ck' hmp b3;refine ck (by rw[<-hbx'];simp) ⟨arr,e,hh,by grind,fun i' r' j c' hi' hj=>?_,by grind,by grind⟩;obtain⟨u,h1,h2,h3,h4⟩:=hcc i' r' j c' (by grind) hj;exact⟨u,by grind,h2,h3,by grind⟩
 have to:∀q x,List.lookup q ((b,bx')::st.heap)=some x->∃x0,List.lookup q st.heap=some x0/\x0.gen=x.gen:=by
  grind
 refine⟨hr.size,hr.defers,hr.env,⟨⟨fun q x hq=>?_,fun g m hm=>?_,fun q1 x1 q2 x2 hq1 hq2 hg=>?_,hw.heap.inj⟩,hw.ext,hw.fr,hw.Snew,hw.Slt,hw.Mnew⟩⟩
 ·by_cases hqb:q=b
  ·grind
  ·rw[zbj _ _ hqb]at hq;exact hw.heap.box q x hq
 ·obtain⟨q,x,hq,hg⟩:=hw.heap.live g m hm;by_cases hqb:q=b
  ·grind[zb4]
  ·exact⟨q,x,by grind,hg⟩
 ·obtain⟨y1,hy1,e1⟩:=to q1 x1 hq1;obtain⟨y2,hy2,e2⟩:=to q2 x2 hq2;exact hw.heap.gens _ _ _ _ hy1 hy2 (by rw[e1,e2,hg])
def Rel.gh{k:Nat}{g:Gh}{st':St}(hk:cx.clk0=k+1)(hg:ghS k g st=some st')(hr:Rel cx st a w):Rel cx st' a w:=by
 cases g with
 | nil t z=>
  simp only[ghS]at hg;split at hg<;>cases hg;rename_i hx;exact hr.nil t _ z hx
 | frz t=>
  obtain⟨y,hy,rfl⟩:=map_some hg;exact hr.frz t hy
 | shr t=>
  simp only[ghS]at hg;obtain⟨y,hy,rfl⟩:=map_some hg;exact hr.shr t hy
 | norm ex live=>
  cases hg;exact hr.norm hk
 | trm live=>
  cases hg;have key:∀(l:List Nat) (t:Nat) (x:AV),(l.map fun t=>(t,st.env.get t)).lookup t=some x->st.env.get t=x:=by
   intro l
   induction l with
   | nil=>simp
   | cons a l ih=>grind [List.lookup]
  have hs:Sub st ⟨live.map fun t=>(t,st.env.get t),st.heap,st.clk⟩:=⟨fun t x h=>key _ _ _ h,fun b bx h=>⟨bx,h,.inl rfl⟩,Yh _⟩;exact Rel.sub hs hr
 | opn t j z=>
  simp only[ghS]at hg;split at hg<;>try (cases hg;done)
  split at hg<;>try (cases hg;done)
  rename_i bx hbx;split at hg<;>try (cases hg;done)
  rename_i r hi;split at hg<;>cases hg;rename_i hc;have hb:=(zas hbx).1;have h1:=hr.str _ hb hc.1 (zc6 hbx) hi;have hn:∀b o,BId.fld b o≠b:=fun b o h=>by
   have h2:SizeOf.sizeOf (BId.fld b o)=SizeOf.sizeOf b:=by rw[h]
   simp at h2;omega
  have h2:=h1.fld (bx:={ bx with kind:=.str }) _ (.fld _ _) z _ 0 (zb4 _ _ _) rfl hi rfl (by rw[zbj _ _ (hn _ _)];simpa using hc.2);refine Rel.sub ?_ h2;constructor
  ·intro t x h;show (st.env.lookup t).getD .dead=x;rw[show st.env.lookup t=some x from h]
   rfl
  ·intro b' bx' h;refine⟨bx',?_,.inl rfl⟩;simp only[Yb7]
   grind
  ·exact Yh _
 | shi t j=>
  simp only[ghS]at hg;split at hg<;>try (cases hg;done)
  split at hg<;>try (cases hg;done)
  split at hg<;>try (cases hg;done)
  obtain⟨y,hy,rfl⟩:=map_some hg;obtain⟨S,M,hr⟩:=hr;exact⟨_,M,hr.share (refs _) (zdx hy)⟩
 | shf t i o=>
  simp only[ghS]at hg;split at hg<;>try (cases hg;done)
  split at hg<;>try (cases hg;done)
  split at hg<;>try (cases hg;done)
  split at hg<;>try (cases hg;done)
  obtain⟨y,hy,rfl⟩:=map_some hg;obtain⟨S,M,hr⟩:=hr;exact⟨_,M,hr.share (refs _) (zdx hy)⟩
 | fld t i o z=>
  simp only[ghS]at hg;split at hg<;>try (cases hg;done)
  split at hg<;>try (cases hg;done)
  rename_i bx hbx;split at hg<;>try (cases hg;done)
  rename_i r hi;split at hg<;>try (cases hg;done)
  rename_i ho;split at hg<;>cases hg;rename_i hc;exact hr.fld _ _ z i o (zas hbx).1 hc.1 hi ho (by simpa using hc.2)
end
end
section
open Go.RowKit
theorem zo1:∀(l:Heap) (g j:Nat),(∃p∈l,p.2.gen=g)->∃q,l[Zdk l g j-j]? = some q/\q.2.gen=g/\j<=Zdk l g j
 | [],g,j,h=>by grind
 | p::l,g,j,h=>by
  simp only[Zdk];split
  ·grind
  ·obtain⟨q,hq,he⟩:=h;have hq':q∈l:=by
    grind
   obtain⟨q2,h1,h2,h3⟩:=zo1 l g (j+1) ⟨q,hq',he⟩
   grind
theorem zlv:∀(l:List BId) (b b':BId) (j:Nat),b∈l->b'∈l->Zgb l b j=Zgb l b' j->b=b'
 | [],b,b',j,h,_,_=>by cases h
 | c::l,b,b',j,h,h',he=>by
  have low:∀(l:List BId) (x:BId) (j:Nat),j<=Zgb l x j:=by
   intro l x
   induction l with
   | nil=>intro j;exact Yh _
   | cons y l ih=>intro j;simp only[Zgb];split;exact Yh _;exact Ye (Ybf j) (ih (j+1))
  simp only[Zgb]at he;have l1:=low l b (j+1);have l2:=low l b' (j+1);split at he<;>split at he
  ·rename_i h1 h2;rw[<-h1,<-h2]
  ·omega
  ·omega
  ·rename_i h1 h2;have tl:∀x,c≠x->x∈c::l->x∈l:=by
    intro x hne hx;rcases Yw.1 hx with rfl | hx
    ·exact absurd rfl hne
    ·exact hx
   exact zlv l b b' (j+1) (tl b h1 h) (tl b' h2 h') he
def zey{γ:Type}:∀(l:List (BId×γ)),(l.map (·.1)).Nodup->∀p∈l,l.lookup p.1=some p.2:=by
 intro l hn p hp
 induction l with
 | nil=>grind
 | cons q l ih=>
  grind
theorem zj1{α:Type}:∀(l:List α),l.Nodup->∀(i j:Nat) (x:α),l[i]? = some x->l[j]? = some x->i=j
 | [],_,i,j,x,h,_=>by simp at h
 | y::l,hn,i,j,x,hi,hj=>by
  simp only[Yem]at hn;cases i with
  | zero=>
   cases j with
   | zero=>rfl
   | succ j=>
    simp at hi hj;subst hi;exact absurd (Yd hj) hn.1
  | succ i=>
   cases j with
   | zero=>
    simp at hi hj;subst hj;exact absurd (Yd hi) hn.1
   | succ j=>rw[zj1 l hn.2 i j x hi hj]
def Zfe.rl{P:Program}{f:FuncId}{ys:List AV}{hp:Heap}{clk d:Nat}{ex:Bool}{l:List BId}{r0:AV}{hb':Heap}{c':Nat}
  (hkeys:hp.map (·.1)=l) (hnd:l.Nodup)
  (hnd2:((hb'.map fun p=>(Zbu l d p.1,Zat true (Zbu l d) (Zb7 hp clk) p.2)).map (·.1)).Nodup)
  (hA:Zfe P f (ys.map fun y=>rlA (inN l) (inG hp) (wkIf ex y)) (hp.map fun p=>(inN l p.1,Zat ex (inN l) (inG hp) p.2)) (hp.length+1) (fun r h c=>r=r0/\h=hb'/\c=c')) :
  Zfe P f ys hp clk (fun r h c=>r=rlA (Zbu l d) (Zb7 hp clk) r0/\h=hb'.map (fun p=>(Zbu l d p.1,Zat true (Zbu l d) (Zb7 hp clk) p.2))/\c=clk+(c'-hp.length)):=by
 refine⟨hA.1,fun w S M cargs hl hC hh hS hM=>?_⟩;have hml:∀p∈hp,hp.lookup p.1=some p.2:=zey hp (by grind);have hnd':(hb'.map (·.1)).Nodup:=by
  grind
 classical
 -- the call's own numbering
 generalize hM1:(fun g'=>if h:∃g,(∃p∈hp,p.2.gen=g)/\inG hp g=g' then M (Classical.choose h) else none:Map)=M1;have inj1:∀g1 g2,(∃p∈hp,p.2.gen=g1)->(∃p∈hp,p.2.gen=g2)->inG hp g1=inG hp g2->g1=g2:=fun g1 g2 h1 h2 he=>zj0 hp g1 g2 0 h1 h2 he;have hM1a:∀g,(∃p∈hp,p.2.gen=g)->M1 (inG hp g)=M g:=by
  intro g hg;rw[<-hM1];have h:∃g0,(∃p∈hp,p.2.gen=g0)/\inG hp g0=inG hp g:=⟨g,hg,rfl⟩;simp only[dif_pos h];rw[inj1 _ _ (Classical.choose_spec h).1 hg (Classical.choose_spec h).2]
 have hM1b:∀g' m,M1 g'=some m->∃g,(∃p∈hp,p.2.gen=g)/\inG hp g=g'/\M g=some m:=by
  grind
 have rl1:Rlb M M1 clk (hp.length+1) (inG hp):=by
  refine⟨fun g _=>⟨?_,?_⟩⟩
  ·by_cases hin:∃p∈hp,p.2.gen=g
   ·grind
   ·right;cases hm:M1 (inG hp g) with
    | none=>rfl
    | some m=>
     obtain⟨g1,h1,h2,_⟩:=hM1b _ _ hm;have hlt:=zir hp g1 0 h1
     grind[zm1,inG]
  grind[zdy,inG]
 have mem_keys:∀p∈hp,p.1∈l:=fun p hpm=>by grind
 have heap1:HeapRel w S M1 (hp.length+1) (hp.map fun p=>(inN l p.1,Zat ex (inN l) (inG hp) p.2)):=by
  refine hh.rl (ex:=ex) (σn:=inN l) (σg:=inG hp) (D:=fun g=>∃p∈hp,p.2.gen=g) rl1 (fun b' bx' hb=>?_) (fun g' m hm=>?_) inj1 (fun g' m hm=>?_)
  ·obtain⟨p,hpm,he⟩:=Yu.1 (za8 _ _ _ hb)
   grind
  ·obtain⟨g1,⟨p,hpm,h1⟩,h2,h3⟩:=hM1b _ _ hm;obtain⟨x,hx⟩:=zhn (hp.map fun p=>(inN l p.1,Zat ex (inN l) (inG hp) p.2)) (inN l p.1,Zat ex (inN l) (inG hp) p.2) (Yu.2 ⟨p,hpm,rfl⟩);refine⟨_,x,hx,?_⟩;obtain⟨q,hqm,he⟩:=Yu.1 (za8 _ _ _ hx);simp only[Prod.mk.injEq]at he;have hqp:q.1=p.1:=by
    grind[inN,zlv]
   have:q.2=p.2:=by
    grind
   rw[<-he.2,this];show inG hp p.2.gen=g'
   grind
  grind
 have range1:∀g k,M1 g=some (some k)->∃g0,M g0=some (some k):=fun g k hm=>let ⟨g1,_,_,h3⟩:=hM1b g _ hm;⟨g1,h3⟩
 refine(hA.2 w S M1 cargs (by grind) (fun j v c hv hc=>?_) heap1 hS (fun g k hm=>let ⟨g0,h0⟩:=range1 g k hm;hM g0 k h0)).mono ?_
 ·obtain⟨c0,h1,rfl⟩:=getElem?_mapped hc;exact((hC j v c0 hv h1).wkIf ex).rlA rl1
 intro e w' ⟨v,r,h',S',M2,clk2,he,⟨hr0,hh',hc2⟩,hCr,hw⟩;subst hr0;subst hh';subst hc2;have hw:=hw 0
 -- back
 have gens:∀(i:Nat) p,hp[i]? = some p->∀(j:Nat) q,hp[j]? = some q->p.2.gen=q.2.gen->i=j:=by
  intro i p hi j q hj hg;have h1:=hh.gens _ _ _ _ (hml p (Yd hi)) (hml q (Yd hj)) hg;refine zj1 l hnd i j p.1 ?_ ?_
  all_goals grind
 have low:∀g m,M2 g=some m->g<hp.length\/hp.length+1<=g:=by
  intro g m hm;rcases Yy g (hp.length+1) with h1 | h1
  ·obtain⟨g1,h2,h3,_⟩:=hM1b g m (hw.ext.hM g m h1 hm);have:=zir hp g1 0 h2;unfold inG at h3;omega
  omega
 have outLt:∀g,g<hp.length->∃p,hp[g]? = some p/\Zb7 hp clk g=p.2.gen/\p.2.gen<clk:=by
  intro g hg;have h1:hp[g]? = some (hp[g]'hg):=Ya hg;refine⟨_,h1,by simp[Zb7,h1],(hh.box _ _ (hml _ (Y7 hg))).1⟩
 have outGe:∀g,hp.length<=g->Zb7 hp clk g=clk+(g-hp.length):=by
  grind[Zb7]
 have inj2:∀g1 g2,(∃m,M2 g1=some m)->Zb7 hp clk g1=Zb7 hp clk g2->g1=g2:=by
  intro g1 g2 ⟨m,hm⟩ he;rcases Yy g1 hp.length with h1 | h1<;>rcases Yy g2 hp.length with h2 | h2
  all_goals grind
 generalize hM3:(fun g'=>if h:∃g,(∃m,M2 g=some m)/\Zb7 hp clk g=g' then M2 (Classical.choose h) else none:Map)=M3;have hM3a:∀g,(∃m,M2 g=some m)->M3 (Zb7 hp clk g)=M2 g:=by
  intro g hg;have h:∃g0,(∃m,M2 g0=some m)/\Zb7 hp clk g0=Zb7 hp clk g:=⟨g,hg,rfl⟩
  grind
 have hM3b:∀g' m,M3 g'=some m->∃g,Zb7 hp clk g=g'/\M2 g=some m:=by
  grind
 have rl2:Rlb M2 M3 clk2 (clk+(clk2-hp.length)) (Zb7 hp clk):=by
  refine⟨fun g hg=>⟨?_,?_⟩⟩
  ·grind
  ·rcases Yy g hp.length with h1 | h1
   all_goals grind
 have back:∀g m,g<clk->M3 g=some m->∃g1,g1<hp.length/\M2 g1=some m/\M1 g1=some m/\M g=some m:=by
  intro g m hg hm;obtain⟨g1,h1,h2⟩:=hM3b _ _ hm;have hlt:g1<hp.length:=by
   grind
  have h3:=hw.ext.hM g1 m (by grind) h2;obtain⟨g2,h4,h5,h6⟩:=hM1b _ _ h3;obtain⟨p,a1,a2,_⟩:=outLt g1 hlt;obtain⟨q,b1,b2,_⟩:=zo1 hp g2 0 h4
  grind[inG]
 refine⟨v,_,_,S',M3,_,he,⟨rfl,rfl,rfl⟩,hCr.rlA rl2,fun nt=>⟨?_,?_,?_,fun k o hs=>?_,hw.Slt,fun g k hm=>?_⟩⟩
 ·refine hw.heap.rl (ex:=true) (σn:=Zbu l d) (σg:=Zb7 hp clk) (D:=fun g=>∃m,M2 g=some m) rl2 (fun b' bx' hb=>?_) (fun g' m hm=>?_) (fun g1 g2 h1 _ he=>inj2 g1 g2 h1 he) (fun g' m hm=>?_)
  ·obtain⟨p,hpm,he⟩:=Yu.1 (za8 _ _ _ hb);cases he;have h1:=zey h' hnd' p hpm;obtain⟨_,_,m,hm,_⟩:=hw.heap.box _ _ h1
   grind
  ·obtain⟨g1,h1,h2⟩:=hM3b _ _ hm;obtain⟨b,bx,h3,h4⟩:=hw.heap.live g1 m h2;refine⟨Zbu l d b,Zat true (Zbu l d) (Zb7 hp clk) bx,?_,by show Zb7 hp clk bx.gen=g';grind⟩;exact zey _ hnd2 (Zbu l d b,Zat true (Zbu l d) (Zb7 hp clk) bx) (Yu.2 ⟨(b,bx),za8 _ _ _ h3,rfl⟩)
  grind
 ·refine⟨hw.ext.hS,hw.ext.hcell,by grind,fun g m hg hm=>?_,fun g k arr e hg hm hb=>?_⟩
  ·grind
  ·obtain⟨g1,h1,h2,_,_⟩:=back g _ hg hm;exact hw.ext.hblk g1 k arr e (by grind) h2 hb
 ·exact⟨hw.fr.os,hw.fr.tape,hw.fr.output,hw.fr.size,fun k hk hn=>hw.fr.block k hk fun⟨g,hm⟩=>hn (range1 g k hm)⟩
 ·rcases hw.Snew k o hs with h1 | h1 | ⟨g,h1⟩
  ·grind
  ·grind
  ·exact .inr (.inr (range1 g k h1))
 ·obtain⟨g1,h1,h2⟩:=hM3b _ _ hm;obtain⟨h3,h4⟩:=hw.Mnew g1 k h2;refine⟨h3,?_⟩;rcases h4 with h4 | ⟨g,h4⟩
  ·grind
  ·exact .inr (range1 g k h4)
def Zbq.wk{P:Program}{f:FuncId}{xs:List AV}{post:AV->Prop}{ex:Bool}(h:Zbq P f (xs.map (wkIf ex)) post):Zbq P f xs post:=
 ⟨h.1,fun w S cargs hl hC hS=>h.2 w S cargs (by grind) (fun j v c hv hc=>by
  obtain⟨c0,h1,rfl⟩:=getElem?_mapped hc;exact(hC j v c0 hv h1).wkIf ex) hS⟩
end
section
open Go.RowKit
def Zee(ν:Nat->FuncId)(τ:Nat->Nat):AOp->AOp
 | .call u args=>.call (ν u) args
 | .ifc k x=>.ifc (τ k) x
 | .inv nm _ _ r args=>.inv nm 0 (if nm="()" then 1 else 0) r args
 | .xop (.mkf k) xs=>.xop (.mkf (τ k)) xs
 | .xop (.mkv k) xs=>.xop (.mkv (τ k)) xs
 | op=>op
def Zz(ν:Nat->FuncId)(τ:Nat->Nat)(o:AO):AO:=⟨o.dst,o.guard,Zee ν τ o.op⟩
def Zdq(ν:Nat->FuncId)(τ:Nat->Nat)(o:DO):DO:=⟨Zz ν τ o.ao,o.lo,o.hi⟩
def er(ν:Nat->FuncId)(τ:Nat->Nat):AX->AC
 | .skip=>.skip
 | .reg l=>.reg (l.map (Zz ν τ))
 | .draw l=>.draw (l.map (Zdq ν τ))
 | .seq a b=>.seq (er ν τ a) (er ν τ b)
 | .cond c x y=>.cond c (er ν τ x) (er ν τ y)
 | .block id c=>.block id (er ν τ c)
 | .loop c=>.loop (er ν τ c)
 | .exit id=>.exit id
 | .ret=>.ret
 | .note c _=>er ν τ c
 | .pre _ c=>er ν τ c
 | .scope c=>.scope (er ν τ c)
 | .lp id _ c _=>.block id (.loop (er ν τ c))
 | .bad=>.bad
 | .drawT hd tl=>.drawT (hd.map (Zz ν τ)) (tl.map (Zz ν τ))
 | .drawM hd tl=>.drawM (hd.map (Zz ν τ)) (tl.map (Zz ν τ))
 | .drawC l1 o l2 tl=>.drawT (l1.map (Zz ν τ)++Zz ν τ o::l2.map (Zz ν τ)) (tl.map (Zz ν τ))
 | .drawN l1 o l2=>.draw (l1.map (Zdq ν τ) ++ ⟨Zz ν τ o,0,0⟩::l2.map (Zdq ν τ))
 | .drawR hd tl=>.drawT (hd.map (Zz ν τ)) (tl.map (Zz ν τ))
 | .drawP l1 o l2 da cs n xs vs=>.draw (l1.map (Zdq ν τ) ++ ⟨Zz ν τ o,0,1⟩::(l2.map (Zdq ν τ)++[⟨⟨some da,none,.alloc cs⟩,0,1⟩,⟨⟨none,none,.store n xs vs⟩,1,2⟩]))
 | .prim _=>.bad
 | .label l=>.label l
 | .goto l=>.goto l
 | .gsc l c r=>.gsc l (er ν τ c) (er ν τ r)
def erF(ν:Nat->FuncId)(τ:Nat->Nat)(af:AFx):AF:=⟨af.np,af.nt,af.res,er ν τ af.body⟩
def Ex.out:Ex->Exit
 | .n=>.normal
 | .x id=>.exit id
 | .r=>.ret
 | .g l=>.goto l
def LWp(cx:Cx)(c:AC)(Q:Exit->St->Prop)(st:St):Prop:=
 ∀code,Zu cx.P cx.nt code=some c->cx.P.follows .mixedOrders=true->∀a w,Rel cx st a w->∀(b:Frame) (k:List Item) (cs:List Frame),
  ∃e a' w',(∃st',Q e st'/\Rel cx st' a' w')/\Arrives cx.P (lone (b.at a (.code code :: .inLoop code::k)) cs w) b k cs e a' w'
def z2z{cx:Cx}{c:AC}{Q:Exit->St->Prop}{st:St}(h:AWp cx c (Zkm (fun s=>LWp cx c Q s) Q) st):LWp cx c Q st:=by
 intro code hc hm a w hr b k cs;obtain⟨ex,a1,w1,⟨st1,hq1,hrel1⟩,harr⟩:=h code hc hm a w hr b (.inLoop code::k) cs;cases ex with
 | normal=>
  obtain⟨e2,a2,w2,hq2,harr2⟩:=hq1 code hc hm a1 w1 hrel1 b k cs;exact⟨e2,a2,w2,hq2,.of_steps (Steps.trans harr (.one step_inLoop)) harr2⟩
 | exit id=>exact⟨_,a1,w1,⟨st1,hq1,hrel1⟩,.pass (x:=.inLoop code) rfl (fun _ _=>.inl (by simp)) harr⟩
 | goto l=>exact⟨_,a1,w1,⟨st1,hq1,hrel1⟩,.pass (x:=.inLoop code) rfl (fun _ _=>.inl (by simp)) harr⟩
 | ret=>exact⟨_,a1,w1,⟨st1,hq1,hrel1⟩,.pass (x:=.inLoop code) rfl (fun _ _=>.inl (by simp)) harr⟩
 | panic ch=>exact⟨_,a1,w1,⟨st1,hq1,hrel1⟩,.pass (x:=.inLoop code) rfl (fun _ _=>.inl (by simp)) harr⟩
 | outgrown=>exact⟨_,a1,w1,⟨st1,hq1,hrel1⟩,.pass (x:=.inLoop code) rfl (fun _ _=>.inl (by simp)) harr⟩
def zj2{cx:Cx}{c:AC}{Q:Exit->St->Prop}{st:St}(h:LWp cx c Q st):AWp cx (.loop c) Q st:=by
 intro code hc hm a w hr;have hcode:=hc;cases code<;>simp only[Zu]at hc<;>try cases hc
 case loop c1=>
  obtain⟨x',hx,he⟩:=map_some hc;cases he;intro b k cs;obtain⟨e,a',w',hq,harr⟩:=h c1 hx hm a w hr b k cs;exact⟨e,a',w',hq,.of_steps (.one step_loop) harr⟩
 case region id ops draw=>
  rcases zaj hcode with ⟨_,l,_,h1⟩ | ⟨_,l,_,⟨n,_,h1⟩ | ⟨_,h1⟩ | ⟨n,_,h1⟩ | h1⟩<;>cases h1
 all_goals simp[Yf]at hc
def LWp.mono{cx:Cx}{c:AC}{Q Q':Exit->St->Prop}{st:St}(h:LWp cx c Q st)(hq:∀ex st,Q ex st->Q' ex st):LWp cx c Q' st:=
 fun code hc hm a w hr b k cs=>let ⟨e,a',w',⟨st',h1,h2⟩,h3⟩:=h code hc hm a w hr b k cs;⟨e,a',w',⟨st',hq _ _ h1,h2⟩,h3⟩
def Is(e:Ex)(st':St):Exit->St->Prop:=fun ex s=>ex=e.out/\s=st'
def zbr{ν:Nat->FuncId}{τ:Nat->Nat}(op:AOp):(Zee ν τ op).writes=op.writes:=by
 cases op<;>first | rfl | (rename_i k xs;cases k<;>rfl)
theorem z21(j:Nat):Zml j≠"()":=by
 unfold Zml
 grind
def zo2{T:Tbl}{k:Nat}{nm:String}{u:Nat}(h:(nm,u)∈Zad T k):nm≠"()":=by
 grind[Zad,Zga,z21]
structure GoodO (P:Program) (ν:Nat->FuncId) (T:Tbl) (O:Orc):Prop where
 meth:∀k nm u,(nm,u)∈Zad T k->Zd5 P (Zf T k) nm=some (ν u)
 fnn:∀k u,Zft T k=some u->Zf T k=ν u
 pure:∀u af xs r h,T u=some af->af.lent=none->O.call u xs []=some (r,h)->Zbq P (ν u) xs (·=r)
 lent:∀u af ms xs hb r hb',T u=some af->af.lent=some ms->O.call u xs hb=some (r,hb')->Zfe P (ν u) xs hb (hb.length+1) (fun r1 h1 c1=>r1=r/\h1=hb'/\c1=hb.length+hb'.length+2)
 loop:∀k c st e st',O.loop k c st=some (e,st')->∀cx:Cx,cx.P=P->cx.clk0=k+1->LWp cx (er ν (Zf T) c) (Is e st') st
section
variable{P:Program}{ν:Nat->FuncId}{T:Tbl}{O:Orc}
def zlb(q:BId->Bool)(h:Heap)(b:BId):(h.filter fun p=>!q p.1).lookup b=if q b=true then none else h.lookup b:=by
 induction h with
 | nil=>simp
 | cons p h ih=>
  grind
def zds(hO:GoodO P ν T O){u:Nat}{xs:List AV}{d:Option Nat}{st st':St}{K:St->Prop}(h:Zar O T u xs d st=some st')(hK:K st') :
  Zhf P (ν u) xs st.heap (fun r h=>K ⟨Zi st.env d r,h,st.clk⟩)\/Zhg P (ν u) xs st.heap st.clk (fun r h c=>K ⟨Zi st.env d r,h,c⟩):=by
 unfold Zar at h;split at h
 ·cases h
 rename_i af hT;split at h
 ·rename_i hl;obtain⟨ys,h1,h2⟩:=bind_some h;obtain⟨r,h3,h4⟩:=bind_some h2;refine .inl ⟨ys,(·=r.1),h1,(hO.pure u af _ r.1 r.2 hT hl h3).wk,?_⟩
  grind
 ·rename_i ms hl;obtain⟨ys,h1,h2⟩:=bind_some h;simp only at h2;generalize hh1:Z8 (Zem ms xs) st.heap=h1' at *
  generalize hll:Zhj h1' 40 (Zht ms xs) []=l at *
  generalize hhp:Zfi h1' l=hp at *
  split at h2
  ·rename_i hc;obtain⟨r,h3,h4⟩:=bind_some h2;generalize hhb:(r.2.map fun p=>(Zbu l (d.getD 0) p.1,Zat true (Zbu l (d.getD 0)) (Zb7 hp st.clk) p.2))=hb' at *
   split at h4
   ·rename_i hchk;cases h4;simp only[Yj,decide_eq_true_eq]at hchk;obtain⟨⟨k2,k3⟩,k4⟩:=hchk;have hmem:∀b bx,hp.lookup b=some bx->h1'.lookup b=some bx:=by
     intro b bx hb;have:=za8 _ _ _ hb;rw[<-hhp]at this;exact zgt this
    have hin:∀b,(hp.lookup b).isSome=true↔b∈l:=by
     intro b;constructor
     ·intro hb;obtain⟨bx,hb⟩:=Ycc.1 hb;rw[<-hc.1];exact Yu.2 ⟨_,za8 _ _ _ hb,rfl⟩
     ·intro hb;rw[<-hc.1]at hb;obtain⟨p,hp1,rfl⟩:=Yu.1 hb;obtain⟨x,hx⟩:=zhn _ _ hp1
      grind
    have hlk:∀id,(h1'.filter fun p=>!(l.contains p.1 || (hb'.map (·.1)).contains p.1)).lookup id=if (l.contains id || (hb'.map (·.1)).contains id)=true then none else h1'.lookup id:=
     fun id=>zlb (fun b=>l.contains b || (hb'.map (·.1)).contains b) h1' id
    refine .inr ⟨ms,ys,h1,hp,h1'.filter (fun p=>!(l.contains p.1 || (hb'.map (·.1)).contains p.1)),_,⟨fun id bx hid=>?_,fun id bx hid=>?_⟩,fun id hid=>?_,Zfe.rl hc.1 hc.2 (by rw[hhb];omega) (by
     have:=hO.lent u af ms _ _ r.1 r.2 hT hl h3;rw[Y3]at this;exact this),?_⟩
    ·grind
    ·grind
    ·rw[hlk,if_pos (by grind)]
    ·rintro r' h' c' hle ⟨rfl,rfl,rfl⟩
     rw[hhb]
     grind
   grind
  grind
theorem zyx(hO:GoodO P ν T O){op:AOp}{d:Option Nat}{st st':St}{K:St->Prop}(h:opX O T op d st=some st')(hK:K st'):opK P (Zee ν (Zf T) op) d st K:=by
 cases op<;>simp only[opX]at h
 case call u args=>exact zds hO h hK
 case ifc k x=>
  cases h;exact⟨_,rfl,hK⟩
 case inv nm k u r args=>
  split at h
  ·rename_i t y hy;split at h
   ·rename_i hc;obtain⟨rfl,hm⟩:=hc;exact .inl ⟨if_neg (zo2 hm),_,y,_,hy,hO.meth k nm u hm,zds hO h hK⟩
   grind
  ·rename_i f x hy;split at h
   ·rename_i hc;obtain⟨rfl,rfl,hm⟩:=hc;have hc:=zds hO h hK;rw[<-hO.fnn k u hm]at hc;exact .inr (.inl ⟨rfl,_,x,hy,hc⟩)
   grind
  ·rename_i f id g z i o hy;split at h
   ·rename_i hc;obtain⟨rfl,rfl,hm⟩:=hc;have hc:=zds hO h hK;rw[<-hO.fnn k u hm]at hc;exact .inr (.inr ⟨rfl,_,id,g,z,i,o,hy,zyp hm,hc⟩)
   grind
  grind
 case xop k xs=>
  cases k
  all_goals
   obtain⟨q,h1,rfl⟩:=map_some h;exact⟨q,h1,hK⟩
 all_goals
  obtain⟨q,h1,rfl⟩:=map_some h;exact⟨q,h1,hK⟩
def zo3(hO:GoodO P ν T O){o:AO}{st st':St}{K:St->Prop}(h:Zh8 O T o st=some st')(hK:K st'):Zi1 P (Zz ν (Zf T) o) st K:=by
 grind[Zh8,Zi1,Zz,zyx,gX]
theorem zdg(hO:GoodO P ν T O):∀(l:List AO) (st st':St) (K:St->Prop),Zey O T l st=some st'->K st'->Zew P (l.map (Zz ν (Zf T))) st K
 | [],st,st',K,h,hK=>by cases h;exact hK
 | o::l,st,st',K,h,hK=>by
  obtain⟨s1,h1,h2⟩:=bind_some h;exact zo3 hO h1 (zdg hO l s1 st' K h2 hK)
theorem zo4(hO:GoodO P ν T O){op:AOp}{e:Env}{h:Heap}{older:List Heap}{x:AV}{K:AV->Prop}(hx:opD O T op e h older=some x)(hK:K x):opQ P (Zee ν (Zf T) op) e h older K:=by
 by_cases hap:∃z x0 y,op=.app z x0 y
 ·obtain⟨z,x0,y,rfl⟩:=hap;by_cases hc:x0=.c (.sl [] .nl)
  ·subst hc;exact⟨x,hx,hK⟩
  ·exfalso;cases x0 with
   | t n=>simp[opD,Zm]at hx
   | c a=>
    cases a
    case sl els f=>
     cases els with
     | nil=>cases f<;>first | exact hc rfl | simp[opD,Zm]at hx
     | cons r l=>simp[opD,Zm]at hx
    all_goals simp[opD,Zm]at hx
 cases op<;>(try exact absurd ⟨_,_,_,rfl⟩ hap)<;>simp only[opD]at hx
 case call u args=>
  split at hx
  ·grind
  rename_i af hT;split at hx
  ·rename_i hc;simp only[Yj]at hc;obtain⟨r,h1,rfl⟩:=map_some hx;exact⟨_,⟨zee hc.2,fun hf=>by grind⟩,r.1,(hO.pure u af _ r.1 r.2 hT (by simp_all) h1).wk,hK⟩
  grind
 case ifc k x=>
  cases hx;exact⟨_,rfl,trivial,hK⟩
 case inv nm k u r args=>
  split at hx
  ·rename_i t y hy;split at hx
   ·rename_i hc0;obtain⟨rfl,hm⟩:=hc0;split at hx
    ·grind
    rename_i af hT;split at hx
    ·rename_i hc;simp only[Yj]at hc;obtain⟨r,h1,rfl⟩:=map_some hx;exact⟨if_neg (zo2 hm),_,y,_,hy,hO.meth k nm u hm,hc.2,r.1,(hO.pure u af _ r.1 r.2 hT (by simp_all) h1).wk,hK⟩
    grind
   grind
  grind
 case bsl z zs len ps=>
  split at hx
  ·rename_i hc;obtain⟨q,h1,rfl⟩:=map_some hx;exact⟨hc,q,h1,hK⟩
  grind
 case xop k xs=>
  simp_all
 all_goals
  obtain⟨q,h1,h2⟩:=bind_some hx;split at h2
  ·rename_i hc;cases h2;refine⟨_,h1,?_,hK⟩;rcases zvh hc with hc | hc
   ·simp only[Zee];rw[hc]
    trivial
   ·simp only[Zee];split
    ·trivial
    ·exact hc
  ·cases h2
def ztm{o:AO}{e:Env}{h':Heap}{x:AV}(hf:o.op.free=false)(hw:o.op.writes=false)(hg:o.guard=none\/∃t want,o.guard=some (t,want)/\e.get t=.b want)(hs:Zh9 o.op e.get h'=some x):QF P h' (Zz ν (Zf T) o) e.get x:=by
 have hq:QOp P (Zee ν (Zf T) o.op) e.get h' x:=by
  obtain⟨d,g,op⟩:=o;by_cases hap:∃z x0 y,op=.app z x0 y
  ·obtain⟨z,x0,y,rfl⟩:=hap;by_cases hc:x0=.c (.sl [] .nl)
   all_goals simp_all
  cases op<;>first | exact absurd ⟨_,_,_,rfl⟩ hap | exact hs | (cases hf;done) | (cases hw;done) | (cases hs)
 grind[QF,Zz]
def zyy{o:AO}{e:Env}{h':Heap}(hg:∃t want,o.guard=some (t,want)/\(e.get t=.b (!want)\/e.get t=.tup [])):QF P h' (Zz ν (Zf T) o) e.get (.tup []):=by
 grind[QF,Zz]
def ztn{o:AO}{e:Env}{h h':Heap}{x:AV}(hf:o.op.freeE e.get=true)(hq:QF P h (Zz ν (Zf T) o) e.get x):QF P h' (Zz ν (Zf T) o) e.get x:=
 zmt (o:=Zz ν (Zf T) o) (by show (Zee ν (Zf T) o.op).freeE e.get=true;cases hop:o.op<;>rw[hop]at hf<;>first | rfl | exact hf | cases hf) h h' hq
def zto{o:AO}{e:Env}{h:Heap}{older:List Heap}{r:AV×Bool}(hx:qX O T o e h older=some r)(hr:r.2=true)(hf:o.op.free=true):o.op.freeE e.get=true:=by
 cases hop:o.op
 case call u args=>
  have key:∀x,opD O T (.call u args) e h older=some x->(args.map (ev e.get)).all noRef=true:=by
   grind[opD]
  unfold qX at hx;rw[hop]at hx;split at hx
  ·obtain⟨x,h1,_⟩:=map_some hx;exact key x h1
  ·split at hx
   ·split at hx
    ·obtain⟨x,h1,_⟩:=map_some hx;exact key x h1
    grind
   all_goals grind
 all_goals (rw[hop]at hf;exact hf)
def zfj(hO:GoodO P ν T O){o:AO}{e:Env}{h:Heap}{older:List Heap}{r:AV×Bool}{K:AV->Prop}(hx:qX O T o e h older=some r)(hK:K r.1) :
  qK P (Zz ν (Zf T) o) e h older K/\(r.2=true->(o.guard=none\/∃t want,o.guard=some (t,want)/\e.get t=.b want))/\(r.2=false->r.1=.tup []/\∃t want,o.guard=some (t,want)/\(e.get t=.b (!want)\/e.get t=.tup [])):=by
 unfold qX at hx;unfold qK;simp only[Zz];cases hg:o.guard with
 | none=>
  rw[hg]at hx;obtain⟨x,h1,rfl⟩:=map_some hx
  grind[zo4]
 | some p=>
  obtain⟨t,want⟩:=p;rw[hg]at hx;simp only at hx ⊢;cases hx2:e.get t with
  | b v=>
   rw[hx2]at hx;simp only at hx ⊢;split at hx
   ·rename_i hv;obtain⟨x,h1,rfl⟩:=map_some hx
    grind[zo4]
   ·rename_i hv;rw[if_neg hv];cases hx;refine⟨hK,?_,?_⟩
    ·grind
    intro _;refine⟨rfl,t,want,rfl,.inl ?_⟩;cases v<;>cases want<;>simp_all
  | tup l=>
   grind
  | _=>rw[hx2]at hx;simp at hx
def zco{pend:Zaw}{h:Heap}(hp:Zas pend h=true):∀p∈pend,0<p.1->Zh9 p.2.1 p.2.2.1.get h=some p.2.2.2:=by
 grind[Zas]
def Zgq(pendX:Zaw)(pend:Zj1):Prop:=∀q∈pend,(∀h',q.2 h')\/q.1=0\/∃p∈pendX,p.1=q.1/\∀h',Zh9 p.2.1 p.2.2.1.get h'=some p.2.2.2->q.2 h'
def Zgq.next{pendX:Zaw}{pend:Zj1}(h:Zgq pendX pend):Zgq (pendX.map fun p=>(p.1-1,p.2)) (pend.map fun p=>(p.1-1,p.2)):=by
 intro q hq;obtain⟨q0,h1,rfl⟩:=Yu.1 hq;rcases h q0 h1 with h2 | h2 | ⟨p,h2,h3,h4⟩
 ·grind
 ·omega
 ·exact .inr (.inr ⟨_,Yu.2 ⟨p,h2,rfl⟩,by omega,h4⟩)
theorem zdt(hO:GoodO P ν T O):∀(l:List DO) (e:Env) (h:Heap) (clk:Nat) (older:List Heap) (pendX:Zaw) (pend:Zj1) (st':St) (K:St->Prop),Zgq pendX pend->Zch O T l e h clk older pendX=some st'->K st'->Zgz P (l.map (Zdq ν (Zf T))) e h clk older pend K
 | [],e,h,clk,older,pendX,pend,st',K,hpr,hx,hK=>by cases hx;exact hK
 | o::l,e,h,clk,older,pendX,pend,st',K,hpr,hx,hK=>by
  simp only[Zch]at hx;simp only[Y9,Zgz];have hw:(Zdq ν (Zf T) o).ao.op.writes=o.ao.op.writes:=by
   exact zbr _
  rw[hw];cases ho:o.ao.op.writes with
  | true=>
   rw[ho]at hx;simp only at hx ⊢;split at hx
   ·rename_i hg;obtain⟨q,h1,h2⟩:=bind_some hx;split at h2
    ·rename_i hpd;have e1:Zee ν (Zf T) o.ao.op=o.ao.op:=by
      cases hop:o.ao.op<;>rw[hop]at ho<;>first | rfl | (simp[AOp.writes]at ho;done) | (rename_i k xs;cases k<;>first | rfl | simp_all)
     refine⟨by show o.ao.guard=none;simpa using hg,q,?_,fun p hp h0=>?_,zdt hO l _ _ _ _ _ _ st' K hpr.next h2 hK⟩
     ·show stepW (Zee ν (Zf T) o.ao.op) o.ao.dst e.get h clk=some q
      grind
     ·rcases hpr p hp with h3 | h3 | ⟨p',h3,h4,h5⟩
      ·grind
      ·omega
      ·exact h5 _ (zco hpd p' h3 (by omega))
    grind
   grind
  | false=>
   rw[ho]at hx;simp only at hx ⊢;split at hx
   rotate_left
   ·rename_i p hrow;obtain⟨x,h1,h2⟩:=bind_some hx;obtain⟨hg,args,hop,hfr,hold⟩:=zgs hrow;unfold Zfj at h1;split at h1
    ·grind
    rename_i af hT;split at h1
    rotate_left
    ·grind
    obtain⟨r,h3,rfl⟩:=map_some h1;have hcall:Zbq P (ν p.1) p.2 (·=r.1):=(hO.pure p.1 af _ r.1 r.2 hT (by simp_all) h3).wk;have hao:Zz ν (Zf T) o.ao=⟨o.ao.dst,none,.call (ν p.1) args⟩:=by unfold Zz;rw[hg,hop];rfl
    show qK P (Zz ν (Zf T) o.ao) e h (older.take (older.length-o.lo)) _;rw[hao];refine⟨p.2,⟨hfr,fun _=>hold⟩,r.1,hcall,?_⟩;refine zdt hO l _ _ _ _ _ _ st' K ?_ h2 hK;intro q hq;rcases Yw.1 hq with rfl | hq
    ·by_cases hn:older.length<o.hi
     ·refine .inr (.inr ⟨(o.hi-older.length,o.ao.op,e,.tup p.2),?_,rfl,fun h' hs=>?_⟩)
      ·grind
      ·simp only[hop,Zh9]at hs;obtain⟨zs,h6,h7⟩:=map_some hs;cases h7;show QF P h' (Zz ν (Zf T) o.ao) e.get r.1;rw[hao];exact⟨_,h6,hcall⟩
     ·exact .inr (.inl (by show o.hi-older.length=0;omega))
    ·rcases hpr q hq with h3 | h3 | ⟨p',h3,h4,h5⟩
     all_goals grind
   obtain⟨r,h1,h2⟩:=bind_some hx;have key:=fun(K':AV->Prop) (hk:K' r.1)=>zfj hO (K:=K') h1 hk;refine(key _ ?_).1;refine zdt hO l _ _ _ _ _ _ st' K ?_ h2 hK;obtain⟨_,k1,k2⟩:=key (fun _=>True) trivial;intro q hq;rcases Yw.1 hq with rfl | hq
   ·cases hr2:r.2 with
    | false=>
     obtain⟨h3,h4⟩:=k2 hr2;exact .inl fun h'=>by
      rw[h3];exact zyy h4
    | true=>
     cases hf:o.ao.op.free with
     | true=>
      obtain⟨hqk,_⟩:=key (fun x=>x=r.1) rfl;obtain⟨x,hq1,_,hxr⟩:=zu0 (o:=Zz ν (Zf T) o.ao) (by rw[<-ho];exact hw) hqk;subst hxr;exact .inl fun h'=>ztn (zto h1 hr2 hf) hq1
     | false=>
      by_cases hn:older.length<o.hi
      ·refine .inr (.inr ⟨(o.hi-older.length,o.ao.op,e,r.1),?_,rfl,fun h' hs=>ztm hf ho (k1 hr2) hs⟩)
       grind[Zcg]
      ·exact .inr (.inl (by show o.hi-older.length=0;omega))
   ·rcases hpr q hq with h3 | h3 | ⟨p,h3,h4,h5⟩
    ·grind
    ·omega
    grind[Zcg]
theorem zj3(hO:GoodO P ν T O)(tl:List AO):∀(l:List AO) (e:Env) (h:Heap) (clk:Nat) (st':St) (K:St->Prop),Zfk O T tl l e h clk=some st'->K st'->Zf8 P (tl.map (Zz ν (Zf T))) (l.map (Zz ν (Zf T))) e h clk K
 | [],e,h,clk,st',K,hx,hK=>zdg hO tl _ st' K hx hK
 | o::l,e,h,clk,st',K,hx,hK=>by
  obtain⟨r,h1,h2⟩:=bind_some hx;exact(zfj hO (K:=fun x=>Zf8 P (tl.map (Zz ν (Zf T))) (l.map (Zz ν (Zf T))) (Zi e o.dst x) h clk K) h1 (zj3 hO tl l _ h clk st' K h2 hK)).1
theorem zf7(hO:GoodO P ν T O)(tl:List AO):∀(l:List AO) (e:Env) (h:Heap) (clk:Nat) (st':St) (K:St->Prop),Zdp O T tl l e h clk=some st'->K st'->Zf8 P (tl.map (Zz ν (Zf T))) (l.map (Zz ν (Zf T))) e h clk K
 | [],e,h,clk,st',K,hx,hK=>zdg hO tl _ st' K hx hK
 | o::l,e,h,clk,st',K,hx,hK=>by
  unfold Zdp at hx;split at hx
  ·obtain⟨r,h1,h2⟩:=bind_some hx;exact(zfj hO (K:=fun x=>Zf8 P (tl.map (Zz ν (Zf T))) (l.map (Zz ν (Zf T))) (Zi e o.dst x) h clk K) h1 (zf7 hO tl l _ h clk st' K h2 hK)).1
  ·rename_i p hrow;obtain⟨x,h1,h2⟩:=bind_some hx;obtain⟨hg,args,hop,hfr,hold⟩:=zgs hrow;unfold Zfj at h1;split at h1
   ·grind
   rename_i af hT;split at h1
   rotate_left
   ·grind
   obtain⟨r,h3,rfl⟩:=map_some h1;have hcall:Zbq P (ν p.1) p.2 (·=r.1):=(hO.pure p.1 af _ r.1 r.2 hT (by simp_all) h3).wk;have hao:Zz ν (Zf T) o=⟨o.dst,none,.call (ν p.1) args⟩:=by unfold Zz;rw[hg,hop];rfl
   have ih:=zf7 hO tl l _ h clk st' K h2 hK;show qK P (Zz ν (Zf T) o) e h [] _;rw[hao];exact⟨p.2,⟨hfr,fun _=>hold⟩,r.1,hcall,ih⟩
def zho{c0:Nat}{op:AOp}{e:Env}{l:List Nat}{ν:Nat->FuncId}{τ:Nat->Nat}(h:Zju c0 op e l=true):∀g∈l,Zhh c0 (Zee ν τ op) e.get g:=by
 intro g hg;have h1:=Yn.1 h g hg;simp only[Yc4,decide_eq_true_eq,List.any_eq_true,List.contains_iff_mem]at h1;rcases h1 with h1 | ⟨t,ht,h2⟩
 ·exact .inl h1
 ·refine .inr ⟨t,?_,h2⟩;cases op<;>first | exact ht | (cases ht;done) | (rename_i k xs;cases k<;>first | exact ht | cases ht)
def zrm(hO:GoodO P ν T O){u:Nat}{xs:List AV}{d clk:Nat}{q:AV×Heap×Nat}(h:Zfl O T u xs d clk=some q):∃m,q.2.2=clk+m/\Zmg P (ν u) xs clk q.1 q.2.1 m:=by
 unfold Zfl at h;split at h
 ·cases h
 rename_i af hT;split at h
 ·cases h
 rename_i ms hl;split at h
 ·rename_i hn;obtain⟨r,h3,h4⟩:=bind_some h;simp only at h4;split at h4
  ·rename_i hc;cases h4;obtain⟨hnd,hg1,hg2⟩:=hc;refine⟨r.2.length+2,rfl,hn,?_,hnd,fun g hg=>?_,fun p hp g hg=>?_⟩
   ·have hA:=hO.lent u af ms _ _ r.1 r.2 hT hl h3;have:=Zfe.rl (ys:=xs) (hp:=[]) (clk:=clk) (d:=d) (ex:=af.exact) (l:=[]) (r0:=r.1) (hb':=r.2) (c':=0+r.2.length+2) rfl List.nodup_nil (by grind) (by simpa using hA)
    grind
   ·have:=Yn.1 hg1 g hg
    grind
   ·obtain⟨hk,rr,hr,y,hy,hgy⟩:=hg;have h5:=Yn.1 hg2 p hp;simp only[hk,if_true]at h5;have h6:=Yn.1 (Yn.1 h5 rr hr) y hy;have:=Yn.1 h6 g hgy
    grind
  grind
 grind
def zlw{op:AOp}{ua:Nat×List Opd}(h:op.lentN=some ua):op=.call ua.1 ua.2:=by
 cases op<;>simp only[AOp.lentN]at h<;>try cases h
 grind
theorem zgu(q:BId->Bool):∀(h:Heap) (id:BId),(h.filter fun p=>q p.1).lookup id=if q id then h.lookup id else none
 | [],id=>by grind
 | (c,x)::h,id=>by
  have ih:=zgu q h id
  grind
def zf8(ids:List BId)(h:Heap):Zd3 (Zgp ids h) h:=by
 intro id bx hb;unfold Zgp at hb;split at hb
 ·omega
 ·rw[zgu fun b=>!ids.contains b]at hb
  grind
def zyz{z d g g' z' off n:Nat}{x' y:Opd}{ρ:Nat->AV}{x:AV}{hp:Heap}{c:Nat}{b:BId}{o:Box}(hv:ev ρ x'=.bs b g' z' off n)(h:stepW (.app z x' y) (some d) ρ [(b,o)] g=some (x,hp,c)) :
  ∃bx,hp=[(b,bx),(b,o)]/\c=g+1/\bx.gen=g:=by
 obtain⟨ys,_,h1⟩:=bind_some h;rw[hv]at h1;obtain⟨b0,_,h2⟩:=bind_some h1
 grind
def Inv(X h:Heap)(c0:Nat):Prop:=∀id o,X.lookup id=some o->h.lookup id=some o\/∃o',h.lookup id=some o'/\c0<=o'.gen
theorem zcp(hO:GoodO P ν T O)(tl:List AO)(h0 X:Heap)(c0:Nat)(hX0:Zd3 h0 X):∀(l:List AO) (e:Env) (h:Heap) (clk:Nat) (st':St) (K:St->Prop),Zd3 h0 h->c0<=clk->Inv X h c0->Zbr O T tl h0 c0 X l e h clk=some st'->K st'->Zcl P h0 c0 X (fun e h clk=>Zew P (tl.map (Zz ν (Zf T))) ⟨e,h,clk⟩ K) (l.map (Zz ν (Zf T))) e h clk
 | [],e,h,clk,st',K,_,_,_,hx,hK=>zdg hO tl _ st' K hx hK
 | o::l,e,h,clk,st',K,hsb,hck,hinv,hx,hK=>by
  simp only[Zbr]at hx;simp only[Y9,Zcl];have hmk:(Zz ν (Zf T) o).op.maker=o.op.maker:=by
   obtain⟨d,g,op⟩:=o;cases op<;>first | rfl | (rename_i k xs;cases k<;>rfl)
  have hsE:(Zz ν (Zf T) o).op.isStore=o.op.isStore:=by
   obtain⟨d,g,op⟩:=o;cases op<;>first | rfl | (rename_i k xs;cases k<;>rfl)
  have hadd:∀(B:Heap),(∀p∈B,h.lookup p.1=none)->Zd3 h0 (B++h):=by
   intro B hB id bx hid;have h1:=hsb id bx hid
   grind
  have hiadd:∀(B:Heap),(∀p∈B,h.lookup p.1=none)->Inv X (B++h) c0:=by
   intro B hB id o ho;have hn:B.lookup id=none:=by
    cases hl:B.lookup id with
    | none=>rfl
    | some y=>
     rcases hinv id o ho with h2 | ⟨o',h2,_⟩<;>(grind)
   rw[zc5,hn];simpa using hinv id o ho
  have hXn:∀id,h.lookup id=none->X.lookup id=none:=by
   intro id hid;cases hl:X.lookup id with
   | none=>rfl
   | some o=>rcases hinv id o hl with h2 | ⟨o',h2,_⟩<;>(grind)
  have h0n:∀id,X.lookup id=none->h0.lookup id=none:=by
   intro id hid;cases hl:h0.lookup id with
   | none=>rfl
   | some o=>have:=hX0 _ _ hl;grind
  rw[hmk,hsE];cases hm:o.op.maker with
  | true=>
   rw[hm]at hx;simp only at hx ⊢;split at hx
   ·rename_i d hg hd;have hop:Zee ν (Zf T) o.op=o.op:=by
     obtain⟨d,g,op⟩:=o;cases op<;>first | rfl | (cases hm;done) | (rename_i k xs;cases k<;>first | rfl | cases hm)
    split at hx
    rotate_left
    ·rename_i p how;obtain⟨q,h1,h2⟩:=bind_some hx;split at h2
     ·rename_i hc;obtain⟨x,hp,c'⟩:=q;obtain⟨b,bo⟩:=p;obtain⟨z,x',y,g',z',off,n,hopa,hev⟩:∃z x' y g' z' off n,o.op=.app z x' y/\ev e.get x'=.bs b g' z' off n:=by
       unfold Zjh at how;split at how
       ·rename_i z x' y hoa;cases hv:ev e.get x'<;>rw[hv]at how<;>simp only[Zlu]at how<;>try (cases how;done)
        unfold Zmn at how
        grind
       grind
      obtain⟨hb1,⟨ox,hb2⟩,hb3,hb4⟩:h0.lookup b=none/\(∃ox,X.lookup b=some ox)/\h.lookup b=some bo/\bo.gen<c0:=by
       rw[hopa]at how;simp only[Zjh,hev,Zlu]at how;unfold Zmn at how
       grind
      have hbx:X.lookup b=some bo:=by
       rcases hinv b ox hb2 with h3 | ⟨o',h3,h4⟩
       all_goals grind
      obtain⟨bx,rfl,rfl,hbg⟩:=zyz hev (by rw[hopa]at h1;exact h1);simp only[List.take_succ_cons,Yb9]at h2 hc;refine⟨hg,d,x,b,bx,some bo,hd,by rw[show (Zz ν (Zf T) o).op=o.op from hop];exact h1,hb3,hbx,hb1,fun o2 ho2=>by grind,fun g hgb=>?_,zcp hO tl h0 X c0 hX0 l _ _ _ st' K (fun id y hy=>?_) (by omega) (fun id o2 ho2=>?_) h2 hK⟩
      ·obtain⟨hk,r,hr,y,hy,hgy⟩:=hgb;simp only[Zj8,Ybv,Yen,Yex,hk,if_true,Yn]at hc;exact zho (hc r hr y hy) g hgy
      ·have hne:(id == b)=false:=by
        grind
       rw[Yay,hne];exact hsb id y hy
      ·rw[Yay];by_cases hi:id=b
       ·grind
       ·have hne:(id == b)=false:=by grind
        rw[hne];exact hinv id o2 ho2
     grind
    obtain⟨q,h1,h2⟩:=bind_some hx;split at h2
    ·rename_i hc;simp only[Yj]at hc;obtain⟨x,hp,c'⟩:=q;obtain⟨bx,rfl,rfl⟩:∃bx,hp=[(.loc d,bx)]/\c'=clk+1:=zq6 hm h1;have hln:h.lookup (.loc d)=none:=Ycy.1 hc.1;have hB1:∀p∈[((.loc d:BId),bx)],h.lookup p.1=none:=fun p hp=>by grind
     refine⟨hg,d,x,.loc d,bx,none,hd,by rw[show (Zz ν (Zf T) o).op=o.op from hop];exact h1,hln,hXn _ hln,h0n _ (hXn _ hln),fun o2 ho2=>(by grind),fun g hgb=>?_,zcp hO tl h0 X c0 hX0 l _ _ _ st' K (hadd [(.loc d,bx)] hB1) (by omega) (hiadd _ hB1) h2 hK⟩;obtain⟨hk,r,hr,y,hy,hgy⟩:=hgb;have h3:=hc.2;simp only[Zj8,Ybv,Yen,Yex,hk,if_true,Yn]at h3;exact zho (h3 r hr y hy) g hgy
    grind
   grind
  | false=>
   rw[hm]at hx;cases hst:o.op.isStore with
   | true=>
    rw[hst]at hx;simp only at hx ⊢;split at hx
    ·rename_i hg hd;obtain⟨q,h1,h2⟩:=bind_some hx;split at h2
     ·rename_i hfr;obtain⟨dd,gg,op⟩:=o;subst hg hd;cases op<;>try (cases hst;done)
      rename_i n x v;obtain⟨h',e1,rfl⟩:=map_some h1;refine⟨rfl,rfl,h',?_,?_,zcp hO tl h0 X c0 hX0 l e h' clk st' K ?_ hck ?_ h2 hK⟩
      ·show stepW (.store n x v) none e.get h clk=_;simp only[stepW,e1]
       rfl
      rotate_left 2
      ·intro id bx hid;simp only[Zhu]at hfr;unfold Zce at e1;split at e1
       ·rename_i id2 g z i o hx2;rw[hx2]at hfr;obtain⟨bx2,_,e2⟩:=bind_some e1;obtain⟨r2,_,e3⟩:=bind_some e2;obtain⟨cs,_,e4⟩:=bind_some e3;split at e4
        ·cases e4;have hne:(id == id2)=false:=by
          grind
         simp only[Yay,hne];exact hinv id bx hid
        grind
       grind
      all_goals
       intro id bx hid;have h3:=hsb id bx hid;replace hid:=hX0 id bx hid;simp only[Zhu]at hfr;unfold Zce at e1;split at e1
       ·rename_i id2 g z i o hx2;rw[hx2]at hfr;simp only[Ycy]at hfr;obtain⟨bx2,_,e2⟩:=bind_some e1;obtain⟨r2,_,e3⟩:=bind_some e2;obtain⟨cs,_,e4⟩:=bind_some e3
        grind
       grind
     grind
    grind
   | false=>
   rw[hst]at hx;cases hlN:o.op.lentN with
   | some ua=>
    rw[hlN]at hx;simp only at hx;split at hx
    ·rename_i d hg hd;obtain⟨q,h1,h2⟩:=bind_some hx;split at h2
     ·rename_i hfr;obtain⟨m,hm2,hcb⟩:=zrm hO h1;obtain⟨dd,gg,op⟩:=o;subst hg hd;have hop:=zlw hlN;subst hop;rw[hm2]at h2;exact .inr ⟨rfl,ν ua.1,ua.2,d,q.1,q.2.1,m,rfl,rfl,hcb,fun p hp=>by simpa using Yn.1 hfr p hp,zcp hO tl h0 X c0 hX0 l _ _ _ st' K (hadd _ fun p hp=>by simpa using Yn.1 hfr p hp) (by omega) (hiadd _ fun p hp=>by simpa using Yn.1 hfr p hp) h2 hK⟩
     grind
    grind
   | none=>
   rw[hlN]at hx;obtain⟨x,h1,h2⟩:=bind_some hx;split at h2
   ·rename_i hc;refine .inl ?_;exact(zfj hO (K:=fun x=>(∀g∈gnA x,Zhh c0 (Zz ν (Zf T) o).op e.get g)/\Zcl P h0 c0 X (fun e h clk=>Zew P (tl.map (Zz ν (Zf T))) ⟨e,h,clk⟩ K) (l.map (Zz ν (Zf T))) (Zi e o.dst x) h clk) h1 ⟨zho hc,zcp hO tl h0 X c0 hX0 l _ h clk st' K hsb hck hinv h2 hK⟩).1
   grind
def zy0{O:Orc}{u:Nat}{xs:List AV}{d:Option Nat}{st s:St}(h:Zar O T u xs d st=some s):∃r,s.env=Zi st.env d r:=by
 unfold Zar at h;split at h
 ·cases h
 split at h
 ·obtain⟨ys,h1,h2⟩:=bind_some h;obtain⟨r,h3,h4⟩:=bind_some h2;cases h4;exact⟨_,rfl⟩
 ·obtain⟨ys,h1,h2⟩:=bind_some h;simp only at h2;split at h2
  ·obtain⟨r,h3,h4⟩:=bind_some h2;split at h4
   ·cases h4;exact⟨_,rfl⟩
   ·cases h4
  ·cases h2
def zvj{f:FuncId}{xs:List AV}{h:Heap}{K K':AV->Heap->Prop}(hk:∀r h,K r h->K' r h)(hc:Zhf P f xs h K):Zhf P f xs h K':=by
 obtain⟨ys,post,h1,h2,h3⟩:=hc;exact⟨ys,post,h1,h2,fun r hr=>hk _ _ (h3 r hr)⟩
def zvk{f:FuncId}{xs:List AV}{h:Heap}{clk:Nat}{K K':AV->Heap->Nat->Prop}(hk:∀r h c,K r h c->K' r h c)(hc:Zhg P f xs h clk K):Zhg P f xs h clk K':=by
 obtain⟨ms,ys,h1,hb,hr,post,h2,h3,h4,h5⟩:=hc;refine⟨ms,ys,h1,hb,hr,post,h2,h3,h4,fun r hb' c' h6 h7=>?_⟩;obtain⟨e1,e2,e3,e4⟩:=h5 r hb' c' h6 h7;exact⟨e1,e2,e3,hk _ _ _ e4⟩
def ztp{op:AOp}{e:Env}{h:Heap}{older:List Heap}{K K':AV->Prop}(hk:∀x,K x->K' x)(hc:opQ P op e h older K):opQ P op e h older K':=by
 by_cases hap:∃z x0 y,op=.app z x0 y
 ·obtain⟨z,x0,y,rfl⟩:=hap;by_cases hx:x0=.c (.sl [] .nl)
  ·subst hx;obtain⟨x,h1,h2⟩:=hc;exact⟨x,h1,hk _ h2⟩
  ·cases x0 with
   | t n=>
    obtain⟨x,h1,h2,h3⟩:=hc;exact⟨x,h1,h2,hk _ h3⟩
   | c a=>
    cases a
    case sl els f=>
     cases els with
     | nil=>
      cases f
      case nl=>exact absurd rfl hx
      all_goals
       obtain⟨x,h1,h2,h3⟩:=hc;exact⟨x,h1,h2,hk _ h3⟩
     | cons r l=>
      obtain⟨x,h1,h2,h3⟩:=hc;exact⟨x,h1,h2,hk _ h3⟩
    all_goals
     obtain⟨x,h1,h2,h3⟩:=hc;exact⟨x,h1,h2,hk _ h3⟩
 cases op<;>(try exact absurd ⟨_,_,_,rfl⟩ hap)
 case call f args=>
  obtain⟨ys,h1,r,h3,h4⟩:=hc;exact⟨ys,h1,r,h3,hk _ h4⟩
 case inv=>
  obtain⟨h0,t,y,f,h1,h2,h3,r,h4,h5⟩:=hc;exact⟨h0,t,y,f,h1,h2,h3,r,h4,hk _ h5⟩
 case bsl=>
  obtain⟨h1,q,h2,h3⟩:=hc;exact⟨h1,q,h2,hk _ h3⟩
 all_goals
  obtain⟨x,h1,h2,h3⟩:=hc;exact⟨x,h1,h2,hk _ h3⟩
def z6x{o:AO}{e:Env}{h:Heap}{older:List Heap}{K K':AV->Prop}(hk:∀x,K x->K' x)(hc:qK P o e h older K):qK P o e h older K':=by
 unfold qK at hc ⊢;split at hc
 ·exact ztp hk hc
 ·split at hc
  ·split at hc
   ·rename_i hv;simp only[hv,if_true];exact ztp hk hc
   ·rename_i hv;simp only[hv,if_false];exact hk _ hc
  ·exact hk _ hc
  ·exact hc
def zeh(hO:GoodO P ν T O){o:AO}{e:Env}{h:Heap}{clk:Nat}{s:St}(hx:Zfy O T o ⟨e,h,clk⟩=some s):∃x,Zfg P (Zz ν (Zf T) o) e.get h clk x s.heap s.clk/\s.env=Zi e o.dst x:=by
 obtain⟨dst,g,op⟩:=o;unfold Zfy at hx;simp only at hx;split at hx
 ·rename_i d u args;obtain⟨x,hx2⟩:=zy0 hx;have hc:=zds hO (K:=fun s'=>s'=s) hx rfl;refine⟨x,⟨rfl,ν u,args,rfl,?_⟩,hx2⟩;have key:∀r (h':Heap) (c:Nat),(⟨Zi e (some d) r,h',c⟩:St)=s->r=x/\h'=s.heap/\c=s.clk:=by
   intro r h' c he;subst he;simp only[Zi]at hx2
   simp_all
  rcases hc with hc | hc
  ·exact .inl (zvj (fun r h' hk=>key r h' clk hk) hc)
  ·exact .inr (zvk (fun r h' c hk=>key r h' c hk) hc)
 ·cases hx
def QS(P:Program)(h0 h1:Heap):List AO->Env->Env->Prop
 | [],e,e'=>e=e'
 | o::r,e,e'=>∃x,QF P h0 o e.get x/\QF P h1 o e.get x/\QS P h0 h1 r (Zi e o.dst x) e'
def zgv(hO:GoodO P ν T O){o:DO}{e:Env}{h:Heap}{older:List Heap}{r:AV×Bool}(hw:o.ao.op.writes=false)(hx:qX O T o.ao e h older=some r) :
  QF P h (Zz ν (Zf T) o.ao) e.get r.1/\(∀h'∈older,QF P h' (Zz ν (Zf T) o.ao) e.get r.1)/\((∀h',QF P h' (Zz ν (Zf T) o.ao) e.get r.1)\/(r.2=true/\o.ao.op.free=false/\∀h',Zh9 o.ao.op e.get h'=some r.1->QF P h' (Zz ν (Zf T) o.ao) e.get r.1)):=by
 have hw':(Zz ν (Zf T) o.ao).op.writes=false:=by
  rw[<-hw];exact zbr _
 obtain⟨hqk,k1,k2⟩:=zfj hO (K:=fun x=>x=r.1) hx rfl;obtain⟨x,hq1,hq2,hxr⟩:=zu0 hw' hqk;subst hxr;refine⟨hq1,fun h' hh=>?_,?_⟩
 ·cases hf:(Zz ν (Zf T) o.ao).op.freeE e.get with
  | true=>exact zmt hf h _ hq1
  | false=>exact hq2 hf h' hh
 ·cases hr2:r.2 with
  | false=>
   obtain⟨h3,h4⟩:=k2 hr2;exact .inl fun h'=>by
    rw[h3];exact zyy h4
  | true=>
   cases hf:o.ao.op.free with
   | true=>exact .inl fun h'=>ztn (zto hx hr2 hf) hq1
   | false=>exact .inr ⟨rfl,rfl,fun h' hs=>ztm hf hw (k1 hr2) hs⟩
theorem zlx(hO:GoodO P ν T O){K:Env->Zaw->Option St}{h:Heap}:∀(l:List DO) (e:Env) (pend:Zaw) (st':St),(∀o∈l,0<o.hi)->Zeo O T K h l e pend=some st' ->
  ∃e' pend',K e' pend'=some st'/\∀h1,Zas pend' h1=true->Zas pend h1=true/\QS P h h1 (l.map fun o=>Zz ν (Zf T) o.ao) e e'
 | [],e,pend,st',_,hx=>⟨e,pend,hx,fun h1 hp=>⟨hp,rfl⟩⟩
 | o::l,e,pend,st',hhi,hx=>by
  unfold Zeo at hx;split at hx
  ·cases hx
  rename_i hw;obtain⟨r,h1,h2⟩:=bind_some hx;obtain⟨e',pend',h3,h4⟩:=zlx hO l _ _ st' (fun o ho=>hhi o (Yk _ ho)) h2;obtain⟨q1,_,q2⟩:=zgv hO hw h1;refine⟨e',pend',h3,fun hp1 hp=>?_⟩;obtain⟨h5,h6⟩:=h4 hp1 hp;have hpn:=hhi o Yv;have hold:Zas pend hp1=true:=by
   classical
   unfold Zas;refine decide_eq_true fun p hp h0=>zco h5 p ?_ h0;unfold Zcg;split
   ·exact Yk _ hp
   ·exact hp
  refine⟨hold,r.1,q1,?_,h6⟩;rcases q2 with q2 | ⟨e1,e2,q2⟩
  ·exact q2 hp1
  ·refine q2 hp1 (zco h5 (o.hi-0,o.ao.op,e,r.1) ?_ (by simpa using hpn));unfold Zcg;rw[e1,e2];simp[hpn]
theorem zo5{h0 h1:Heap}{c0 c1:Nat}{K:St->Prop}{tl:List AO}:∀(l r:List AO) (e e':Env),QS P h0 h1 l e e'->Zen P tl h0 c0 h1 c1 K false r e'->Zen P tl h0 c0 h1 c1 K false (l++r) e
 | [],r,e,e',hq,hk=>by cases hq;exact hk
 | o::l,r,e,e',⟨x,h2,h3,h4⟩,hk=>.inl ⟨x,h2,h3,zo5 l r _ e' h4 hk⟩
theorem zj4(hO:GoodO P ν T O){K:Env->Option St}{h0 h1:Heap}{c0 c1:Nat}{Q:St->Prop}{tl:List AO}{st':St}(hK:∀e,K e=some st'->Zew P tl ⟨e,h1,c1⟩ Q):∀(l:List AO) (e:Env),Zep O T K h0 h1 l e=some st' ->
  Zen P tl h0 c0 h1 c1 Q true (l.map (Zz ν (Zf T))) e
 | [],e,hx=>⟨rfl,hK e hx⟩
 | o::l,e,hx=>by
  unfold Zep at hx;split at hx
  ·cases hx
  rename_i hw;obtain⟨r,e1,e2⟩:=bind_some hx;obtain⟨q1,q2,_⟩:=zgv hO (o:=⟨o,0,0⟩) hw e1;exact .inl ⟨r.1,q2 h0 Yv,q1,zj4 hO hK l _ e2⟩
def zrn(hO:GoodO P ν T O){l1 l2 tl:List AO}{o:AO}{st st':St}{K:St->Prop}(hx:Zia O T l1 o l2 tl st=some st')(hK:K st') :
  ∃h1 c1,Zen P (tl.map (Zz ν (Zf T))) st.heap st.clk h1 c1 K false (l1.map (Zz ν (Zf T))++Zz ν (Zf T) o::l2.map (Zz ν (Zf T))) st.env:=by
 unfold Zia at hx;obtain⟨e',pend',h1,h2⟩:=zlx hO _ _ _ st' (fun o ho=>by
  obtain⟨o',_,rfl⟩:=Yu.1 ho;exact Nat.one_pos) hx
 obtain⟨s,h3,h4⟩:=bind_some h1;split at h4
 ·rename_i hpd;obtain⟨x,hcd,henv⟩:=zeh hO h3;obtain⟨_,hqs⟩:=h2 s.heap hpd;refine⟨s.heap,s.clk,zo5 _ _ _ e' (by simpa[Ybo,Function.comp_def]using hqs) (.inr ⟨rfl,x,hcd,?_⟩)⟩;show Zen P _ st.heap st.clk s.heap s.clk K true _ (Zi e' o.dst x);rw[<-henv];exact zj4 hO (fun e he=>zdg hO tl _ st' K he hK) l2 _ h4
 ·cases h4
theorem zez{K:St->Prop}:∀(l:List DO) (e:Env) (h:Heap) (clk:Nat) (older:List Heap) (pend:Zj1),Zgz P l e h clk older pend K->Zcm P (l.map fun o=>(false,o)) e h clk older pend K
 | [],_,_,_,_,_,h=>h
 | o::l,e,h,clk,older,pend,hk=>by
  simp only[Y9,Zcm];simp only[Zgz]at hk;cases hw:o.ao.op.writes with
  | true=>
   rw[hw]at hk;obtain⟨h1,q,h2,h3,h4⟩:=hk;exact⟨h1,q,h2,h3,zez l _ _ _ _ _ h4⟩
  | false=>
   rw[hw]at hk;simp only at hk ⊢;exact z6x (fun x hx=>zez l _ _ _ _ _ hx) hk
theorem zly(hO:GoodO P ν T O){K:Env->Zaw->Option St}{h:Heap}{clk:Nat}{rest:List (Bool×DO)}{Q:St->Prop}{st':St}(hK:∀e pendX pend,Zgq pendX pend->K e pendX=some st'->Zcm P rest e h clk [] pend Q) :
  ∀(l:List DO) (e:Env) (pendX:Zaw) (pend:Zj1),Zgq pendX pend->Zeo O T K h l e pendX=some st'->Zcm P ((l.map fun o=>(false,Zdq ν (Zf T) o))++rest) e h clk [] pend Q
 | [],e,pendX,pend,hpr,hx=>hK e pendX pend hpr hx
 | o::l,e,pendX,pend,hpr,hx=>by
  unfold Zeo at hx;split at hx
  ·cases hx
  rename_i hw;have hw':(Zdq ν (Zf T) o).ao.op.writes=false:=by
   rw[<-hw];exact zbr _
  obtain⟨r,h1,h2⟩:=bind_some hx;simp only[Y9,Ybj,Zcm,hw',List.take_nil];have hk2:Zcm P ((l.map fun o=>(false,Zdq ν (Zf T) o))++rest) (Zi e o.ao.dst r.1) h clk [] ((o.hi,fun h'=>QF P h' (Zz ν (Zf T) o.ao) e.get r.1)::pend) Q:=by
   refine zly hO hK l _ _ _ ?_ h2;obtain⟨_,_,q2⟩:=zgv hO hw h1;intro q hq;rcases Yw.1 hq with rfl | hq
   ·rcases q2 with q2 | ⟨e1,e2,q2⟩
    ·exact .inl q2
    ·by_cases hn:0<o.hi
     ·refine .inr (.inr ⟨(o.hi-0,o.ao.op,e,r.1),?_,rfl,q2⟩);unfold Zcg;rw[e1,e2];simp[hn]
     ·exact .inr (.inl (by show o.hi=0;omega))
   ·rcases hpr q hq with h3 | h3 | ⟨p,h3,h4,h5⟩
    ·exact .inl h3
    ·exact .inr (.inl h3)
    ·refine .inr (.inr ⟨p,?_,h4,h5⟩);unfold Zcg;split
     ·exact Yk _ h3
     ·exact h3
  exact(zfj hO (K:=fun x=>Zcm P ((l.map fun o=>(false,Zdq ν (Zf T) o))++rest) (Zi e o.ao.dst x) h clk [] ((o.hi,fun h'=>QF P h' (Zz ν (Zf T) o.ao) e.get x)::pend) Q) h1 hk2).1
def zro(hO:GoodO P ν T O){l1 l2:List DO}{o:AO}{st st':St}{K:St->Prop}(hx:Zib O T l1 o l2 st=some st')(hK:K st') :
  Zcm P ((l1.map (Zdq ν (Zf T))).map (fun o=>(false,Zf1 0 o))++(true,⟨Zz ν (Zf T) o,0,0⟩)::(l2.map (Zdq ν (Zf T))).map (fun o=>(false,Zf1 0 o))) st.env st.heap st.clk [] [] K/\o.op.writes=false:=by
 unfold Zib at hx;split at hx
 ·cases hx
 rename_i hwn;refine⟨?_,by simpa using hwn⟩;have hadj:∀l:List DO,(l.map (Zdq ν (Zf T))).map (fun o=>(false,Zf1 0 o))=(l.map (Zf1 0)).map (fun o=>(false,Zdq ν (Zf T) o)):=fun l=>by
  simp only[Ybo]
  rfl
 rw[hadj l1,hadj l2];refine zly hO (fun e pendX pend hpr h1=>?_) _ _ _ _ (fun q hq=>by cases hq) hx;obtain⟨s,h3,h4⟩:=bind_some h1;split at h4
 ·rename_i hpd;obtain⟨x,hcd,henv⟩:=zeh hO h3;refine⟨x,s.heap,s.clk,hcd,fun p hp h0=>?_,?_⟩
  ·rcases hpr p hp with h5 | h5 | ⟨p',h5,h6,h7⟩
   ·exact h5 _
   ·omega
   ·exact h7 _ (zco hpd p' h5 (by omega))
  ·show Zcm P _ (Zi e o.dst x) s.heap s.clk [st.heap] _ K;rw[<-henv];have:=zdt hO (l2.map (Zf1 0)) s.env s.heap s.clk [st.heap] _ (pend.map fun p=>(p.1-1,p.2)) st' K hpr.next h4 hK;have h8:=zez _ _ _ _ _ _ this;rw[Ybo]at h8;exact h8
 ·cases h4
theorem zy1{hs hs':List Heap}(h:∀x∈hs',x∈hs):∀(l:List AO) (e e':Env),QL P hs l e e'->QL P hs' l e e'
 | [],e,e',hq=>hq
 | o::l,e,e',⟨x,h1,h2⟩=>⟨x,fun y hy=>h1 y (h y hy),zy1 h l _ _ h2⟩
theorem zlz(hO:GoodO P ν T O){K:Env->Zaw->Option St}{h:Heap}:∀(l:List DO) (e:Env) (pend:Zaw) (st':St),(∀o∈l,0<o.hi)->Zeo O T K h l e pend=some st' ->
  (∀o∈l,o.ao.op.writes=false)/\∃e' pend',K e' pend'=some st'/\∀hs:List Heap,(∀h1∈hs,Zas pend' h1=true)->(∀h1∈hs,Zas pend h1=true)/\QL P (h::hs) (l.map fun o=>Zz ν (Zf T) o.ao) e e'
 | [],e,pend,st',_,hx=>⟨(fun o ho=>by cases ho),e,pend,hx,fun hs hp=>⟨hp,rfl⟩⟩
 | o::l,e,pend,st',hhi,hx=>by
  unfold Zeo at hx;split at hx
  ·cases hx
  rename_i hw;obtain⟨r,h1,h2⟩:=bind_some hx;obtain⟨hwl,e',pend',h3,h4⟩:=zlz hO l _ _ st' (fun o ho=>hhi o (Yk _ ho)) h2;obtain⟨q1,_,q2⟩:=zgv hO hw h1;refine⟨fun o' ho=>?_,e',pend',h3,fun hs hp=>?_⟩
  ·rcases Yw.1 ho with rfl | ho
   ·exact hw
   ·exact hwl o' ho
  obtain⟨h5,h6⟩:=h4 hs hp;have hpn:=hhi o Yv;refine⟨fun hp1 hm=>?_,r.1,fun hp1 hm=>?_,h6⟩
  ·classical
   unfold Zas;refine decide_eq_true fun p hp h0=>zco (h5 hp1 hm) p ?_ h0;unfold Zcg;split
   ·exact Yk _ hp
   ·exact hp
  ·rcases Yw.1 hm with rfl | hm
   ·exact q1
   ·rcases q2 with q2 | ⟨e1,e2,q2⟩
    ·exact q2 hp1
    ·refine q2 hp1 (zco (h5 hp1 hm) (o.hi-0,o.ao.op,e,r.1) ?_ (by simpa using hpn));unfold Zcg;rw[e1,e2];simp[hpn]
theorem zj5(hO:GoodO P ν T O){K:Env->Option St}{hs:List Heap}{h1:Heap}{st':St}:∀(l:List AO) (e:Env),Zeq O T K hs h1 l e=some st' ->
  (∀o∈l,o.op.writes=false)/\∃e',K e'=some st'/\QL P (h1::hs) (l.map (Zz ν (Zf T))) e e'
 | [],e,hx=>⟨(fun o ho=>by cases ho),e,hx,rfl⟩
 | o::l,e,hx=>by
  unfold Zeq at hx;split at hx
  ·cases hx
  rename_i hw;obtain⟨r,e1,e2⟩:=bind_some hx;obtain⟨q1,q2,_⟩:=zgv hO (o:=⟨o,0,0⟩) hw e1;obtain⟨hwl,e',h3,h4⟩:=zj5 hO l _ e2;refine⟨fun o' ho=>?_,e',h3,r.1,fun hp hm=>?_,h4⟩
  ·rcases Yw.1 ho with rfl | ho
   ·exact hw
   ·exact hwl o' ho
  ·rcases Yw.1 hm with rfl | hm
   ·exact q1
   ·exact q2 hp hm
def zy2{h h':Heap}(hs:Znk h h'=true):Zlt h h':=by
 classical
 unfold Znk at hs;intro b bx hb;exact of_decide_eq_true hs (b,bx) (za8 _ _ _ hb)
def zrp(hO:GoodO P ν T O){cx:Cx}(hP:cx.P=P){l1 l2:List DO}{o:AO}{da n:Nat}{cs:List AV}{xs vs:Opd}{st st':St}{Q:Exit->St->Prop}(hx:Zg0 O T l1 o l2 da cs n xs vs st=some st')(hK:Q .normal st') :
  AWp cx (.draw (l1.map (Zdq ν (Zf T)) ++ ⟨Zz ν (Zf T) o,0,1⟩::(l2.map (Zdq ν (Zf T))++[⟨⟨some da,none,.alloc cs⟩,0,1⟩,⟨⟨none,none,.store n xs vs⟩,1,2⟩]))) Q st:=by
 subst hP;unfold Zg0 at hx;split at hx
 case isFalse=>cases hx
 rename_i hlow;simp only[Yj,Bool.not_eq_true']at hlow;obtain⟨⟨hl1,hl2⟩,how⟩:=hlow;obtain⟨hw1,e',pend',h1,h2⟩:=zlz hO _ _ _ st' (fun o ho=>by
  obtain⟨o',_,rfl⟩:=Yu.1 ho;exact Nat.one_pos) hx
 obtain⟨s1,h3,h4⟩:=bind_some h1;obtain⟨s2,h5,h6⟩:=bind_some h4;split at h6
 case isFalse=>cases h6
 rename_i hc;simp only[Yj]at hc;obtain⟨⟨⟨p1,p2⟩,p3⟩,hsame,hsub⟩:=hc;obtain⟨i1,i2,i3⟩:s2.env=s1.env/\st.clk<=s1.clk/\s1.clk+1<=s2.clk:=by
  classical
  unfold Zmo at hsame;exact of_decide_eq_true hsame
 obtain⟨x,hcd,henv⟩:=zeh hO h3;obtain⟨x2,hcd2,henv2⟩:=zeh hO h5;have hxx:x2=x:=by
  rw[henv,henv2]at i1;obtain⟨dst,g,op⟩:=o;unfold Zfy at h3;simp only at h3 i1;split at h3
  ·simp only[Zi,List.cons.injEq,Prod.mk.injEq,and_true,true_and]at i1;exact i1
  ·cases h3
 subst hxx;obtain⟨hw2,e2,h7,h8⟩:=zj5 hO _ _ h6;obtain⟨h9,hst,hq2⟩:=map_some h7;subst hq2;obtain⟨_,hq1⟩:=h2 [s1.heap,(.loc da,⟨s1.clk,.str,cs.length,[cs]⟩)::st.heap,s2.heap] (fun y hy=>by
  simp only[Yw,Ycz,or_false]at hy;rcases hy with rfl | rfl | rfl
  ·exact p1
  ·exact p2
  ·exact p3)
 refine zym (h1:=s1.heap) (hb:=s2.heap) (hm:=s2.heap) (c1:=s1.clk) (cb:=s2.clk) (cm:=s2.clk) (e1:=e') (e2:=e2) (x:=x2) (fun d hd=>?_) (by show (Zee ν (Zf T) o.op).writes=false;rw[zbr];exact how) ?_ hcd hcd2 (fun _ _ h=>h) (Yh _) ?_ (zy2 hsub) hst hK i2 i3
 ·unfold Zkp at hl1 hl2;rw[Yn]at hl1 hl2;rcases Y6.1 hd with hd | hd
  ·obtain⟨d',hd',rfl⟩:=Yu.1 hd;refine⟨of_decide_eq_true (hl1 d' hd'),?_⟩;show (Zee ν (Zf T) d'.ao.op).writes=false;rw[zbr];exact hw1 ⟨d'.ao,0,1⟩ (Yu.2 ⟨d',hd',rfl⟩)
  ·obtain⟨d',hd',rfl⟩:=Yu.1 hd;refine⟨of_decide_eq_true (hl2 d' hd'),?_⟩;show (Zee ν (Zf T) d'.ao.op).writes=false;rw[zbr];exact hw2 d'.ao (Yu.2 ⟨d',hd',rfl⟩)
 ·have:=zy1 (hs':=[st.heap,s1.heap,(.loc da,⟨s1.clk,.str,cs.length,[cs]⟩)::st.heap,s2.heap]) (fun y hy=>hy) _ _ _ hq1;simpa[Ybo,Function.comp_def,Zdq]using this
 ·have:=zy1 (hs':=[st.heap,s1.heap,(.loc da,⟨s1.clk,.str,cs.length,[cs]⟩)::st.heap,s2.heap]) (fun y hy=>by
   simp only[Yw,Ycz,or_false]at hy ⊢;rcases hy with h | h | h | h
   ·exact .inr (.inl h)
   ·exact .inr (.inr (.inl h))
   ·exact .inr (.inr (.inr h))
   ·exact .inl h) _ _ _ h8
  rw[henv]at this;rw[Ybo]at this ⊢;exact this
def zy3{cx:Cx}{c:AC}{st:St}{id:Nat}{o:Option (Ex×St)}{e:Ex}{st':St}(h0:∀e1 s1,o=some (e1,s1)->AWp cx c (Is e1 s1) st)
  (h:(o.bind fun r=>match r.1 with | .x j=>if j=id then some (Ex.n,r.2) else some r | _=>some r)=some (e,st')):AWp cx (.block id c) (Is e st') st:=by
 obtain⟨⟨e1,s1⟩,h1,h2⟩:=bind_some h;refine zoe ((h0 e1 s1 h1).mono ?_)
 rintro ex s ⟨rfl,rfl⟩
 cases e1 with
 | n=>cases h2;exact⟨rfl,rfl⟩
 | x j=>
  simp only at h2;show Zfs id _ (.exit j) _;simp only[Zfs];split at h2
  ·rename_i hj;rw[if_pos hj];cases h2;exact⟨rfl,rfl⟩
  ·rename_i hj;rw[if_neg hj];cases h2;exact⟨rfl,rfl⟩
 | r=>cases h2;exact⟨rfl,rfl⟩
 | g l=>cases h2;exact⟨rfl,rfl⟩
def z22{k:Nat}{cx:Cx}(hk:cx.clk0=k+1){c:AC}{st:St}{g:Gh}{o:Option (Ex×St)}{e:Ex}{st':St}(h0:∀e1 s1,o=some (e1,s1)->AWp cx c (Is e1 s1) st)
  (h:(o.bind fun r=>match r.1 with | .n=>(ghS k g r.2).map fun s=>(Ex.n,s) | _=>some r)=some (e,st')):AWp cx c (Is e st') st:=by
 obtain⟨⟨e1,s1⟩,h1,h2⟩:=bind_some h;intro code hc hm a w hr;refine wp_mono (h0 e1 s1 h1 code hc hm a w hr) ?_
 rintro ex a' w' ⟨s,⟨rfl,rfl⟩,hr'⟩
 cases e1 with
 | n=>
  obtain⟨s2,h3,h4⟩:=map_some h2;cases h4;exact⟨_,⟨rfl,rfl⟩,hr'.gh hk h3⟩
 | x id=>cases h2;exact⟨_,⟨rfl,rfl⟩,hr'⟩
 | r=>cases h2;exact⟨_,⟨rfl,rfl⟩,hr'⟩
 | g l=>cases h2;exact⟨_,⟨rfl,rfl⟩,hr'⟩
theorem za5(hO:GoodO P ν T O){k:Nat}{cx:Cx}(hP:cx.P=P)(hk:cx.clk0=k+1):∀(c:AX) (st:St) (e:Ex) (st':St),evX O T k c st=some (e,st')->AWp cx (er ν (Zf T) c) (Is e st') st
 | .skip,st,e,st',h=>by cases h;exact z2j ⟨rfl,rfl⟩
 | .reg l,st,e,st',h=>by
  obtain⟨s,h1,h2⟩:=map_some h;cases h2;refine z6o ?_;rw[hP];exact zdg hO l st st' _ h1 ⟨rfl,rfl⟩
 | .draw l,st,e,st',h=>by
  obtain⟨s,h1,h2⟩:=map_some h;cases h2;refine z2k ?_;rw[hP];exact zdt hO l _ _ _ _ _ _ st' _ (fun q hq=>by simp at hq) h1 ⟨rfl,rfl⟩
 | .drawT hd tl,st,e,st',h=>by
  obtain⟨s,h1,h2⟩:=map_some h;cases h2;refine zod ?_;rw[hP];exact zj3 hO tl hd _ _ _ st' _ h1 ⟨rfl,rfl⟩
 | .drawM hd tl,st,e,st',h=>by
  obtain⟨s,h1,h2⟩:=map_some h;cases h2;refine zxw (zf8 (Zgc hd st.env) st.heap) ?_;rw[hP];exact zcp hO tl _ _ _ (zf8 _ _) hd _ _ _ st' _ (zf8 _ _) (Yh _) (fun _ _ h=>.inl h) h1 ⟨rfl,rfl⟩
 | .drawC l1 o l2 tl,st,e,st',h=>by
  obtain⟨s,h1,h2⟩:=map_some h;cases h2;obtain⟨hp1,c1,h3⟩:=zrn hO (K:=fun s=>Is .n st' .normal s) h1 ⟨rfl,rfl⟩;rw[<-hP]at h3;exact zyi h3
 | .drawN l1 o l2,st,e,st',h=>by
  obtain⟨s,h1,h2⟩:=map_some h;cases h2;obtain⟨h3,h4⟩:=zro hO (K:=fun s=>Is .n st' .normal s) h1 ⟨rfl,rfl⟩;rw[<-hP]at h3;refine zyj ?_ h3;show (Zee ν (Zf T) o.op).writes=false;rw[zbr];exact h4
 | .drawR hd tl,st,e,st',h=>by
  obtain⟨s,h1,h2⟩:=map_some h;cases h2;refine zod ?_;rw[hP];exact zf7 hO tl hd _ _ _ st' _ h1 ⟨rfl,rfl⟩
 | .drawP l1 o l2 da cs n xs vs,st,e,st',h=>by
  obtain⟨s,h1,h2⟩:=map_some h;cases h2;exact zrp hO hP h1 ⟨rfl,rfl⟩
 | .bad,st,e,st',h=>by cases h
 | .prim f,st,e,st',h=>by cases h
 | .seq a b,st,e,st',h=>by
  obtain⟨⟨e1,s1⟩,h1,h2⟩:=bind_some h;refine z6p ((za5 hO hP hk a st e1 s1 h1).mono ?_)
  rintro ex s ⟨rfl,rfl⟩
  cases e1 with
  | n=>exact za5 hO hP hk b _ e st' h2
  | x id=>cases h2;exact⟨rfl,rfl⟩
  | r=>cases h2;exact⟨rfl,rfl⟩
  | g l=>cases h2;exact⟨rfl,rfl⟩
 | .cond c x y,st,e,st',h=>by
  simp only[evX]at h;split at h
  ·rename_i t ht;refine z2l ht (fun h1=>?_) (fun h1=>?_)
   ·subst h1;exact za5 hO hP hk x st e st' (by simpa using h)
   ·subst h1;exact za5 hO hP hk y st e st' (by simpa using h)
  ·cases h
 | .block id c,st,e,st',h=>by
  obtain⟨⟨e1,s1⟩,h1,h2⟩:=bind_some h;refine zoe ((za5 hO hP hk c st e1 s1 h1).mono ?_)
  rintro ex s ⟨rfl,rfl⟩
  cases e1 with
  | n=>cases h2;exact⟨rfl,rfl⟩
  | x j=>
   simp only at h2;show Zfs id _ (.exit j) _;simp only[Zfs];split at h2
   ·rename_i hj;rw[if_pos hj];cases h2;exact⟨rfl,rfl⟩
   ·rename_i hj;rw[if_neg hj];cases h2;exact⟨rfl,rfl⟩
  | r=>cases h2;exact⟨rfl,rfl⟩
  | g l=>cases h2;exact⟨rfl,rfl⟩
 | .loop c,st,e,st',h=>zj2 (hO.loop k c st e st' (by simpa only[evX]using h) cx hP hk)
 | .exit id,st,e,st',h=>by cases h;exact z2m ⟨rfl,rfl⟩
 | .ret,st,e,st',h=>by cases h;exact z6q ⟨rfl,rfl⟩
 | .note c g,st,e,st',h=>by
  obtain⟨⟨e1,s1⟩,h1,h2⟩:=bind_some h;intro code hc hm a w hr;refine wp_mono (za5 hO hP hk c st e1 s1 h1 code hc hm a w hr) ?_
  rintro ex a' w' ⟨s,⟨rfl,rfl⟩,hr'⟩
  cases e1 with
  | n=>
   obtain⟨s2,h3,h4⟩:=map_some h2;cases h4;exact⟨_,⟨rfl,rfl⟩,hr'.gh hk h3⟩
  | x id=>cases h2;exact⟨_,⟨rfl,rfl⟩,hr'⟩
  | r=>cases h2;exact⟨_,⟨rfl,rfl⟩,hr'⟩
  | g l=>cases h2;exact⟨_,⟨rfl,rfl⟩,hr'⟩
 | .lp id g c g2,st,e,st',h=>by
  obtain⟨s,h1,h2⟩:=bind_some h;have h3:((O.loop k c s).bind fun r=>match r.1 with | .x j=>if j=id then some (Ex.n,r.2) else some r | _=>some r).bind (fun r=>match r.1 with | .n=>(ghS k g2 r.2).map fun s=>(Ex.n,s) | _=>some r)=some (e,st'):=by
   rw[<-h2];cases O.loop k c s with
   | none=>rfl
   | some r=>
    obtain⟨e1,s1⟩:=r;cases e1 with
    | n=>rfl
    | r=>rfl
    | g l=>rfl
    | x j=>
     simp only[Y5];split<;>rfl
  have h4:AWp cx (.block id (.loop (er ν (Zf T) c))) (Is e st') s:=
   z22 hk (fun e1 s1 he=>zy3 (fun e2 s2 he2=>zj2 (hO.loop k c s e2 s2 he2 cx hP hk)) he) h3
  intro code hc hm a w hr;exact h4 code hc hm a w (hr.gh hk h1)
 | .scope c,st,e,st',h=>by
  obtain⟨⟨e1,s1⟩,h1,h2⟩:=bind_some h;refine zxx ((za5 hO hP hk c st e1 s1 h1).mono ?_)
  rintro ex s ⟨rfl,rfl⟩
  cases e1 with
  | g l=>cases h2
  | n=>cases h2;exact⟨fun l he=>(by cases he),rfl,rfl⟩
  | x j=>cases h2;exact⟨fun l he=>(by cases he),rfl,rfl⟩
  | r=>cases h2;exact⟨fun l he=>(by cases he),rfl,rfl⟩
 | .label l,st,e,st',h=>by cases h;exact zxy ⟨rfl,rfl⟩
 | .goto l,st,e,st',h=>by cases h;exact z2n ⟨rfl,rfl⟩
 | .gsc l c r,st,e,st',h=>by
  have key:∀n o,Zmp (fun s=>evX O T k r s) l n o=some (e,st')->∃e1 s1,o=some (e1,s1)/\GQ cx l (er ν (Zf T) r) (Is e st') n e1.out s1:=by
   intro n
   induction n with
   | zero=>intro o h;cases h
   | succ n ih=>
    intro o h;simp only[Zmp]at h;obtain⟨⟨e1,s1⟩,h1,h2⟩:=bind_some h;refine⟨e1,s1,h1,?_⟩;cases e1 with
    | g j=>
     simp only at h2;split at h2
     ·rename_i hj;obtain⟨e2,s2,h3,h4⟩:=ih _ h2;refine⟨hj,(za5 hO hP hk r s1 e2 s2 h3).mono ?_⟩
      rintro ex s ⟨rfl,rfl⟩
      exact h4
     ·cases h2
    | n=>cases h2;exact⟨rfl,rfl⟩
    | x j=>cases h2;exact⟨rfl,rfl⟩
    | r=>cases h2;exact⟨rfl,rfl⟩
  obtain⟨e1,s1,h1,h2⟩:=key _ _ h;refine z6r 100 ((za5 hO hP hk c st e1 s1 h1).mono ?_)
  rintro ex s ⟨rfl,rfl⟩
  exact h2
 | .pre g c,st,e,st',h=>by
  obtain⟨s,h1,h2⟩:=bind_some h;intro code hc hm a w hr;exact za5 hO hP hk c s e st' h2 code hc hm a w (hr.gh hk h1)
def zvl{f:FuncId}{xs:List AV}{hb:Heap}{k:Nat}{ex:Bool}{x:AV}{hh:Heap}{cc:Nat}(h:Zfe P f xs hb (k+1) (fun r h c=>r=x/\h=hh/\c=cc)) :
  Zfe P f xs hb (k+1) (fun r h c=>r=(Zec ex k [0] ⟨[(0,x)],hh,cc⟩).env.get 0/\h=(Zec ex k [0] ⟨[(0,x)],hh,cc⟩).heap/\c=(Zec ex k [0] ⟨[(0,x)],hh,cc⟩).clk):=by
 refine⟨h.1,fun w S M cargs hl hC hheap hS hM=>(h.2 w S M cargs hl hC hheap hS hM).mono ?_⟩;intro e w' ⟨v,r,h',S',M',clk',he,⟨h1,h2,h3⟩,hCr,hw⟩;subst h1;subst h2;subst h3;have hrel:Rel ⟨P,1,w,S,M,k+1⟩ ⟨[(0,r)],h',clk'⟩ { tmps:=#[v],defers:=[] } w':=by
  refine⟨S',M',rfl,rfl,fun t=>?_,hw 1⟩;cases t with
  | zero=>simp_all
  | succ t=>exact .p (.dead _)
 obtain⟨S2,M2,hr2⟩:=hrel.norm (ex:=ex) (k:=k) (live:=[0]) rfl;refine⟨v,_,_,S2,M2,_,he,⟨rfl,rfl,rfl⟩,by simpa using hr2.env 0,fun nt=>?_⟩;have:=hr2.wr;exact⟨this.heap,this.ext,this.fr,this.Snew,this.Slt,this.Mnew⟩
def Zbq.res{f:FuncId}{xs:List AV}{y:AV}{ex:Bool}(h:Zbq P f xs (·=y)):Zbq P f xs (·=wkIf ex y):=
 ⟨h.1,fun w S cargs hl hC hS=>(h.2 w S cargs hl hC hS).mono fun _ _ ⟨v,r,he,hr,hb,hC⟩=>⟨v,_,he,rfl,hb,by rw[<-hr];exact hC.wkIf ex⟩⟩
def TOk(P:Program)(ν:Nat->FuncId)(T:Tbl):Prop:=∀u af,T u=some af ->
 match af.body.isPrim with
 | some f=>∀xs r,f xs=some r->Zbq P (ν u) xs (·=r)
 | none=>if af.body.isBad=true then (∀m∈Zga af,Zd5 P af.np m.1=some (ν m.2))/\(af.res.isEmpty=true->af.np=ν af.nt) else Zdo P (ν u)=some (erF ν (Zf T) af)
def GoodO.next(hT:TOk P ν T)(hm:P.follows .mixedOrders=true)(hO:GoodO P ν T O):GoodO P ν T (Zed T O):=by
 have bad_no:∀(af:AFx) (k:Nat) (s:St) (r:Ex×St),af.body.isBad=true->evX O T k af.body s=some r->False:=by
  intro af k s r hb he;cases hbd:af.body<;>rw[hbd]at hb he<;>first | (cases hb;done) | (simp only[evX]at he;grind)
 refine⟨hO.meth,hO.fnn,fun u af xs r h hu hl hc=>?_,fun u af ms xs hb r hb' hu hl hc=>?_,fun k c st e st' h cx hP hk=>?_⟩
 ·have hTu:=hT u af hu;simp only[Zed,hu]at hc;split at hc
  ·rename_i f hf;split at hc
   ·obtain⟨x,h1,h2⟩:=map_some hc
    grind
   grind
  rename_i hf;rw[hf]at hTu;split at hc
  ·rename_i hcond;obtain⟨⟨e,s⟩,h1,h2⟩:=bind_some hc;rw[if_neg (fun hb=>bad_no af _ _ _ hb h1)]at hTu;have key:∃x y,(e=.n\/e=.r)/\Zdz s af.res=some x/\frz s.heap x=some y/\r=wkIf af.exact y:=by
    unfold Zmq at h2;cases e with
    | x id=>grind
    | g id=>grind
    | n=>
     obtain⟨x,h3,h4⟩:=bind_some h2;rw[hl]at h4;obtain⟨y,h5,h6⟩:=map_some h4
     grind
    | r=>
     obtain⟨x,h3,h4⟩:=bind_some h2;rw[hl]at h4;obtain⟨y,h5,h6⟩:=map_some h4
     grind
   obtain⟨x,y,he,h3,h5,rfl⟩:=key;refine Zbq.res (zxz hTu hm hcond.1 fun cx hP hnt hclk=>((za5 hO hP hclk af.body _ e s h1).mono ?_))
   rintro ex s' ⟨rfl,rfl⟩
   exact⟨by rcases he with rfl | rfl;exact .inl rfl;exact .inr rfl,x,y,h3,h5,rfl⟩
  grind
 ·have hTu:=hT u af hu;simp only[Zed,hu]at hc;split at hc
  ·grind
  rename_i hf;rw[hf]at hTu;split at hc
  ·rename_i hcond;obtain⟨⟨e,s⟩,h1,h2⟩:=bind_some hc;rw[if_neg (fun hb=>bad_no af _ _ _ hb h1)]at hTu;have key:∃x,(e=.n\/e=.r)/\Zdz s af.res=some x/\r=(Zec af.exact hb.length [0] ⟨[(0,x)],s.heap,s.clk⟩).env.get 0/\hb'=(Zec af.exact hb.length [0] ⟨[(0,x)],s.heap,s.clk⟩).heap:=by
    unfold Zmq at h2;cases e with
    | x id=>grind
    | g id=>grind
    | n=>
     obtain⟨x,h3,h4⟩:=bind_some h2
     grind
    | r=>
     obtain⟨x,h3,h4⟩:=bind_some h2
     grind
   obtain⟨x,he,h3,rfl,rfl⟩:=key;have hA:Zfe P (ν u) xs hb (hb.length+1) (fun r h c=>r=x/\h=s.heap/\c=s.clk):=by
    refine zof hTu hm hcond.1 fun cx hP hnt hclk=>((za5 hO hP hclk af.body _ e s h1).mono ?_)
    rintro ex s' ⟨rfl,rfl⟩
    exact⟨by rcases he with rfl | rfl;exact .inl rfl;exact .inr rfl,x,h3,rfl,rfl,rfl⟩
   have hB:=zvl (ex:=af.exact) hA;refine⟨hB.1,fun w S M cargs hl hC hheap hS hM=>(hB.2 w S M cargs hl hC hheap hS hM).mono ?_⟩;intro e w' ⟨v,r,h',S',M',clk',he,⟨a1,a2,a3⟩,hCr,hw⟩;refine⟨v,r,h',S',M',clk',he,⟨a1,a2,?_⟩,hCr,hw⟩;rw[a3];simp only[Zec,Y3]
  grind
 ·obtain⟨⟨e1,s1⟩,h1,h2⟩:=bind_some h;refine z2z ((za5 hO hP hk c st e1 s1 h1).mono ?_)
  rintro ex s ⟨rfl,rfl⟩
  cases e1 with
  | n=>exact hO.loop k c _ e st' h2 cx hP hk
  | x id=>cases h2;exact⟨rfl,rfl⟩
  | r=>cases h2;exact⟨rfl,rfl⟩
  | g l=>cases h2;exact⟨rfl,rfl⟩
def zakf(hT:TOk P ν T):∀k nm u,(nm,u)∈Zad T k->Zd5 P (Zf T k) nm=some (ν u):=by
 intro k nm u hm;unfold Zad at hm;unfold Zf;cases hT':T (1000000+k) with
 | none=>grind
 | some af=>
  rw[hT']at hm;simp only at hm ⊢;split at hm
  ·rename_i hb;have:=hT _ af hT';have hp:af.body.isPrim=none:=by cases hbd:af.body<;>rw[hbd]at hb<;>first | rfl | cases hb
   grind
  grind
def fnn0(hT:TOk P ν T):∀k u,Zft T k=some u->Zf T k=ν u:=by
 intro k u hm;unfold Zft at hm;unfold Zf;cases hT':T (1000000+k) with
 | none=>grind
 | some af=>
  rw[hT']at hm;simp only at hm ⊢;split at hm
  ·rename_i hb;simp only[Yj]at hb;have:=hT _ af hT';have hp:af.body.isPrim=none:=by cases hbd:af.body<;>rw[hbd]at hb<;>first | rfl | cases hb.1.1
   grind
  grind
theorem GoodO.orcN(hT:TOk P ν T)(hm:P.follows .mixedOrders=true):∀n,GoodO P ν T (orcN T n)
 | 0=>⟨zakf hT,fnn0 hT,fun _ _ _ _ _ _ _ h=>(by cases h),fun _ _ _ _ _ _ _ _ _ h=>(by cases h),fun _ _ _ _ _ h=>(by cases h)⟩
 | n+1=>(GoodO.orcN hT hm n).next hT hm
end
end
section
open Go.RowKit
inductive Qy where
 | call (u:Nat) (xs:List AV) (hb:Heap) (r:AV×Heap)
 | loop (k:Nat) (c:AX) (st:St) (r:Ex×St)
def Holds(O:Orc):Qy->Prop
 | .call u xs hb r=>O.call u xs hb=some r
 | .loop k c st r=>O.loop k c st=some r
def Za6{α:Type}(f:Orc->Option α):Prop:=∀O r,f O=some r->∃L:List Qy,(∀q∈L,Holds O q)/\∀O',(∀q∈L,Holds O' q)->f O'=some r
def Za6.const{α:Type}(a:Option α):Za6 fun _=>a:=fun _ _ h=>⟨[],by simp,fun _ _=>h⟩
def Za6.bind{α β:Type}{g:Orc->Option α}{h:Orc->α->Option β}(hg:Za6 g)(hh:∀x,Za6 fun O=>h O x):Za6 fun O=>(g O).bind (h O):=by
 intro O r he;obtain⟨x,h1,h2⟩:=bind_some he;obtain⟨L1,a1,a2⟩:=hg O x h1;obtain⟨L2,b1,b2⟩:=hh x O r h2;refine⟨L1++L2,fun q hq=>?_,fun O' hO'=>?_⟩
 all_goals grind
def Za6.map{α β:Type}{g:Orc->Option α}(hg:Za6 g)(f:α->β):Za6 fun O=>(g O).map f:=by
 have:=hg.bind (h:=fun _ x=>some (f x)) fun x=>.const _
 grind[Option.map_eq_bind,Function.comp_def]
def Za6.call(u:Nat)(xs:List AV)(hb:Heap):Za6 fun O=>O.call u xs hb:=fun O r h=>⟨[.call u xs hb r],by simpa[Holds]using h,fun O' h'=>by simpa[Holds]using h'⟩
def Za6.loop(k:Nat)(c:AX)(st:St):Za6 fun O=>O.loop k c st:=fun O r h=>⟨[.loop k c st r],by simpa[Holds]using h,fun O' h'=>by simpa[Holds]using h'⟩
section
variable(T:Tbl)
def zj6(u:Nat)(xs:List AV)(d:Option Nat)(st:St):Za6 fun O=>Zar O T u xs d st:=by
 unfold Zar;split
 ·exact .const _
 ·split
  ·refine Za6.bind (.const _) fun ys=>Za6.bind (.call _ _ _) fun r=>.const _
  ·refine Za6.bind (.const _) fun ys=>?_;simp only;split
   ·refine Za6.bind (.call _ _ _) fun r=>.const _
   ·exact .const _
def zy4(op:AOp)(d:Option Nat)(st:St):Za6 fun O=>opX O T op d st:=by
 by_cases hx:∃k xs,op=.xop k xs
 ·obtain⟨k,xs,rfl⟩:=hx;cases k<;>exact .const _
 cases op<;>(try exact absurd ⟨_,_,rfl⟩ hx)<;>simp only[opX]<;>first | exact .const _ | exact zj6 T _ _ _ _ | (split<;>first | exact .const _ | (split<;>first | exact .const _ | exact zj6 T _ _ _ _))
def zy5(o:AO)(st:St):Za6 fun O=>Zh8 O T o st:=by
 unfold Zh8;split
 ·exact zy4 T _ _ _
 ·unfold gX;split
  ·split
   ·exact zy4 T _ _ _
   ·exact .const _
  ·exact .const _
  ·exact .const _
theorem zfk:∀(l:List AO) (st:St),Za6 fun O=>Zey O T l st
 | [],st=>.const _
 | o::l,st=>by
  exact(zy5 T o st).bind fun s=>zfk l s
def zy6(op:AOp)(e:Env)(h:Heap)(older:List Heap):Za6 fun O=>opD O T op e h older:=by
 by_cases hap:∃z x0 y,op=.app z x0 y
 ·obtain⟨z,x0,y,rfl⟩:=hap;by_cases hc:x0=.c (.sl [] .nl)
  ·subst hc;exact .const _
  ·simp only[zrk hc];exact .const _
 cases op<;>(try exact absurd ⟨_,_,_,rfl⟩ hap)<;>simp only[opD]<;>try exact .const _
 case call=>
  split
  ·exact .const _
  ·split
   ·exact(Za6.call _ _ _).map _
   ·exact .const _
 case inv=>
  split
  ·split
   ·split
    ·exact .const _
    ·split
     ·exact(Za6.call _ _ _).map _
     ·exact .const _
   ·exact .const _
  ·exact .const _
def zj7(o:AO)(e:Env)(h:Heap)(older:List Heap):Za6 fun O=>qX O T o e h older:=by
 unfold qX;split
 ·exact(zy6 T _ _ _ _).map _
 ·split
  ·split
   ·exact(zy6 T _ _ _ _).map _
   ·exact .const _
  ·exact .const _
  ·exact .const _
def zo6(u:Nat)(ys:List AV):Za6 fun O=>Zfj O T u ys:=by
 unfold Zfj;split
 ·exact .const _
 ·split
  ·exact(Za6.call _ _ _).map _
  ·exact .const _
theorem ze0:∀(l:List DO) (e:Env) (h:Heap) (clk:Nat) (older:List Heap) (pend:Zaw),Za6 fun O=>Zch O T l e h clk older pend
 | [],e,h,clk,older,pend=>.const _
 | o::l,e,h,clk,older,pend=>by
  simp only[Zch];split
  ·split
   ·refine Za6.bind (.const _) fun q=>?_;split
    ·exact ze0 l _ _ _ _ _
    ·exact .const _
   ·exact .const _
  ·split
   ·exact(zj7 T _ _ _ _).bind fun x=>ze0 l _ _ _ _ _
   ·exact(zo6 T _ _).bind fun x=>ze0 l _ _ _ _ _
theorem zj8(tl:List AO):∀(l:List AO) (e:Env) (h:Heap) (clk:Nat),Za6 fun O=>Zdp O T tl l e h clk
 | [],e,h,clk=>zfk T tl _
 | o::l,e,h,clk=>by
  simp only[Zdp];split
  ·exact(zj7 T _ _ _ _).bind fun x=>zj8 tl l _ _ _
  ·exact(zo6 T _ _).bind fun x=>zj8 tl l _ _ _
theorem zo7(tl:List AO):∀(l:List AO) (e:Env) (h:Heap) (clk:Nat),Za6 fun O=>Zfk O T tl l e h clk
 | [],e,h,clk=>zfk T tl _
 | o::l,e,h,clk=>by
  exact(zj7 T _ _ _ _).bind fun x=>zo7 tl l _ _ _
def zy7(u:Nat)(xs:List AV)(d clk:Nat):Za6 fun O=>Zfl O T u xs d clk:=by
 unfold Zfl;split
 ·exact .const _
 ·split
  ·exact .const _
  ·split
   ·refine(Za6.call _ _ _).bind fun r=>?_;exact .const _
   ·exact .const _
theorem ze1(tl:List AO)(h0:Heap)(c0:Nat)(X:Heap):∀(l:List AO) (e:Env) (h:Heap) (clk:Nat),Za6 fun O=>Zbr O T tl h0 c0 X l e h clk
 | [],e,h,clk=>zfk T tl _
 | o::l,e,h,clk=>by
  simp only[Zbr];split
  ·split
   ·split
    all_goals
     refine Za6.bind (.const _) fun q=>?_;split
     ·exact ze1 tl h0 c0 X l _ _ _
     ·exact .const _
   ·exact .const _
  ·split
   ·split
    ·refine Za6.bind (.const _) fun q=>?_;split
     ·exact ze1 tl h0 c0 X l _ _ _
     ·exact .const _
    ·exact .const _
   split
   ·split
    ·refine(zy7 T _ _ _ _).bind fun q=>?_;split
     ·exact ze1 tl h0 c0 X l _ _ _
     ·exact .const _
    ·exact .const _
   ·refine(zj7 T _ _ _ _).bind fun x=>?_;split
    ·exact ze1 tl h0 c0 X l _ _ _
    ·exact .const _
theorem zis{K:Orc->Env->Zaw->Option St}(hK:∀e pend,Za6 fun O=>K O e pend)(h:Heap):∀(l:List DO) (e:Env) (pend:Zaw),Za6 fun O=>Zeo O T (K O) h l e pend
 | [],e,pend=>hK e pend
 | o::l,e,pend=>by
  simp only[Zeo];split
  ·exact .const _
  ·exact(zj7 T _ _ _ _).bind fun x=>zis hK h l _ _
theorem zo8{K:Orc->Env->Option St}(hK:∀e,Za6 fun O=>K O e)(h0 h1:Heap):∀(l:List AO) (e:Env),Za6 fun O=>Zep O T (K O) h0 h1 l e
 | [],e=>hK e
 | o::l,e=>by
  simp only[Zep];split
  ·exact .const _
  ·exact(zj7 T _ _ _ _).bind fun x=>zo8 hK h0 h1 l _
def zgw(o:AO)(st:St):Za6 fun O=>Zfy O T o st:=by
 unfold Zfy;split
 ·exact zj6 T _ _ _ _
 ·exact .const _
def zy8(l1:List AO)(o:AO)(l2 tl:List AO)(st:St):Za6 fun O=>Zia O T l1 o l2 tl st:=by
 unfold Zia;refine zis T (fun e pend=>(zgw T _ _).bind fun s=>?_) _ _ _ _;split
 ·exact zo8 T (fun e=>zfk T _ _) _ _ _ _
 ·exact .const _
def zy9(l1:List DO)(o:AO)(l2:List DO)(st:St):Za6 fun O=>Zib O T l1 o l2 st:=by
 unfold Zib;split
 ·exact .const _
 refine zis T (fun e pend=>(zgw T _ _).bind fun s=>?_) _ _ _ _;split
 ·exact ze0 T _ _ _ _ _ _
 ·exact .const _
theorem zo9{K:Orc->Env->Option St}(hK:∀e,Za6 fun O=>K O e)(hs:List Heap)(h1:Heap):∀(l:List AO) (e:Env),Za6 fun O=>Zeq O T (K O) hs h1 l e
 | [],e=>hK e
 | o::l,e=>by
  simp only[Zeq];split
  ·exact .const _
  ·exact(zj7 T _ _ _ _).bind fun x=>zo9 hK hs h1 l _
def zza(l1:List DO)(o:AO)(l2:List DO)(da:Nat)(cs:List AV)(n:Nat)(xs vs:Opd)(st:St):Za6 fun O=>Zg0 O T l1 o l2 da cs n xs vs st:=by
 unfold Zg0;split
 case isFalse=>exact .const _
 refine zis T (fun e pend=>(zgw T _ _).bind fun s1=>(zgw T _ _).bind fun s2=>?_) _ _ _ _;split
 ·exact zo9 T (K:=fun _ e2=>(Zce n s2.heap (ev (Zi e2 (some da) (.ptr (.loc da) s1.clk cs.length 0 0)).get xs) (ev (Zi e2 (some da) (.ptr (.loc da) s1.clk cs.length 0 0)).get vs)).map fun h2=>⟨Zi e2 (some da) (.ptr (.loc da) s1.clk cs.length 0 0),h2,s2.clk⟩) (fun e=>.const _) _ _ _ _
 ·exact .const _
theorem zcq(k:Nat):∀(c:AX) (st:St),Za6 fun O=>evX O T k c st
 | .skip,st=>.const _
 | .reg l,st=>by exact(zfk T l st).map _
 | .draw l,st=>by exact(ze0 T l _ _ _ _ _).map _
 | .drawT hd tl,st=>by exact(zo7 T tl hd _ _ _).map _
 | .drawM hd tl,st=>by exact(ze1 T tl _ _ _ hd _ _ _).map _
 | .drawC l1 o l2 tl,st=>by exact(zy8 T l1 o l2 tl st).map _
 | .drawN l1 o l2,st=>by exact(zy9 T l1 o l2 st).map _
 | .drawR hd tl,st=>by exact(zj8 T tl hd _ _ _).map _
 | .drawP l1 o l2 da cs n xs vs,st=>by exact(zza T l1 o l2 da cs n xs vs st).map _
 | .bad,st=>.const _
 | .prim f,st=>.const _
 | .seq a b,st=>by
  refine(zcq k a st).bind fun r=>?_;obtain⟨e,s⟩:=r;cases e
  ·exact zcq k b s
  ·exact .const _
  ·exact .const _
  ·exact .const _
 | .cond c x y,st=>by
  simp only[evX];split
  ·split
   ·exact zcq k x st
   ·exact zcq k y st
  ·exact .const _
 | .block id c,st=>by exact(zcq k c st).bind fun r=>.const _
 | .loop c,st=>by exact .loop _ _ _
 | .exit id,st=>.const _
 | .ret,st=>.const _
 | .note c g,st=>by exact(zcq k c st).bind fun r=>.const _
 | .pre g c,st=>by exact Za6.bind (.const _) fun s=>zcq k c s
 | .scope c,st=>by exact(zcq k c st).bind fun r=>.const _
 | .label l,st=>.const _
 | .goto l,st=>.const _
 | .gsc l c r,st=>by
  have key:∀n (f:Orc->Option (Ex×St)),Za6 f->Za6 fun O=>Zmp (fun s=>evX O T k r s) l n (f O):=by
   intro n
   induction n with
   | zero=>intro f _;exact .const _
   | succ n ih=>
    intro f hf;refine hf.bind fun x=>?_;obtain⟨e,s⟩:=x;cases e
    ·exact .const _
    ·exact .const _
    ·exact .const _
    ·simp only;split
     ·exact ih _ (zcq k r s)
     ·exact .const _
  exact key _ _ (zcq k c st)
 | .lp id g c g2,st=>by exact Za6.bind (.const _) fun s=>(Za6.loop _ _ _).bind fun r=>.const _
def zd4(u:Nat)(xs:List AV)(hb:Heap):Za6 fun O=>(Zed T O).call u xs hb:=by
 simp only[Zed];split
 ·exact .const _
 ·split
  ·exact .const _
  ·split
   ·exact(zcq T _ _ _).bind fun r=>.const _
   ·exact .const _
def zd5(k:Nat)(c:AX)(st:St):Za6 fun O=>(Zed T O).loop k c st:=by
 refine(zcq T k c st).bind fun r=>?_;obtain⟨e,s⟩:=r;cases e
 ·exact .loop _ _ _
 ·exact .const _
 ·exact .const _
 ·exact .const _
theorem zj9:∀(n:Nat) (q:Qy),Holds (orcN T n) q->Holds (orcN T (n+1)) q
 | 0,q,h=>by cases q<;>cases h
 | n+1,.call u xs hb r,h=>by
  obtain⟨L,h1,h2⟩:=zd4 T u xs hb _ r h;exact h2 _ fun q hq=>zj9 n q (h1 q hq)
 | n+1,.loop k c st r,h=>by
  obtain⟨L,h1,h2⟩:=zd5 T k c st _ r h;exact h2 _ fun q hq=>zj9 n q (h1 q hq)
theorem zrq{n m:Nat}(h:n<=m)(q:Qy)(hq:Holds (orcN T n) q):Holds (orcN T m) q:=by
 induction h with
 | refl=>omega
 | step _ ih=>exact zj9 T _ q ih
open Classical in
noncomputable def lim{α:Type}(f:Nat->Option α):Option α:=if h:∃n a,f n=some a then f (Classical.choose h) else none
def ztq{α:Type}{f:Nat->Option α}(hm:∀n m a,n<=m->f n=some a->f m=some a)(a:α):lim f=some a↔∃n,f n=some a:=by
 unfold lim;constructor
 ·intro h;split at h
  all_goals grind
 ·intro ⟨n,h⟩;have hex:∃n a,f n=some a:=⟨n,a,h⟩
  grind
noncomputable def orc:Orc:=⟨fun u xs hb=>lim fun n=>(orcN T n).call u xs hb,fun k c st=>lim fun n=>(orcN T n).loop k c st⟩
theorem zcy(q:Qy):Holds (orc T) q↔∃n,Holds (orcN T n) q:=by
 cases q with
 | call u xs hb r=>exact ztq (fun n m a hnm h=>zrq T hnm (.call u xs hb a) h) r
 | loop k c st r=>exact ztq (fun n m a hnm h=>zrq T hnm (.loop k c st a) h) r
def zrr{L:List Qy}(h:∀q∈L,Holds (orc T) q):∃n,∀q∈L,Holds (orcN T n) q:=by
 induction L with
 | nil=>simp_all
 | cons q L ih=>
  obtain⟨n,hn⟩:=ih fun q hq=>h q (Yk _ hq);obtain⟨m,hm⟩:=(zcy T q).1 (h q Yv);refine⟨max n m,fun x hx=>?_⟩
  grind[zrq,Nat.le_max_right]
def zm2(u:Nat)(xs:List AV)(hb:Heap):(orc T).call u xs hb=(Zed T (orc T)).call u xs hb:=by
 apply Option.ext;intro r;constructor
 ·intro h;obtain⟨n,hn⟩:=(zcy T (.call u xs hb r)).1 h;cases n with
  | zero=>cases hn
  | succ n=>
   obtain⟨L,h1,h2⟩:=zd4 T u xs hb _ r hn
   grind[zcy]
 ·intro h;obtain⟨L,h1,h2⟩:=zd4 T u xs hb _ r h;obtain⟨n,hn⟩:=zrr T h1;exact(zcy T (.call u xs hb r)).2 ⟨n+1,h2 _ hn⟩
def z23(k:Nat)(c:AX)(st:St):(orc T).loop k c st=(Zed T (orc T)).loop k c st:=by
 apply Option.ext;intro r;constructor
 ·intro h;obtain⟨n,hn⟩:=(zcy T (.loop k c st r)).1 h;cases n with
  | zero=>cases hn
  | succ n=>
   obtain⟨L,h1,h2⟩:=zd5 T k c st _ r hn
   grind[zcy]
 ·intro h;obtain⟨L,h1,h2⟩:=zd5 T k c st _ r h;obtain⟨n,hn⟩:=zrr T h1;exact(zcy T (.loop k c st r)).2 ⟨n+1,h2 _ hn⟩
end
noncomputable def Za(T:Tbl)(u:Nat)(xs:List AV):Option AV:=((orc T).call u xs []).map (·.1)
noncomputable def Z1(T:Tbl)(u:Nat)(xs:List AV)(hb:Heap):Option (AV×Heap):=(orc T).call u xs hb
noncomputable def Zkq(T:Tbl)(k:Nat)(c:AX)(st:St):Option (Ex×St):=(orc T).loop k c st
def zka{P:Program}{ν:Nat->FuncId}{T:Tbl}(hT:TOk P ν T)(hm:P.follows .mixedOrders=true){u:Nat}{af:AFx}{xs:List AV}{r:AV}(hu:T u=some af)(hl:af.lent=none)(h:Za T u xs=some r):Zbq P (ν u) xs (·=r):=by
 obtain⟨⟨r',h'⟩,h1,rfl⟩:=map_some h;obtain⟨n,hn⟩:=(zcy T (.call u xs [] (r',h'))).1 h1;exact(GoodO.orcN hT hm n).pure u af xs r' h' hu hl hn
end
section
open Go.RowKit
def Tr(T:Tbl)(u:Nat):Option AFx:=T u
def u8(n:Nat):AV:=.i .u8 (n:Int)
def u32(n:Nat):AV:=.i .u32 (n:Int)
def u64(n:Nat):AV:=.i .u64 (n:Int)
@[simp] def zasf(k:IntKind)(n:Int):wkA (.i k n)=.i k n/\Zbc (.i k n)=true/\Zbd (.i k n)=true/\scalar (.i k n)=true/\pureC (.i k n)=true/\noRef (.i k n)=true/\refs (.i k n)=[]/\rfC (.i k n)=[]/\rf1 (.i k n)=[]/\rfA (.i k n)=[]/\cellsOf (.i k n)=some [.i k n]:=by and_intros<;>rfl
@[simp] def zapb{h:Heap}(k:IntKind)(n:Int):Zbt h (.i k n)=some (.i k n)/\Zcz h (.i k n)=some (.i k n)/\frz h (.i k n)=some (.i k n)/\Zb0 h (.i k n)=true/\Zcf h (.i k n)=true/\Zdc h (.i k n)=true:=by and_intros<;>rfl
@[simp] def zask{σn:BId->BId}{σg:Nat->Nat}(k:IntKind)(n:Int):rlC σn σg (.i k n)=(.i k n)/\rl1 σn σg (.i k n)=(.i k n)/\rlA σn σg (.i k n)=(.i k n):=by and_intros<;>rfl
@[simp] def zasn(t:Bool):wkA (.b t)=.b t/\Zbc (.b t)=true/\Zbd (.b t)=true/\scalar (.b t)=true/\pureC (.b t)=true/\noRef (.b t)=true/\refs (.b t)=[]/\rfC (.b t)=[]/\rf1 (.b t)=[]/\rfA (.b t)=[]/\cellsOf (.b t)=some [.b t]:=by and_intros<;>rfl
@[simp] def zape{h:Heap}(t:Bool):Zbt h (.b t)=some (.b t)/\Zcz h (.b t)=some (.b t)/\frz h (.b t)=some (.b t)/\Zb0 h (.b t)=true/\Zcf h (.b t)=true/\Zdc h (.b t)=true:=by and_intros<;>rfl
@[simp] def zass{σn:BId->BId}{σg:Nat->Nat}(t:Bool):rlC σn σg (.b t)=(.b t)/\rl1 σn σg (.b t)=(.b t)/\rlA σn σg (.b t)=(.b t):=by and_intros<;>rfl
@[simp] def zasv(l:List UInt8):wkA (.s l)=.s l/\Zbc (.s l)=true/\Zbd (.s l)=true/\scalar (.s l)=true/\pureC (.s l)=true/\noRef (.s l)=true/\refs (.s l)=[]/\rfC (.s l)=[]/\rf1 (.s l)=[]/\rfA (.s l)=[]/\cellsOf (.s l)=some [.s l]:=by and_intros<;>rfl
@[simp] def zaph{h:Heap}(l:List UInt8):Zbt h (.s l)=some (.s l)/\Zcz h (.s l)=some (.s l)/\frz h (.s l)=some (.s l)/\Zb0 h (.s l)=true/\Zcf h (.s l)=true/\Zdc h (.s l)=true:=by and_intros<;>rfl
@[simp] def zas0{σn:BId->BId}{σg:Nat->Nat}(l:List UInt8):rlC σn σg (.s l)=(.s l)/\rl1 σn σg (.s l)=(.s l)/\rlA σn σg (.s l)=(.s l):=by and_intros<;>rfl
@[simp] def zakp(v:Value):wkA (.raw v)=.raw v/\Zbc (.raw v)=false/\Zbd (.raw v)=false/\scalar (.raw v)=false/\pureC (.raw v)=true/\noRef (.raw v)=true/\refs (.raw v)=[]/\rfC (.raw v)=[]/\rf1 (.raw v)=[]/\rfA (.raw v)=[]:=by and_intros<;>rfl
@[simp] def zag0{h:Heap}(v:Value):Zbt h (.raw v)=some (.raw v)/\Zcz h (.raw v)=some (.raw v)/\frz h (.raw v)=some (.raw v)/\Zb0 h (.raw v)=true/\Zcf h (.raw v)=true/\Zdc h (.raw v)=true:=by and_intros<;>rfl
@[simp] def zaku{σn:BId->BId}{σg:Nat->Nat}(v:Value):rlC σn σg (.raw v)=(.raw v)/\rl1 σn σg (.raw v)=(.raw v)/\rlA σn σg (.raw v)=(.raw v):=by and_intros<;>rfl
@[simp] def zakx{h:Heap}(els:List (List AV))(f:Fl):Zbt h (.sl els f)=some (.sl els f):=rfl
@[simp] def zaky{h:Heap}(els:List (List AV))(f:Fl):Zcz h (.sl els f)=some (.sl els f):=rfl
@[simp] def zapk{h:Heap}(els:List (List AV))(f:Fl):frz h (.sl els f)=some (.sl els f):=rfl
@[simp] def zaac(els:List (List AV))(f:Fl):Zbc (.sl els f)=false:=rfl
@[simp] def zaad(els:List (List AV))(f:Fl):Zbd (.sl els f)=false:=rfl
@[simp] def zacm(els:List (List AV))(f:Fl):scalar (.sl els f)=false:=rfl
@[simp] def zag3(els:List (List AV))(f:Fl):pureC (.sl els f)=true:=rfl
@[simp] def zag4(els:List (List AV))(f:Fl):noRef (.sl els f)=true:=rfl
@[simp] def zakz(els:List (List AV))(f:Fl):refs (.sl els f)=[]:=rfl
@[simp] def zapl(els:List (List AV))(f:Fl):rfC (.sl els f)=[]:=rfl
@[simp] def zapm(els:List (List AV))(f:Fl):rf1 (.sl els f)=[]:=rfl
@[simp] def zapn(els:List (List AV))(f:Fl):rfA (.sl els f)=[]:=rfl
@[simp] def zapo{σn:BId->BId}{σg:Nat->Nat}(els:List (List AV))(f:Fl):rlC σn σg (.sl els f)=(.sl els f):=rfl
@[simp] def zapp{σn:BId->BId}{σg:Nat->Nat}(els:List (List AV))(f:Fl):rl1 σn σg (.sl els f)=(.sl els f):=rfl
@[simp] def zapq{σn:BId->BId}{σg:Nat->Nat}(els:List (List AV))(f:Fl):rlA σn σg (.sl els f)=(.sl els f):=rfl
@[simp] def zacn{h:Heap}(els:List (List AV))(f:Fl):Zb0 h (.sl els f)=true:=rfl
@[simp] def zaco{h:Heap}(els:List (List AV))(f:Fl):Zcf h (.sl els f)=true:=rfl
@[simp] def zag5{h:Heap}(els:List (List AV))(f:Fl):Zdc h (.sl els f)=true:=rfl
@[simp] def zaae(els:List (List AV))(f:Fl):cellsOf (.sl els f)=some [.sl els f]:=rfl
@[simp] def zapr(cs:List AV)(o:Nat):wkA (.ep cs o)=.ep cs o/\Zbc (.ep cs o)=false/\Zbd (.ep cs o)=false/\scalar (.ep cs o)=false/\pureC (.ep cs o)=true/\noRef (.ep cs o)=true/\refs (.ep cs o)=[]/\rfC (.ep cs o)=[]/\rf1 (.ep cs o)=[]/\rfA (.ep cs o)=[]/\cellsOf (.ep cs o)=some [.ep cs o]:=by and_intros<;>rfl
@[simp] def zak0{h:Heap}(cs:List AV)(o:Nat):Zbt h (.ep cs o)=some (.ep cs o)/\Zcz h (.ep cs o)=some (.ep cs o)/\frz h (.ep cs o)=some (.ep cs o)/\Zb0 h (.ep cs o)=true/\Zcf h (.ep cs o)=true/\Zdc h (.ep cs o)=true:=by and_intros<;>rfl
@[simp] def zapw{σn:BId->BId}{σg:Nat->Nat}(cs:List AV)(o:Nat):rlC σn σg (.ep cs o)=(.ep cs o)/\rl1 σn σg (.ep cs o)=(.ep cs o)/\rlA σn σg (.ep cs o)=(.ep cs o):=by and_intros<;>rfl
@[simp] def zapz(n:Nat):wkA (u8 n)=u8 n/\Zbc (u8 n)=true/\Zbd (u8 n)=true/\scalar (u8 n)=true/\pureC (u8 n)=true/\noRef (u8 n)=true/\refs (u8 n)=[]/\rfC (u8 n)=[]/\rf1 (u8 n)=[]/\rfA (u8 n)=[]/\cellsOf (u8 n)=some [u8 n]/\wkA (u32 n)=u32 n/\Zbc (u32 n)=true/\Zbd (u32 n)=true/\scalar (u32 n)=true/\pureC (u32 n)=true/\noRef (u32 n)=true/\refs (u32 n)=[]/\rfC (u32 n)=[]/\rf1 (u32 n)=[]/\rfA (u32 n)=[]/\cellsOf (u32 n)=some [u32 n]/\wkA (u64 n)=u64 n/\Zbc (u64 n)=true/\Zbd (u64 n)=true/\scalar (u64 n)=true/\pureC (u64 n)=true/\noRef (u64 n)=true/\refs (u64 n)=[]/\rfC (u64 n)=[]/\rf1 (u64 n)=[]/\rfA (u64 n)=[]/\cellsOf (u64 n)=some [u64 n]:=by and_intros<;>rfl
@[simp] def zak3{h:Heap}(n:Nat):Zbt h (u8 n)=some (u8 n)/\Zcz h (u8 n)=some (u8 n)/\frz h (u8 n)=some (u8 n)/\Zb0 h (u8 n)=true/\Zcf h (u8 n)=true/\Zdc h (u8 n)=true/\Zbt h (u32 n)=some (u32 n)/\Zcz h (u32 n)=some (u32 n)/\frz h (u32 n)=some (u32 n)/\Zb0 h (u32 n)=true/\Zcf h (u32 n)=true/\Zdc h (u32 n)=true/\Zbt h (u64 n)=some (u64 n)/\Zcz h (u64 n)=some (u64 n)/\frz h (u64 n)=some (u64 n)/\Zb0 h (u64 n)=true/\Zcf h (u64 n)=true/\Zdc h (u64 n)=true:=by and_intros<;>rfl
@[simp] def zap4{σn:BId->BId}{σg:Nat->Nat}(n:Nat):rlC σn σg (u8 n)=(u8 n)/\rl1 σn σg (u8 n)=(u8 n)/\rlA σn σg (u8 n)=(u8 n)/\rlC σn σg (u32 n)=(u32 n)/\rl1 σn σg (u32 n)=(u32 n)/\rlA σn σg (u32 n)=(u32 n)/\rlC σn σg (u64 n)=(u64 n)/\rl1 σn σg (u64 n)=(u64 n)/\rlA σn σg (u64 n)=(u64 n):=by and_intros<;>rfl
@[simp] def zahi:wkA .dead=.dead/\Zbc .dead=false/\Zbd .dead=false/\scalar .dead=false/\pureC .dead=true/\noRef .dead=true/\refs .dead=[]/\rfC .dead=[]/\rf1 .dead=[]/\rfA .dead=[]:=by and_intros<;>rfl
@[simp] def zac1{h:Heap}:Zbt h .dead=some .dead/\Zcz h .dead=some .dead/\frz h .dead=some .dead/\Zb0 h .dead=true/\Zcf h .dead=true/\Zdc h .dead=true:=by and_intros<;>rfl
@[simp] def zahn{σn:BId->BId}{σg:Nat->Nat}:rlC σn σg .dead=.dead/\rl1 σn σg .dead=.dead/\rlA σn σg .dead=.dead:=by and_intros<;>rfl
@[simp] def zap7(els:List (List AV))(f:Fl):wkA (.sl els f)=.sl (wkL els) .an:=rfl
@[simp] def zalm(cs:List AV):wkA (.agg cs)=.agg (wkR cs)/\wkA (.tup cs)=.tup (wkR cs):=by and_intros<;>rfl
@[simp] def zap8(id:BId)(g z off n:Nat):wkA (.bs id g z off n)=.bs id g z off n:=rfl
@[simp] def zalo(id:BId)(g z i o:Nat):wkA (.ptr id g z i o)=.ptr id g z i o:=rfl
@[simp] def zalp(f:Nat)(id:BId)(g z i o:Nat):wkA (.fnp f id g z i o)=.fnp f id g z i o:=rfl
@[simp] def zalq(f:Nat)(x:AV):wkA (.fnv f x)=.fnv f (wkA x):=rfl
@[simp] def zalr:wkR []=[]/\wkL []=[]:=by and_intros<;>rfl
@[simp] def zahq(c:AV)(r:List AV):wkR (c::r)=wkA c::wkR r:=rfl
@[simp] def zahr(c:List AV)(r:List (List AV)):wkL (c::r)=wkR c::wkL r:=rfl
def Zg6:AV->List BId
 | .bs id .. => [id]
 | _=>[]
@[simp] def zalt{h:Heap}(id:BId)(g z off n:Nat):(Zcz h (.bs id g z off n)=(Zau h id g z).bind fun bx=>if bx.kind≠.str/\off+n<=bx.els.length then some (.sl ((bx.els.drop off).take n) .an) else none)/\(Zbt h (.bs id g z off n)=(Zau h id g z).bind fun bx=>if bx.kind≠.str/\off+n<=bx.els.length then some (.sl ((bx.els.drop off).take n) .an) else none)/\(frz h (.bs id g z off n)=(Zau h id g z).bind fun bx=>if bx.kind≠.str/\off+n<=bx.els.length then some (.sl ((bx.els.drop off).take n) .an) else none)/\Zb0 h (.bs id g z off n)=(Zau h id g z).isSome/\Zcf h (.bs id g z off n)=(Zau h id g z).isSome/\Zdc h (.bs id g z off n)=(Zau h id g z).isSome:=by and_intros<;>rfl
@[simp] def zahs{h:Heap}(id:BId)(g z i o:Nat):Zcz h (.ptr id g z i o)=some .dead/\Zbt h (.ptr id g z i o)=some .dead/\frz h (.ptr id g z i o)=some .dead/\Zb0 h (.ptr id g z i o)=(Zau h id g z).isSome/\Zcf h (.ptr id g z i o)=(Zau h id g z).isSome/\Zdc h (.ptr id g z i o)=(Zau h id g z).isSome:=by and_intros<;>rfl
@[simp] def zaht{h:Heap}(f:Nat)(id:BId)(g z i o:Nat):Zcz h (.fnp f id g z i o)=some .dead/\Zbt h (.fnp f id g z i o)=some .dead/\frz h (.fnp f id g z i o)=some .dead/\Zb0 h (.fnp f id g z i o)=Zae h id g/\Zcf h (.fnp f id g z i o)=Zae h id g/\Zdc h (.fnp f id g z i o)=Zae h id g:=by and_intros<;>rfl
@[simp] def zahu{h:Heap}(f:Nat)(x:AV):Zcz h (.fnv f x)=some (.fnv f x)/\Zbt h (.fnv f x)=some (.fnv f x)/\frz h (.fnv f x)=some (.fnv f x)/\Zb0 h (.fnv f x)=true/\Zcf h (.fnv f x)=true/\Zdc h (.fnv f x)=true:=by and_intros<;>rfl
@[simp] def zahy{h:Heap}(cs:List AV):Zbt h (.agg cs)=(cs.mapM (Zcz h)).map .agg/\frz h (.agg cs)=(cs.mapM (Zcz h)).map .agg/\frz h (.tup cs)=(cs.mapM (Zbt h)).map .tup/\Zcf h (.agg cs)=cs.all (Zb0 h)/\Zdc h (.agg cs)=cs.all (Zb0 h)/\Zdc h (.tup cs)=cs.all (Zcf h):=by and_intros<;>rfl
@[simp] def zaau(id:BId)(g z off n:Nat):Zbc (.bs id g z off n)=false/\Zbd (.bs id g z off n)=false/\scalar (.bs id g z off n)=false/\pureC (.bs id g z off n)=false/\noRef (.bs id g z off n)=false/\refs (.bs id g z off n)=[id]/\rfC (.bs id g z off n)=[id]/\rf1 (.bs id g z off n)=[id]/\rfA (.bs id g z off n)=[id]/\cellsOf (.bs id g z off n)=some [.bs id g z off n]:=by and_intros<;>rfl
@[simp] def z69(id:BId)(g z i o:Nat):Zbc (.ptr id g z i o)=false/\Zbd (.ptr id g z i o)=false/\scalar (.ptr id g z i o)=false/\pureC (.ptr id g z i o)=false/\noRef (.ptr id g z i o)=false/\refs (.ptr id g z i o)=[]/\rfC (.ptr id g z i o)=[id]/\rf1 (.ptr id g z i o)=[id]/\rfA (.ptr id g z i o)=[id]/\cellsOf (.ptr id g z i o)=some [.ptr id g z i o]:=by and_intros<;>rfl
@[simp] def z7a(f:Nat)(id:BId)(g z i o:Nat):Zbc (.fnp f id g z i o)=false/\Zbd (.fnp f id g z i o)=false/\scalar (.fnp f id g z i o)=false/\pureC (.fnp f id g z i o)=false/\noRef (.fnp f id g z i o)=false/\refs (.fnp f id g z i o)=[]/\rfC (.fnp f id g z i o)=[id]/\rf1 (.fnp f id g z i o)=[id]/\rfA (.fnp f id g z i o)=[id]/\cellsOf (.fnp f id g z i o)=some [.fnp f id g z i o]:=by and_intros<;>rfl
@[simp] def z7b(f:Nat)(x:AV):Zbc (.fnv f x)=false/\Zbd (.fnv f x)=false/\scalar (.fnv f x)=false/\pureC (.fnv f x)=true/\noRef (.fnv f x)=true/\refs (.fnv f x)=[]/\rfC (.fnv f x)=[]/\rf1 (.fnv f x)=[]/\rfA (.fnv f x)=[]/\cellsOf (.fnv f x)=some [.fnv f x]:=by and_intros<;>rfl
@[simp] def z7f(cs:List AV):Zbd (.agg cs)=cs.all Zbc/\scalar (.agg cs)=cs.all Zbc/\scalar (.tup cs)=cs.all Zbd/\pureC (.agg cs)=false/\pureC (.tup cs)=false/\noRef (.agg cs)=cs.all pureC/\noRef (.tup cs)=false/\rf1 (.agg cs)=cs.flatMap rfC/\rfA (.agg cs)=cs.flatMap rfC/\rfA (.tup cs)=cs.flatMap rf1/\cellsOf (.agg cs)=some cs:=by and_intros<;>rfl
@[simp] def zaqd{σn:BId->BId}{σg:Nat->Nat}(id:BId)(g z off n:Nat):rlC σn σg (.bs id g z off n)=.bs (σn id) (σg g) z off n/\rl1 σn σg (.bs id g z off n)=.bs (σn id) (σg g) z off n/\rlA σn σg (.bs id g z off n)=.bs (σn id) (σg g) z off n:=by and_intros<;>rfl
@[simp] def zamd{σn:BId->BId}{σg:Nat->Nat}(id:BId)(g z i o:Nat):rlC σn σg (.ptr id g z i o)=.ptr (σn id) (σg g) z i o/\rl1 σn σg (.ptr id g z i o)=.ptr (σn id) (σg g) z i o/\rlA σn σg (.ptr id g z i o)=.ptr (σn id) (σg g) z i o:=by and_intros<;>rfl
@[simp] def zame{σn:BId->BId}{σg:Nat->Nat}(f:Nat)(id:BId)(g z i o:Nat):rlC σn σg (.fnp f id g z i o)=.fnp f (σn id) (σg g) z i o/\rl1 σn σg (.fnp f id g z i o)=.fnp f (σn id) (σg g) z i o/\rlA σn σg (.fnp f id g z i o)=.fnp f (σn id) (σg g) z i o:=by and_intros<;>rfl
@[simp] def zamf{σn:BId->BId}{σg:Nat->Nat}(f:Nat)(x:AV):rlC σn σg (.fnv f x)=.fnv f x/\rl1 σn σg (.fnv f x)=.fnv f x/\rlA σn σg (.fnv f x)=.fnv f x:=by and_intros<;>rfl
@[simp] def zamm{σn:BId->BId}{σg:Nat->Nat}(cs:List AV):rl1 σn σg (.agg cs)=.agg (cs.map (rlC σn σg))/\rlA σn σg (.agg cs)=.agg (cs.map (rlC σn σg))/\rlA σn σg (.tup cs)=.tup (cs.map (rl1 σn σg)):=by and_intros<;>rfl
@[simp] def zaqg(k:IntKind)(n:Int):Zg6 (.i k n)=[]:=rfl
@[simp] def zaqh(t:Bool):Zg6 (.b t)=[]:=rfl
@[simp] def zaqi(l:List UInt8):Zg6 (.s l)=[]:=rfl
@[simp] def zah5(v:Value):Zg6 (.raw v)=[]:=rfl
@[simp] def zamp(els:List (List AV))(f:Fl):Zg6 (.sl els f)=[]:=rfl
@[simp] def zamq(cs:List AV)(o:Nat):Zg6 (.ep cs o)=[]:=rfl
@[simp] def zamr(n:Nat):Zg6 (u8 n)=[]/\Zg6 (u32 n)=[]/\Zg6 (u64 n)=[]:=by and_intros<;>rfl
@[simp] def zadm:Zg6 .dead=[]/\refs (.tup [])=[]:=by and_intros<;>rfl
@[simp] def zams(id:BId)(g z off n:Nat):Zg6 (.bs id g z off n)=[id]:=rfl
@[simp] def zah8(id:BId)(g z i o:Nat):Zg6 (.ptr id g z i o)=[]:=rfl
@[simp] def zah9(f:Nat)(id:BId)(g z i o:Nat):Zg6 (.fnp f id g z i o)=[]:=rfl
@[simp] def zaia(f:Nat)(x:AV):Zg6 (.fnv f x)=[]:=rfl
@[simp] def zaib(cs:List AV):refs (.agg cs)=cs.flatMap Zg6:=rfl
@[simp] def zaic(h:Heap)(id:BId)(g z:Nat):Zau h id g z=(match h.lookup id with | some bx=>if bx.gen=g/\bx.z=z/\bx.kind≠.mp then some bx else none | none=>none):=rfl
@[simp] def zadn(x:AV):wkIf true x=x/\wkIf false x=wkA x:=by and_intros<;>rfl
def zit(n:Nat):IntKind.wrap .u32 (n:Int)=((n%4294967296:Nat):Int):=by
 simp[IntKind.wrap,IntKind.signed,IntKind.bits]
def zfl(n:Nat):IntKind.wrap .u64 (n:Int)=((n%18446744073709551616:Nat):Int):=by
 simp[IntKind.wrap,IntKind.signed,IntKind.bits]
def z7k(n:Nat):IntKind.wrap .u8 (n:Int)=((n%256:Nat):Int):=by
 simp[IntKind.wrap,IntKind.signed,IntKind.bits]
def bX(o:Option (Ex×St))(f:St->Option (Ex×St)):Option (Ex×St):=o.bind fun r=>match r.1 with | .n=>f r.2 | _=>some r
def Zi4(id:Nat)(o:Option (Ex×St)):Option (Ex×St):=o.bind fun r=>match r.1 with | .x j=>if j=id then some (.n,r.2) else some r | _=>some r
def stX(o:Option St):Option (Ex×St):=o.map fun s=>(.n,s)
def bS(o:Option St)(f:St->Option St):Option St:=o.bind f
def cnX(v:AV)(x y:Option (Ex×St)):Option (Ex×St):=match v with | .b t=>if t then x else y | _=>none
def pS(o:Option AV)(d:Option Nat)(st:St):Option St:=o.map fun x=>⟨Zi st.env d x,st.heap,st.clk⟩
def pW(o:Option (AV×Heap×Nat))(d:Option Nat)(st:St):Option St:=o.map fun q=>⟨Zi st.env d q.1,q.2.1,q.2.2⟩
def pB(o:Option (AV×Heap))(d:Option Nat)(st:St):Option St:=o.map fun q=>⟨Zi st.env d q.1,q.2,st.clk⟩
def Zk7(res:List RV)(ex:Bool)(o:Option (Ex×St)):Option AV:=
 o.bind fun r=>match r.1 with | .x _=>none | .g _=>none | _=>(Zdz r.2 res).bind fun x=>(frz r.2.heap x).map (wkIf ex)
def Zk8(res:List RV)(ex:Bool)(k:Nat)(o:Option (Ex×St)):Option (AV×Heap):=
 o.bind fun r=>match r.1 with | .x _=>none | .g _=>none | _=>(Zdz r.2 res).map fun x=>let s:=Zec ex k [0] ⟨[(0,x)],r.2.heap,r.2.clk⟩;(s.env.get 0,s.heap)
section
variable{o o':Option (Ex×St)}{f:St->Option (Ex×St)}{s:St}
@[congr] def zaid(h:o=o'):bX o f=bX o' f:=by rw[h]
@[congr] def zaie{o o':Option St}{f:St->Option St}(h:o=o'):bS o f=bS o' f:=by rw[h]
@[congr] def zado{v v':AV}{x y:Option (Ex×St)}(h:v=v'):cnX v x y=cnX v' x y:=by rw[h]
@[simp] def bX_n:bX (some (.n,s)) f=f s:=rfl
@[simp] def bX_x(id:Nat):bX (some (.x id,s)) f=some (.x id,s):=rfl
@[simp] def bX_r:bX (some (.r,s)) f=some (.r,s):=rfl
@[simp] def zamt:bX none f=none:=rfl
@[simp] def zaqj{c:Prop}[Decidable c]{a b:Option (Ex×St)}:bX (if c then a else b) f=if c then bX a f else bX b f:=by split<;>rfl
@[simp] def zaif(id:Nat){c:Prop}[Decidable c]{a b:Option (Ex×St)}:Zi4 id (if c then a else b)=if c then Zi4 id a else Zi4 id b:=by split<;>rfl
@[simp] def zaig{res:List RV}{ex:Bool}{c:Prop}[Decidable c]{a b:Option (Ex×St)}:Zk7 res ex (if c then a else b)=if c then Zk7 res ex a else Zk7 res ex b:=by split<;>rfl
@[simp] def zaih{res:List RV}{ex:Bool}{k:Nat}{c:Prop}[Decidable c]{a b:Option (Ex×St)}:Zk8 res ex k (if c then a else b)=if c then Zk8 res ex k a else Zk8 res ex k b:=by split<;>rfl
@[simp] def zaqk(id:Nat):Zi4 id (some (.n,s))=some (.n,s):=rfl
@[simp] def zadp(id j:Nat):Zi4 id (some (.x j,s))=if j=id then some (.n,s) else some (.x j,s):=rfl
@[simp] def zaql(id:Nat):Zi4 id (some (.r,s))=some (.r,s):=rfl
@[simp] def zadq(id:Nat):Zi4 id none=none:=rfl
@[simp] def zaii:stX (some s)=some (.n,s):=rfl
@[simp] def zaij:stX none=none:=rfl
@[simp] def zamu{f:St->Option St}:bS (some s) f=f s:=rfl
@[simp] def zamv{f:St->Option St}:bS none f=none:=rfl
@[simp] def zas3{t:Bool}{x y:Option (Ex×St)}:cnX (.b t) x y=if t then x else y:=rfl
@[simp] def zamw{x:AV}{d:Option Nat}:pS (some x) d s=some ⟨Zi s.env d x,s.heap,s.clk⟩:=rfl
@[simp] def zamx{d:Option Nat}:pS none d s=none/\pW none d s=none/\pB none d s=none:=by and_intros<;>rfl
@[simp] def zamy{x:AV}{h:Heap}{c:Nat}{d:Option Nat}:pW (some (x,h,c)) d s=some ⟨Zi s.env d x,h,c⟩:=rfl
@[simp] def zam0{x:AV}{h:Heap}{d:Option Nat}:pB (some (x,h)) d s=some ⟨Zi s.env d x,h,s.clk⟩:=rfl
@[simp] def zaqm{res:List RV}{ex:Bool}:(Zk7 res ex (some (.r,s))=(Zdz s res).bind fun x=>(frz s.heap x).map (wkIf ex))/\(Zk7 res ex (some (.n,s))=(Zdz s res).bind fun x=>(frz s.heap x).map (wkIf ex)):=by and_intros<;>rfl
@[simp] def zaqo{res:List RV}{ex:Bool}{k:Nat}:(Zk8 res ex k (some (.r,s))=(Zdz s res).map fun x=>((Zec ex k [0] ⟨[(0,x)],s.heap,s.clk⟩).env.get 0,(Zec ex k [0] ⟨[(0,x)],s.heap,s.clk⟩).heap))/\(Zk8 res ex k (some (.n,s))=(Zdz s res).map fun x=>((Zec ex k [0] ⟨[(0,x)],s.heap,s.clk⟩).env.get 0,(Zec ex k [0] ⟨[(0,x)],s.heap,s.clk⟩).heap)):=by and_intros<;>rfl
end
section
variable{T:Tbl}{k:Nat}{st:St}{d:Option Nat}
noncomputable abbrev X(T:Tbl)(k:Nat)(c:AX)(st:St):Option (Ex×St):=evX (orc T) T k c st
noncomputable abbrev R(T:Tbl)(l:List AO)(st:St):Option St:=Zey (orc T) T l st
@[congr] def zadr{O:Orc}{c:AX}{st st':St}(h:st=st'):evX O T k c st=evX O T k c st':=by rw[h]
@[congr] def zads{O:Orc}{op:AOp}{d:Option Nat}{st st':St}(h:st=st'):opX O T op d st=opX O T op d st':=by rw[h]
def scX(o:Option (Ex×St)):Option (Ex×St):=o.bind fun r=>match r.1 with | .g _=>none | _=>some r
@[simp] def zaqq:evX (orc T) T k .skip st=some (.n,st):=rfl
@[simp] def zas4{l:List AO}:evX (orc T) T k (.reg l) st=stX (Zey (orc T) T l st):=rfl
@[simp] def zaqr{l:List DO}:evX (orc T) T k (.draw l) st=stX (Zch (orc T) T l st.env st.heap st.clk [] []):=rfl
@[simp] def zas5{a b:AX}:evX (orc T) T k (.seq a b) st=bX (evX (orc T) T k a st) fun s=>evX (orc T) T k b s:=rfl
@[simp] def zaqs{c:Opd}{x y:AX}:evX (orc T) T k (.cond c x y) st=cnX (ev st.env.get c) (evX (orc T) T k x st) (evX (orc T) T k y st):=rfl
@[simp] def zam2{id:Nat}{c:AX}:evX (orc T) T k (.block id c) st=Zi4 id (evX (orc T) T k c st):=rfl
@[simp] def zaqt{c:AX}:evX (orc T) T k (.loop c) st=Zkq T k c st:=rfl
@[congr] def zadt{o o':Option (Ex×St)}(h:o=o'):scX o=scX o':=by rw[h]
@[simp] def zas6{s:St}:scX (some (.n,s))=some (.n,s)/\scX (some (.r,s))=some (.r,s):=by and_intros<;>rfl
@[simp] def zas7{j:Nat}{s:St}:scX (some (.x j,s))=some (.x j,s):=rfl
@[simp] def zam3{c:Prop}[Decidable c]{a b:Option (Ex×St)}:scX (if c then a else b)=if c then scX a else scX b:=by split<;>rfl
@[simp] def zam4{c:AX}:evX (orc T) T k (.scope c) st=scX (evX (orc T) T k c st):=rfl
@[simp] def zam5{l:Nat}:evX (orc T) T k (.label l) st=some (.n,st)/\evX (orc T) T k (.goto l) st=some (.g l,st):=by and_intros<;>rfl
@[simp] def bX_g{l:Nat}{s:St}{f:St->Option (Ex×St)}:bX (some (.g l,s)) f=some (.g l,s):=rfl
def prX(o:Option St)(f:St->Option (Ex×St)):Option (Ex×St):=o.bind f
@[simp] def zaqv{id l:Nat}{s:St}:Zi4 id (some (.g l,s))=some (.g l,s):=rfl
@[simp] def zaqw{id:Nat}:evX (orc T) T k (.exit id) st=some (.x id,st):=rfl
@[simp] def zas9:evX (orc T) T k .ret st=some (.r,st):=rfl
@[simp] def zaqx{c:AX}{g:Gh}:evX (orc T) T k (.note c g) st=bX (evX (orc T) T k c st) fun s=>stX (ghS k g s):=rfl
@[congr] def zadu{o o':Option St}{f:St->Option (Ex×St)}(h:o=o'):prX o f=prX o' f:=by rw[h]
@[simp] def zaik{s:St}{f:St->Option (Ex×St)}:prX (some s) f=f s:=rfl
noncomputable def Zdw(k id:Nat)(g2:Gh)(o:Option (Ex×St)):Option (Ex×St):=bX (Zi4 id o) fun s=>stX (ghS k g2 s)
noncomputable def Zx(T:Tbl)(k id:Nat)(g2:Gh)(c:AX)(st:St):Option (Ex×St):=Zdw k id g2 (Zkq T k c st)
@[simp] def zata{c:AX}{g:Gh}:evX (orc T) T k (.pre g c) st=prX (ghS k g st) fun s=>evX (orc T) T k c s:=rfl
@[congr] def z7l{id:Nat}{g2:Gh}{c:AX}{st st':St}(h:st=st'):Zx T k id g2 c st=Zx T k id g2 c st':=by rw[h]
@[congr] def zaba{id:Nat}{g2:Gh}{o o':Option (Ex×St)}(h:o=o'):Zdw k id g2 o=Zdw k id g2 o':=by rw[h]
@[simp] def zaqy{id j:Nat}{g2:Gh}{s:St}:Zdw k id g2 (some (.x j,s))=if j=id then stX (ghS k g2 s) else some (.x j,s):=by
 unfold Zdw;rw[zadp];split<;>simp
@[simp] def zaqz{id:Nat}{g2:Gh}{s:St}:Zdw k id g2 (some (.r,s))=some (.r,s):=rfl
@[simp] def X_lp{id:Nat}{g g2:Gh}{c:AX}:evX (orc T) T k (.lp id g c g2) st=prX (ghS k g st) fun s=>Zx T k id g2 c s:=by
 simp only[evX,prX,Zx,Zdw,bX,Zi4,stX,Zkq];cases ghS k g st with
 | none=>rfl
 | some s=>
  simp only[Y5];cases (orc T).loop k c s with
  | none=>rfl
  | some r=>
   obtain⟨e,s'⟩:=r;cases e with
   | n=>rfl
   | r=>rfl
   | g l=>rfl
   | x j=>
    simp only[Y5];split<;>rfl
def Ze6:Option (Ex×St)->Bool
 | some (.x _,_)=>true
 | some (.r,_)=>true
 | _=>false
@[simp] def zaq0{j:Nat}{s:St}:Ze6 (some (.x j,s))=true:=rfl
@[simp] def zaq1{s:St}:Ze6 (some (.r,s))=true:=rfl
@[simp] def zail{c:Prop}[Decidable c]{a b:Option (Ex×St)}:Ze6 (if c then a else b)=if c then Ze6 a else Ze6 b:=by split<;>rfl
@[congr] def zabb{o o':Option (Ex×St)}(h:o=o'):Ze6 o=Ze6 o':=by rw[h]
def ztr{c:AX}:Zkq T k c st=bX (evX (orc T) T k c st) fun s=>Zkq T k c s:=z23 T k c st
def zay{α:Type}{id:Nat}{g2:Gh}{c:AX}(F:α->St)(I:α->Prop)(μ:α->Nat)(Q:Ex×St->Prop)
  (step:∀x,I x->(∃y,I y/\μ y<μ x/\evX (orc T) T k c (F x)=some (.n,F y))\/(∃r,Q r/\Ze6 (evX (orc T) T k c (F x))=true/\Zdw k id g2 (evX (orc T) T k c (F x))=some r)) :
  ∀x,I x->∃r,Q r/\Zx T k id g2 c (F x)=some r:=by
 have key:∀n x,μ x=n->I x->∃r,Q r/\Zx T k id g2 c (F x)=some r:=by
  intro n
  induction n using Nat.strongRecOn with
  | _ n ih=>
   intro x hn hI;unfold Zx;rw[ztr];rcases step x hI with ⟨y,h1,h2,h3⟩ | ⟨r,h1,h2,h3⟩
   ·rw[h3,bX_n];exact ih (μ y) (hn▸h2) y rfl h1
   ·refine⟨r,h1,?_⟩;rw[<-h3];generalize evX (orc T) T k c (F x)=o at h2 ⊢;cases o with
    | none=>cases h2
    | some q=>
     obtain⟨e,s⟩:=q;cases e
     ·cases h2
     ·rfl
     ·rfl
     ·cases h2
 exact fun x hI=>key _ x rfl hI
def zbg{α:Type}{id:Nat}{g2:Gh}{c:AX}(F:α->St)(I:α->Prop)(μ:α->Nat)(G:α->Option (Ex×St))
  (step:∀x,I x->(∃y,I y/\μ y<μ x/\evX (orc T) T k c (F x)=some (.n,F y)/\G y=G x)\/(Ze6 (evX (orc T) T k c (F x))=true/\Zdw k id g2 (evX (orc T) T k c (F x))=G x)) :
  ∀x,I x->Zx T k id g2 c (F x)=G x:=by
 have key:∀n x,μ x=n->I x->Zx T k id g2 c (F x)=G x:=by
  intro n
  induction n using Nat.strongRecOn with
  | _ n ih=>
   intro x hn hI;unfold Zx;rw[ztr];rcases step x hI with ⟨y,h1,h2,h3,h4⟩ | ⟨h2,h3⟩
   ·rw[h3,bX_n,<-h4];exact ih (μ y) (hn▸h2) y rfl h1
   ·rw[<-h3];generalize evX (orc T) T k c (F x)=o at h2 ⊢;cases o with
    | none=>cases h2
    | some q=>
     obtain⟨e,s⟩:=q;cases e
     ·cases h2
     ·rfl
     ·rfl
     ·cases h2
 exact fun x hI=>key _ x rfl hI
noncomputable def gS(T:Tbl)(x:AV)(want:Bool)(op:AOp)(d:Option Nat)(st:St):Option St:=gX (orc T) T x want op d st
@[simp] def zatb:Zey (orc T) T [] st=some st:=rfl
@[simp] def zaq2{d:Option Nat}{op:AOp}{l:List AO}:Zey (orc T) T (⟨d,none,op⟩::l) st=bS (opX (orc T) T op d st) fun s=>Zey (orc T) T l s:=rfl
@[congr] def zaim{x x':AV}{want:Bool}{op:AOp}(h:x=x'):gS T x want op d st=gS T x' want op d st:=by rw[h]
@[simp] def zam6{d:Option Nat}{op:AOp}{l:List AO}{t:Nat}{w:Bool}:Zey (orc T) T (⟨d,some (t,w),op⟩::l) st=bS (gS T (st.env.get t) w op d st) fun s=>Zey (orc T) T l s:=rfl
@[simp] def gS_b{v want:Bool}{op:AOp}:gS T (.b v) want op d st=if v=want then opX (orc T) T op d st else some ⟨Zi st.env d (.tup []),st.heap,st.clk⟩:=rfl
@[simp] def zaq3{vs:List AV}{want:Bool}{op:AOp}:gS T (.tup vs) want op d st=some ⟨Zi st.env d (.tup []),st.heap,st.clk⟩:=rfl
@[simp] def zatc{x}:opX (orc T) T (.mov x) d st=some ⟨Zi st.env d (ev st.env.get x),st.heap,st.clk⟩:=rfl
@[simp] def zaq4{c a b}:opX (orc T) T (.pick c a b) d st=pS (Zip (ev st.env.get c) (ev st.env.get a) (ev st.env.get b)) d st:=rfl
@[simp] def zam7{zs ps}:opX (orc T) T (.build zs ps) d st=pS ((Zh4 zs (ps.map fun p=>(p.1,p.2.1,ev st.env.get p.2.2))).map .agg) d st:=rfl
@[simp] def zaq5{n x}:opX (orc T) T (.load n x) d st=pS (Zg2 n st.heap (ev st.env.get x)) d st:=rfl
@[simp] def zatd{o x y}:opX (orc T) T (.bin o x y) d st=pS (Zay o (ev st.env.get x) (ev st.env.get y)) d st:=rfl
@[simp] def zate{g ls x y}:opX (orc T) T (.eqs g ls x y) d st=pS (Zjn g ls (ev st.env.get x) (ev st.env.get y)) d st:=rfl
@[simp] def zam8{g x}:opX (orc T) T (.eqnil g x) d st=pS (Za0 g (ev st.env.get x)) d st:=rfl
@[simp] def zatf{g x y}:opX (orc T) T (.eqb g x y) d st=pS (Zjo g (ev st.env.get x) (ev st.env.get y)) d st:=rfl
@[simp] def O_un{o x}:opX (orc T) T (.un o x) d st=pS (Ziq o (ev st.env.get x)) d st:=rfl
@[simp] def zaq6{n x}:opX (orc T) T (.conv n x) d st=pS (Zcc n (ev st.env.get x)) d st:=rfl
@[simp] def zatg{z x lo hi mx}:opX (orc T) T (.slc z x lo hi mx) d st=pS (Zh5 z st.heap (ev st.env.get x) (evO st.env.get lo) (evO st.env.get hi) (evO st.env.get mx)) d st:=rfl
@[simp] def zam9{x lo hi}:opX (orc T) T (.slstr x lo hi) d st=pS (Zgn (ev st.env.get x) (evO st.env.get lo) (evO st.env.get hi)) d st:=rfl
@[simp] def zath{o x}:opX (orc T) T (.fad o x) d st=pS (Zir o st.heap (ev st.env.get x)) d st:=rfl
@[simp] def zati{o n x}:opX (orc T) T (.fld o n x) d st=pS (Zjp o n (ev st.env.get x)) d st:=rfl
@[simp] def zatj{z x i}:opX (orc T) T (.iad z x i) d st=pS (Zis z st.heap (ev st.env.get x) (ev st.env.get i)) d st:=rfl
@[simp] def zatk{z n x i}:opX (orc T) T (.iaa z n x i) d st=pS (Zit z n st.heap (ev st.env.get x) (ev st.env.get i)) d st:=rfl
@[simp] def zatl{x i}:opX (orc T) T (.ixs x i) d st=pS (Zjq (ev st.env.get x) (ev st.env.get i)) d st:=rfl
@[simp] def zatm{z l n x i}:opX (orc T) T (.ixa z l n x i) d st=pS (Zjr z l n (ev st.env.get x) (ev st.env.get i)) d st:=rfl
@[simp] def zatn{x}:opX (orc T) T (.len x) d st=pS (Ziu st.heap (ev st.env.get x)) d st:=rfl
@[simp] def zaq7{x}:opX (orc T) T (.lens x) d st=pS (Zhq (ev st.env.get x)) d st:=rfl
@[simp] def zaq8{n}:opX (orc T) T (.lenc n) d st=some ⟨Zi st.env d (.i .i64 n),st.heap,st.clk⟩:=rfl
@[simp] def O_mm{m xs}:opX (orc T) T (.mm m xs) d st=pS (Zma m (xs.map (ev st.env.get))) d st:=rfl
@[simp] def zato{x n}:opX (orc T) T (.ext x n) d st=pS (Zjs n (ev st.env.get x)) d st:=rfl
@[simp] def zaq9{x}:opX (orc T) T (.nilc x) d st=pS (Zg3 st.heap (ev st.env.get x)) d st:=rfl
@[simp] def zana{zs}:opX (orc T) T (.alloc zs) d st=pW (Zgo zs d st.heap st.clk) d st:=rfl
@[simp] def zanb{n x v}:opX (orc T) T (.store n x v) d st=pW ((Zce n st.heap (ev st.env.get x) (ev st.env.get v)).map fun h'=>(.tup [],h',st.clk)) d st:=rfl
@[simp] def zatp{z zs l c}:opX (orc T) T (.mks z zs l c) d st=pW (Zh7 z zs d st.heap st.clk (ev st.env.get l) (ev st.env.get c)) d st:=rfl
@[simp] def zatq{z x y}:opX (orc T) T (.app z x y) d st=pW (Zkl z d st.heap st.clk (ev st.env.get x) (ev st.env.get y)) d st:=rfl
@[simp] def zara{n xs}:opX (orc T) T (.xop (.box n) xs) d st=pW (Zbe (.box n) (xs.map (ev st.env.get)) d st.heap st.clk) d st:=rfl
@[simp] def zarb{xs}:opX (orc T) T (.xop .cpy xs) d st=pW (Zbe .cpy (xs.map (ev st.env.get)) d st.heap st.clk) d st:=rfl
@[simp] def zanc{xs}:opX (orc T) T (.xop .bstr xs) d st=pW (Zbe .bstr (xs.map (ev st.env.get)) d st.heap st.clk) d st:=rfl
@[simp] def zand{n xs}:opX (orc T) T (.xop (.arsl n) xs) d st=pW (Zbe (.arsl n) (xs.map (ev st.env.get)) d st.heap st.clk) d st:=rfl
@[simp] def zane{xs}:opX (orc T) T (.xop .apps xs) d st=pW (Zbe .apps (xs.map (ev st.env.get)) d st.heap st.clk) d st:=rfl
@[simp] def zarc{xs}:opX (orc T) T (.xop .bad xs) d st=pW (Zbe .bad (xs.map (ev st.env.get)) d st.heap st.clk) d st:=rfl
@[simp] def zatr{n xs}:opX (orc T) T (.xop (.mkf n) xs) d st=pW (Zbe (.mkf (Zf T n)) (xs.map (ev st.env.get)) d st.heap st.clk) d st:=rfl
@[simp] def zard{k zv ok x i}:opX (orc T) T (.look k zv ok x i) d st=pS (Zfp k zv ok st.heap (ev st.env.get x) (ev st.env.get i)) d st:=rfl
@[simp] def zare{xs}:opX (orc T) T (.xop .mmap xs) d st=pW (Zbe .mmap (xs.map (ev st.env.get)) d st.heap st.clk) d st:=rfl
@[simp] def zarf{k xs}:opX (orc T) T (.xop (.mupd k) xs) d st=pW (Zbe (.mupd k) (xs.map (ev st.env.get)) d st.heap st.clk) d st:=rfl
@[simp] def z7m{dd:Option Nat}{h:Heap}{clk:Nat}:Zbe .mmap [] dd h clk=Zj4 dd h clk:=rfl
@[simp] def z7n{n:Nat}{h:Heap}{clk:Nat}:Zj4 (some n) h clk=some (.fnp 0 (.loc n) clk 2 0 0,(.loc n,⟨clk,.mp,2,[]⟩)::h,clk+1):=rfl
@[simp] def zain(h:Heap)(id:BId)(g:Nat):Zgx h id g=(match h.lookup id with | some bx=>if bx.gen=g/\bx.z=2/\bx.kind=.mp then some bx else none | none=>none):=rfl
@[simp] def zabc{k:KTy}{zv:AV}{ok:Bool}{h:Heap}{id:BId}{g:Nat}{i:AV}:Zfp k zv ok h (.fnp 0 id g 2 0 0) i=(Zgx h id g).bind fun bx=>if (Zdy k i i).isSome&&noRef i then (Zf5 k i bx.els).map fun r=>
   if ok then .tup [r.getD zv,.b r.isSome] else r.getD zv else none:=rfl
@[simp] def zadv{k k':IntKind}{a b:Int}:Zdy .int (.i k a) (.i k' b)=if k=k' then some (a == b) else none:=rfl
@[simp] def zaio{ls:List (Nat×Leaf)}{xs ys:List AV}:Zdy (.fs ls) (.agg xs) (.agg ys)=eqL ls xs ys:=rfl
@[simp] def zabd:Zko (some none)=true:=rfl
@[simp] def zadw{k:KTy}{x:AV}:Zf5 k x []=some none:=rfl
@[simp] def z7o{k:KTy}{id:BId}{g:Nat}{i y:AV}{dd:Option Nat}{h:Heap}{clk:Nat}:Zbe (.mupd k) [.fnp 0 id g 2 0 0,i,y] dd h clk =
  (Zgx h id g).bind fun bx=>if (Zdy k i i).isSome&&noRef i&&noRef y&&Zko (Zf5 k i bx.els) then some (.dead,(id,⟨g,.mp,2,bx.els++[[i,y]]⟩)::h,clk) else none:=rfl
@[simp] def zats{n xs}:opX (orc T) T (.xop (.mkv n) xs) d st=pW (Zbe (.mkv (Zf T n)) (xs.map (ev st.env.get)) d st.heap st.clk) d st:=rfl
@[simp] def zabe{f:Nat}{x:AV}{dd:Option Nat}{h:Heap}{clk:Nat}:Zbe (.mkv f) [x] dd h clk=if noRef x=true then some (.fnv f x,h,clk) else none:=rfl
@[simp] def zatt{z zs n ps}:opX (orc T) T (.bsl z zs n ps) d st=pB (Zfd z zs n st.heap (ps.map fun p=>(p.1,ev st.env.get p.2))) d st:=rfl
@[simp] def zarg{u args}:opX (orc T) T (.call u args) d st=Zar (orc T) T u (args.map (ev st.env.get)) d st:=rfl
def cR(r:Option AV)(xs:List AV)(d:Option Nat)(st:St):Option St:=
 r.map fun r=>⟨Zi st.env d r,if scalar r then st.heap else Z8 (xs.flatMap refs) st.heap,st.clk⟩
@[congr] def zaip{r r':Option AV}{xs:List AV}(h:r=r'):cR r xs d st=cR r' xs d st:=by rw[h]
def bL(o:Option (List AV))(f:List AV->Option St):Option St:=o.bind f
@[simp] def zanf{r:AV}{xs:List AV}:cR (some r) xs d st=some ⟨Zi st.env d r,if scalar r then st.heap else Z8 (xs.flatMap refs) st.heap,st.clk⟩:=rfl
@[congr] def zaiq{o o':Option (List AV)}{f:List AV->Option St}(h:o=o'):bL o f=bL o' f:=by rw[h]
def Zlv(h:Heap):List AV->Option (List AV)
 | []=>some []
 | x::l=>(Zbt h x).bind fun y=>(Zlv h l).map fun ys=>y::ys
@[simp] def zang{xs:List AV}{f:List AV->Option St}:bL (some xs) f=f xs:=rfl
theorem zzb(h:Heap):∀l:List AV,l.mapM (Zbt h)=Zlv h l
 | []=>rfl
 | x::l=>by simp only[Ybm,Zlv,zzb h l,Ych,Yc5,Option.map_eq_bind,Function.comp_def]
attribute [simp] Zlv Zj0 Zem Zht
def za9{u:Nat}{xs:List AV}{np nt:Nat}{res:List RV}{b:AX}{ex:Bool}(hT:Tr T u=some ⟨np,nt,res,b,none,ex⟩) :
  Zar (orc T) T u xs d st=bL (Zlv st.heap xs) fun ys=>cR (Za T u (ys.map (wkIf ex))) xs d st:=by
 change T u=_ at hT
 unfold Zar bL cR Za;rw[hT];simp only[zzb];congr 1
 funext ys
 cases (orc T).call u (ys.map (wkIf ex)) []<;>rfl
def zaa{u:Nat}{xs:List AV}{np nt:Nat}{res:List RV}{b:AX}{ex:Bool}(hT:Tr T u=some ⟨np,nt,res,b,none,ex⟩)(hn:xs.length=np)(hp:b.isPrim=none:=by rfl) :
  Za T u xs=Zk7 res ex (evX (orc T) T 0 b ⟨Zd4 xs,[],1⟩):=by
 change T u=_ at hT
 unfold Za Zk7;rw[zm2];simp only[Zed,hT,hp];rw[if_pos ⟨hn,by simp⟩];simp only[Yab,Yad];cases evX (orc T) T 0 b ⟨Zd4 xs,[],1⟩ with
 | none=>rfl
 | some r=>
  obtain⟨e,s⟩:=r;cases e<;>simp only[Y5,Zmq,Yeo]<;>(cases Zdz s res<;>simp only[Option.bind_none,Yeo,Y5]<;>cases frz s.heap _<;>rfl)
def zl0{u:Nat}{xs:List AV}{np nt:Nat}{res:List RV}{f:List AV->Option AV}{ex:Bool}(hT:Tr T u=some ⟨np,nt,res,.prim f,none,ex⟩):Za T u xs=f xs:=by
 change T u=_ at hT
 unfold Za;rw[zm2];simp only[Zed,hT,AX.isPrim];cases f xs<;>simp
def zad{u:Nat}{xs:List AV}{hb:Heap}{np nt:Nat}{res:List RV}{b:AX}{ms:List Bool}{ex:Bool}(hT:Tr T u=some ⟨np,nt,res,b,some ms,ex⟩)(hn:xs.length=np)(hp:b.isPrim=none:=by rfl) :
  Z1 T u xs hb=Zk8 res ex hb.length (evX (orc T) T hb.length b ⟨Zd4 xs,hb,hb.length+1⟩):=by
 change T u=_ at hT
 unfold Z1 Zk8;rw[zm2];simp only[Zed,hT,hp];rw[if_pos ⟨hn,by simp⟩];cases evX (orc T) T hb.length b ⟨Zd4 xs,hb,hb.length+1⟩ with
 | none=>rfl
 | some r=>
  obtain⟨e,s⟩:=r;cases e<;>simp only[Y5,Zmq]<;>(cases Zdz s res<;>rfl)
def Zmr(l:List BId)(hp h1:Heap)(r:Option (AV×Heap))(d:Option Nat)(st:St):Option St:=
 r.bind fun r=>
  let hb':=r.2.map fun p=>(Zbu l (d.getD 0) p.1,Zat true (Zbu l (d.getD 0)) (Zb7 hp st.clk) p.2)
  let r':=rlA (Zbu l (d.getD 0)) (Zb7 hp st.clk) r.1
  if (hb'.map (·.1)).Nodup&&Zdc hb' r'&&Zi0 hb' then
   some ⟨Zi st.env d r',hb'++(h1.filter fun p=>!(l.contains p.1 || (hb'.map (·.1)).contains p.1)),st.clk+r.2.length+2⟩
  else none
@[congr] def zabf{l:List BId}{hp h1:Heap}{r r':Option (AV×Heap)}(h:r=r'):Zmr l hp h1 r d st=Zmr l hp h1 r' d st:=by rw[h]
noncomputable def Zlk(ys:List AV)(h1:Heap)(l:List BId)(T:Tbl)(u:Nat)(ex:Bool)(d:Option Nat)(st:St):Option St:=
 if (Zfi h1 l).map (·.1)=l/\l.Nodup then
  Zmr l (Zfi h1 l) h1 (Z1 T u (ys.map fun y=>rlA (inN l) (inG (Zfi h1 l)) (wkIf ex y)) ((Zfi h1 l).map fun p=>(inN l p.1,Zat ex (inN l) (inG (Zfi h1 l)) p.2))) d st
 else none
@[simp] def zadx{l:List BId}{hp h1:Heap}{r:AV}{h2:Heap}:Zmr l hp h1 (some (r,h2)) d st =
  (if ((h2.map fun p=>(Zbu l (d.getD 0) p.1,Zat true (Zbu l (d.getD 0)) (Zb7 hp st.clk) p.2)).map (·.1)).Nodup&&Zdc (h2.map fun p=>(Zbu l (d.getD 0) p.1,Zat true (Zbu l (d.getD 0)) (Zb7 hp st.clk) p.2)) (rlA (Zbu l (d.getD 0)) (Zb7 hp st.clk) r)&&Zi0 (h2.map fun p=>(Zbu l (d.getD 0) p.1,Zat true (Zbu l (d.getD 0)) (Zb7 hp st.clk) p.2)) then
   some ⟨Zi st.env d (rlA (Zbu l (d.getD 0)) (Zb7 hp st.clk) r),(h2.map fun p=>(Zbu l (d.getD 0) p.1,Zat true (Zbu l (d.getD 0)) (Zb7 hp st.clk) p.2))++(h1.filter fun p=>!(l.contains p.1 || ((h2.map fun p=>(Zbu l (d.getD 0) p.1,Zat true (Zbu l (d.getD 0)) (Zb7 hp st.clk) p.2)).map (·.1)).contains p.1)),st.clk+h2.length+2⟩
  else none):=rfl
attribute [simp] Zlk Zbu Zb7 inN inG Zgb Zi0
def zvm{u:Nat}{xs:List AV}{np nt:Nat}{res:List RV}{b:AX}{ms:List Bool}{ex:Bool}(hT:Tr T u=some ⟨np,nt,res,b,some ms,ex⟩) :
  Zar (orc T) T u xs d st=bL (Zj0 st.heap ms xs) fun ys=>Zlk ys (Z8 (Zem ms xs) st.heap) (Zhj (Z8 (Zem ms xs) st.heap) 40 (Zht ms xs) []) T u ex d st:=by
 change T u=_ at hT
 unfold Zar bL Zlk Zmr Z1;rw[hT]
def bD(o:Option (AV×Bool))(f:AV×Bool->Option St):Option St:=o.bind f
@[congr] def zair{o o':Option (AV×Bool)}{f:AV×Bool->Option St}(h:o=o'):bD o f=bD o' f:=by rw[h]
def bWr(o:Option (AV×Heap×Nat))(f:AV×Heap×Nat->Option St):Option St:=o.bind f
@[simp] def zanh{e:AV×Bool}{f:AV×Bool->Option St}:bD (some e) f=f e:=rfl
@[congr] def zady{o o':Option (AV×Heap×Nat)}{f:AV×Heap×Nat->Option St}(h:o=o'):bWr o f=bWr o' f:=by rw[h]
def iP(b:Bool)(x:Option St):Option St:=if b then x else none
@[simp] def zais{q:AV×Heap×Nat}{f:AV×Heap×Nat->Option St}:bWr (some q) f=f q:=rfl
@[congr] def zait{b b':Bool}{x:Option St}(h:b=b'):iP b x=iP b' x:=by rw[h]
@[simp] def zani{x:Option St}:iP true x=x:=rfl
@[simp] def zabg{h:Heap}:Zas [] h=true:=by
 classical
 unfold Zas;exact decide_eq_true fun p hp=>by cases hp
@[simp] def z7p{q:AOp×Env×AV}{l:Zaw}{h:Heap}:Zas ((0,q)::l) h=Zas l h:=by
 classical
 unfold Zas;refine decide_eq_decide.2 ⟨fun h1 p hp=>h1 p (Yk _ hp),fun h1 p hp h0=>?_⟩;rcases Yw.1 hp with rfl | hp
 ·cases h0
 ·exact h1 p hp h0
@[simp] def z7q{n:Nat}{op:AOp}{e:Env}{x:AV}{l:Zaw}{h:Heap}(hs:Zh9 op e.get h=some x):Zas ((n,op,e,x)::l) h=Zas l h:=by
 classical
 unfold Zas;refine decide_eq_decide.2 ⟨fun h1 p hp=>h1 p (Yk _ hp),fun h1 p hp h0=>?_⟩;rcases Yw.1 hp with rfl | hp
 ·exact hs
 ·exact h1 p hp h0
def zvn{op:AOp}{e:Env}{older:List Heap}{x:AV}(hf:op.free=true):Zhk op e older x=true:=by unfold Zhk;rw[hf];rfl
def zzc{op:AOp}{e:Env}{x:AV}:Zhk op e [] x=true:=by
 classical
 unfold Zhk;rw[Yc4];exact .inr (decide_eq_true fun h' hh=>by cases hh)
noncomputable def rD(T:Tbl)(q:Option (Nat×List AV))(o:DO)(r:List DO)(e:Env)(h:Heap)(clk:Nat)(older:List Heap)(pend:Zaw):Option St:=
 match q with
 | none=>bD (qX (orc T) T o.ao e h (older.take (older.length-o.lo))) fun x=>Zch (orc T) T r (Zi e o.ao.dst x.1) h clk older (Zcg o older.length e x pend)
 | some p=>(Zfj (orc T) T p.1 p.2).bind fun x=>Zch (orc T) T r (Zi e o.ao.dst x) h clk older (if older.length<o.hi then (o.hi-older.length,o.ao.op,e,.tup p.2)::pend else pend)
noncomputable def bAV(o:Option AV)(f:AV->Option St):Option St:=o.bind f
@[simp] def zanj{o:DO}{r:List DO}{e:Env}{h:Heap}{clk:Nat}{older:List Heap}{pend:Zaw}:rD T none o r e h clk older pend=bD (qX (orc T) T o.ao e h (older.take (older.length-o.lo))) fun x=>Zch (orc T) T r (Zi e o.ao.dst x.1) h clk older (Zcg o older.length e x pend):=rfl
@[simp] def zaiu{x:AV}{f:AV->Option St}:bAV (some x) f=f x:=rfl
@[simp] def zank{u:Nat}{ys:List AV}{o:DO}{r:List DO}{e:Env}{h:Heap}{clk:Nat}{older:List Heap}{pend:Zaw}:rD T (some (u,ys)) o r e h clk older pend=bAV (Zfj (orc T) T u ys) fun x=>Zch (orc T) T r (Zi e o.ao.dst x) h clk older (if older.length<o.hi then (o.hi-older.length,o.ao.op,e,.tup ys)::pend else pend):=rfl
open Classical in
noncomputable def rK(u:Nat)(xs ys:List AV)(older:List Heap):Option (Nat×List AV):=if decide (∀h'∈older,Zc5 h' xs=some ys)=true then some (u,ys) else none
@[simp] def zanl{g:Option (Nat×Bool)}{e:Env}{h:Heap}{older:List Heap}:Zg5 g none e h older=none:=by cases g<;>rfl
@[simp] def zanm{g:Nat×Bool}{c:Option (Nat×List Opd)}{e:Env}{h:Heap}{older:List Heap}:Zg5 (some g) c e h older=none:=by cases c<;>rfl
noncomputable def rC(c:Bool)(u:Nat)(xs:List AV)(h:Heap)(older:List Heap):Option (Nat×List AV):=
 match c with
 | true=>none
 | false=>(Zc5 h xs).bind fun ys=>rK u xs ys older
@[congr] def zaiv{c c':Bool}{u:Nat}{xs:List AV}{h:Heap}{older:List Heap}(h1:c=c'):rC c u xs h older=rC c' u xs h older:=by rw[h1]
@[simp] def zann{u:Nat}{xs:List AV}{h:Heap}{older:List Heap}:rC true u xs h older=none/\(rC false u xs h older=(Zc5 h xs).bind fun ys=>rK u xs ys older):=by and_intros<;>rfl
@[simp] def zadz{q:Nat×List Opd}{e:Env}{h:Heap}{older:List Heap}:Zg5 none (some q) e h older=rC ((q.2.map (ev e.get)).all noRef) q.1 (q.2.map (ev e.get)) h older:=by
 classical
 unfold Zg5 Zmm rC;cases hc:(q.2.map (ev e.get)).all noRef with
 | true=>simp only[hc,if_true,Yeo]
 | false=>
  simp only[hc,Yah,if_false];cases Zc5 h (q.2.map (ev e.get)) with
  | none=>rfl
  | some ys=>
   simp only[Y5,rK];split<;>rfl
noncomputable def dX(T:Tbl)(wr:Bool)(o:DO)(r:List DO)(e:Env)(h:Heap)(clk:Nat)(older:List Heap)(pend:Zaw):Option St:=
 match wr with
 | true=>if o.ao.guard.isNone then bWr (stepW o.ao.op o.ao.dst e.get h clk) fun q=>iP (Zas pend q.2.1) (Zch (orc T) T r (Zi e o.ao.dst q.1) q.2.1 q.2.2 (h::older) (pend.map fun p=>(p.1-1,p.2))) else none
 | false=>rD T (Zg5 o.ao.guard o.ao.op.callN e h (older.take (older.length-o.lo))) o r e h clk older pend
@[congr] def z7r{l:List DO}{e e':Env}{h h':Heap}{clk clk':Nat}{older older':List Heap}{pend pend':Zaw}(h1:e=e')(h2:h=h')(h3:clk=clk')(h4:older=older')(h5:pend=pend'):Zch (orc T) T l e h clk older pend=Zch (orc T) T l e' h' clk' older' pend':=by rw[h1,h2,h3,h4,h5]
@[simp] def zad0{e:Env}{h:Heap}{clk:Nat}{older:List Heap}{pend:Zaw}:Zch (orc T) T [] e h clk older pend=some ⟨e,h,clk⟩:=rfl
@[simp] def zabh{o:DO}{r:List DO}{e:Env}{h:Heap}{clk:Nat}{older:List Heap}{pend:Zaw}:Zch (orc T) T (o::r) e h clk older pend=dX T o.ao.op.writes o r e h clk older pend:=by
 unfold dX;rw[Zch];cases o.ao.op.writes with
 | true=>rfl
 | false=>
  unfold rD;simp only;cases Zg5 o.ao.guard o.ao.op.callN e h (older.take (older.length-o.lo))<;>rfl
def dV(o:Option AV):Option (AV×Bool):=o.map fun x=>(x,true)
noncomputable def gD(T:Tbl)(x:AV)(want:Bool)(op:AOp)(e:Env)(h:Heap)(older:List Heap):Option (AV×Bool):=
 match x with
 | .b v=>if v=want then dV (opD (orc T) T op e h older) else some (.tup [],false)
 | .tup []=>some (.tup [],false)
 | _=>none
@[simp] def zano{o:DO}{r:List DO}{e:Env}{h:Heap}{clk:Nat}{older:List Heap}{pend:Zaw}:(dX T true o r e h clk older pend=if o.ao.guard.isNone then bWr (stepW o.ao.op o.ao.dst e.get h clk) fun q=>iP (Zas pend q.2.1) (Zch (orc T) T r (Zi e o.ao.dst q.1) q.2.1 q.2.2 (h::older) (pend.map fun p=>(p.1-1,p.2))) else none)/\dX T false o r e h clk older pend=rD T (Zg5 o.ao.guard o.ao.op.callN e h (older.take (older.length-o.lo))) o r e h clk older pend:=by and_intros<;>rfl
@[simp] def zanp{x:AV}:dV (some x)=some (x,true):=rfl
@[simp] def zanq:dV none=none:=rfl
@[simp] def zanr{op:AOp}{e:Env}{h:Heap}{older:List Heap}:qX (orc T) T ⟨d,none,op⟩ e h older=dV (opD (orc T) T op e h older):=rfl
@[congr] def zaiy{x x':AV}{want:Bool}{op:AOp}{e:Env}{h:Heap}{older:List Heap}(h1:x=x'):gD T x want op e h older=gD T x' want op e h older:=by rw[h1]
noncomputable def dC(o:Option AV)(op:AOp)(older:List Heap)(e:Env):Option AV:=o.bind fun x=>if Zhk op e older x then some x else none
@[simp] def zans{t:Nat}{want:Bool}{op:AOp}{e:Env}{h:Heap}{older:List Heap}:qX (orc T) T ⟨d,some (t,want),op⟩ e h older=gD T (e.get t) want op e h older:=rfl
@[simp] def gD_b{v want:Bool}{op:AOp}{e:Env}{h:Heap}{older:List Heap}:gD T (.b v) want op e h older=if v=want then dV (opD (orc T) T op e h older) else some (.tup [],false):=rfl
@[simp] def zarh{want:Bool}{op:AOp}{e:Env}{h:Heap}{older:List Heap}:gD T (.tup []) want op e h older=some (.tup [],false):=rfl
@[congr] def zaiz{o o':Option AV}{op:AOp}{older:List Heap}{e:Env}(h1:o=o'):dC o op older e=dC o' op older e:=by rw[h1]
@[simp] def zari{x:AV}{op:AOp}{e:Env}:dC (some x) op [] e=some x:=by
 unfold dC;rw[Y5,zzc]
 rfl
def zbs{op:AOp}{h:Heap}{older:List Heap}{e:Env}(hf:op.free=true):((Zm op e.get h).bind fun x=>if Zhk op e older x then some x else none)=Zm op e.get h:=by
 cases Zm op e.get h with
 | none=>rfl
 | some x=>rw[Y5,zvn hf];rfl
@[simp] def zatu{x}{e:Env}{h:Heap}{older:List Heap}:opD (orc T) T (.mov x) e h older=some (ev e.get x):=zbs (op:=.mov x) (h:=h) (older:=older) (e:=e) rfl
@[simp] def zatv{z y}{e:Env}{h:Heap}{older:List Heap}:opD (orc T) T (.app z (.c (.sl [] .nl)) y) e h older=Zh6 z (ev e.get y):=rfl
@[simp] def zai0{z:Nat}{els:List (List AV)}{f:Fl}:Zh6 z (.sl els f)=if (els.head?.all fun r=>r.length=z)/\els.length<=4294967296 then some (.sl els .an) else none:=rfl
@[simp] def z5p{z n y}:(AOp.app z (.t n) y).writes=true:=rfl
@[simp] def zabi{z n y}:(AOp.app z (.t n) y).free=false:=rfl
@[simp] def z7s{z n y}:(AOp.app z (.t n) y).maker=true:=rfl
@[simp] def zabj{z y}:(AOp.app z (.c (.sl [] .nl)) y).writes=false:=rfl
@[simp] def zai1{z y}:(AOp.app z (.c (.sl [] .nl)) y).free=true:=rfl
@[simp] def zad1{z y}:(AOp.app z (.c (.sl [] .nl)) y).maker=false:=rfl
@[simp] def zarj{c a b}{e:Env}{h:Heap}{older:List Heap}:opD (orc T) T (.pick c a b) e h older=Zip (ev e.get c) (ev e.get a) (ev e.get b):=zbs (op:=.pick c a b) (h:=h) (older:=older) (e:=e) rfl
@[simp] def zant{zs ps}{e:Env}{h:Heap}{older:List Heap}:opD (orc T) T (.build zs ps) e h older=(Zh4 zs (ps.map fun p=>(p.1,p.2.1,ev e.get p.2.2))).map .agg:=zbs (op:=.build zs ps) (h:=h) (older:=older) (e:=e) rfl
@[simp] def zatw{o x y}{e:Env}{h:Heap}{older:List Heap}:opD (orc T) T (.bin o x y) e h older=Zay o (ev e.get x) (ev e.get y):=zbs (op:=.bin o x y) (h:=h) (older:=older) (e:=e) rfl
@[simp] def zatx{g ls x y}{e:Env}{h:Heap}{older:List Heap}:opD (orc T) T (.eqs g ls x y) e h older=Zjn g ls (ev e.get x) (ev e.get y):=zbs (op:=.eqs g ls x y) (h:=h) (older:=older) (e:=e) rfl
@[simp] def zanu{g x}{e:Env}{h:Heap}{older:List Heap}:opD (orc T) T (.eqnil g x) e h older=Za0 g (ev e.get x):=zbs (op:=.eqnil g x) (h:=h) (older:=older) (e:=e) rfl
@[simp] def zaty{g x y}{e:Env}{h:Heap}{older:List Heap}:opD (orc T) T (.eqb g x y) e h older=Zjo g (ev e.get x) (ev e.get y):=zbs (op:=.eqb g x y) (h:=h) (older:=older) (e:=e) rfl
@[simp] def D_un{o x}{e:Env}{h:Heap}{older:List Heap}:opD (orc T) T (.un o x) e h older=Ziq o (ev e.get x):=zbs (op:=.un o x) (h:=h) (older:=older) (e:=e) rfl
@[simp] def zark{k x}{e:Env}{h:Heap}{older:List Heap}:opD (orc T) T (.conv k x) e h older=Zcc k (ev e.get x):=zbs (op:=.conv k x) (h:=h) (older:=older) (e:=e) rfl
@[simp] def zanv{x lo hi}{e:Env}{h:Heap}{older:List Heap}:opD (orc T) T (.slstr x lo hi) e h older=Zgn (ev e.get x) (evO e.get lo) (evO e.get hi):=zbs (op:=.slstr x lo hi) (h:=h) (older:=older) (e:=e) rfl
@[simp] def zatz{o n x}{e:Env}{h:Heap}{older:List Heap}:opD (orc T) T (.fld o n x) e h older=Zjp o n (ev e.get x):=zbs (op:=.fld o n x) (h:=h) (older:=older) (e:=e) rfl
@[simp] def zat0{x i}{e:Env}{h:Heap}{older:List Heap}:opD (orc T) T (.ixs x i) e h older=Zjq (ev e.get x) (ev e.get i):=zbs (op:=.ixs x i) (h:=h) (older:=older) (e:=e) rfl
@[simp] def zat1{z l n x i}{e:Env}{h:Heap}{older:List Heap}:opD (orc T) T (.ixa z l n x i) e h older=Zjr z l n (ev e.get x) (ev e.get i):=zbs (op:=.ixa z l n x i) (h:=h) (older:=older) (e:=e) rfl
@[simp] def zarl{x}{e:Env}{h:Heap}{older:List Heap}:opD (orc T) T (.lens x) e h older=Zhq (ev e.get x):=zbs (op:=.lens x) (h:=h) (older:=older) (e:=e) rfl
@[simp] def zarm{n}{e:Env}{h:Heap}{older:List Heap}:opD (orc T) T (.lenc n) e h older=some (.i .i64 n):=zbs (op:=.lenc n) (h:=h) (older:=older) (e:=e) rfl
@[simp] def D_mm{m xs}{e:Env}{h:Heap}{older:List Heap}:opD (orc T) T (.mm m xs) e h older=Zma m (xs.map (ev e.get)):=zbs (op:=.mm m xs) (h:=h) (older:=older) (e:=e) rfl
@[simp] def zat2{x n}{e:Env}{h:Heap}{older:List Heap}:opD (orc T) T (.ext x n) e h older=Zjs n (ev e.get x):=zbs (op:=.ext x n) (h:=h) (older:=older) (e:=e) rfl
@[simp] def zarn{n x}{e:Env}{h:Heap}{older:List Heap}:opD (orc T) T (.load n x) e h older=dC (Zg2 n h (ev e.get x)) (.load n x) older e:=rfl
@[simp] def zat3{z x lo hi mx}{e:Env}{h:Heap}{older:List Heap}:opD (orc T) T (.slc z x lo hi mx) e h older=dC (Zh5 z h (ev e.get x) (evO e.get lo) (evO e.get hi) (evO e.get mx)) (.slc z x lo hi mx) older e:=rfl
@[simp] def zat4{o x}{e:Env}{h:Heap}{older:List Heap}:opD (orc T) T (.fad o x) e h older=dC (Zir o h (ev e.get x)) (.fad o x) older e:=rfl
@[simp] def zat5{z x i}{e:Env}{h:Heap}{older:List Heap}:opD (orc T) T (.iad z x i) e h older=dC (Zis z h (ev e.get x) (ev e.get i)) (.iad z x i) older e:=rfl
@[simp] def zat6{z n x i}{e:Env}{h:Heap}{older:List Heap}:opD (orc T) T (.iaa z n x i) e h older=dC (Zit z n h (ev e.get x) (ev e.get i)) (.iaa z n x i) older e:=rfl
@[simp] def zat7{x}{e:Env}{h:Heap}{older:List Heap}:opD (orc T) T (.len x) e h older=dC (Ziu h (ev e.get x)) (.len x) older e:=rfl
@[simp] def zaro{k zv ok x i}{e:Env}{h:Heap}{older:List Heap}:opD (orc T) T (.look k zv ok x i) e h older=dC (Zfp k zv ok h (ev e.get x) (ev e.get i)) (.look k zv ok x i) older e:=rfl
@[simp] def zarp{x}{e:Env}{h:Heap}{older:List Heap}:opD (orc T) T (.nilc x) e h older=dC (Zg3 h (ev e.get x)) (.nilc x) older e:=rfl
def dR(r:Option AV)(xs:List AV):Option AV:=if xs.all noRef then r else none
@[congr] def zai2{r r':Option AV}{xs:List AV}(h1:r=r'):dR r xs=dR r' xs:=by rw[h1]
@[simp] def zanw{r:AV}{xs:List AV}:dR (some r) xs=if xs.all noRef then some r else none:=rfl
def z24{u:Nat}{args:List Opd}{np nt:Nat}{res:List RV}{b:AX}{ex:Bool}{e:Env}{h:Heap}{older:List Heap}(hT:Tr T u=some ⟨np,nt,res,b,none,ex⟩) :
  opD (orc T) T (.call u args) e h older=dR (Za T u ((args.map (ev e.get)).map (wkIf ex))) (args.map (ev e.get)):=by
 change T u=_ at hT
 unfold dR Za;simp only[opD,hT,Option.isNone_none,Yct]
@[simp] def zat8{z zs n ps}{e:Env}{h:Heap}{older:List Heap}:opD (orc T) T (.bsl z zs n ps) e h older=if (ps.map fun p=>(p.1,ev e.get p.2)).all (fun p=>noRef p.2) then (Zfd z zs n [] (ps.map fun p=>(p.1,ev e.get p.2))).map (·.1) else none:=rfl
@[congr] def z7t{tl l:List AO}{e e':Env}{h h':Heap}{clk clk':Nat}(h1:e=e')(h2:h=h')(h3:clk=clk'):Zfk (orc T) T tl l e h clk=Zfk (orc T) T tl l e' h' clk':=by rw[h1,h2,h3]
noncomputable def rH(T:Tbl)(q:Option (Nat×List AV))(tl:List AO)(o:AO)(r:List AO)(e:Env)(h:Heap)(clk:Nat):Option St:=
 match q with
 | none=>bD (qX (orc T) T o e h []) fun x=>Zdp (orc T) T tl r (Zi e o.dst x.1) h clk
 | some p=>(Zfj (orc T) T p.1 p.2).bind fun x=>Zdp (orc T) T tl r (Zi e o.dst x) h clk
@[simp] def zad2{tl:List AO}{e:Env}{h:Heap}{clk:Nat}:Zfk (orc T) T tl [] e h clk=Zey (orc T) T tl ⟨e,h,clk⟩/\Zdp (orc T) T tl [] e h clk=Zey (orc T) T tl ⟨e,h,clk⟩:=by and_intros<;>rfl
@[simp] def zabk{tl r:List AO}{o:AO}{e:Env}{h:Heap}{clk:Nat}:Zfk (orc T) T tl (o::r) e h clk=bD (qX (orc T) T o e h []) fun x=>Zfk (orc T) T tl r (Zi e o.dst x.1) h clk:=rfl
@[simp] def zanx{tl:List AO}{o:AO}{r:List AO}{e:Env}{h:Heap}{clk:Nat}:rH T none tl o r e h clk=bD (qX (orc T) T o e h []) fun x=>Zdp (orc T) T tl r (Zi e o.dst x.1) h clk:=rfl
@[simp] def zany{p:Nat×List AV}{tl:List AO}{o:AO}{r:List AO}{e:Env}{h:Heap}{clk:Nat}:rH T (some p) tl o r e h clk=(Zfj (orc T) T p.1 p.2).bind fun x=>Zdp (orc T) T tl r (Zi e o.dst x) h clk:=rfl
@[simp] def zabl{tl r:List AO}{o:AO}{e:Env}{h:Heap}{clk:Nat}:Zdp (orc T) T tl (o::r) e h clk=rH T (Zg5 o.guard o.op.callN e h []) tl o r e h clk:=by
 unfold rH;rw[Zdp];cases Zg5 o.guard o.op.callN e h []<;>rfl
@[simp] def zanz{hd tl:List AO}:evX (orc T) T k (.drawR hd tl) st=stX (Zdp (orc T) T tl hd st.env st.heap st.clk):=rfl
@[congr] def z7u{tl l:List AO}{h0:Heap}{c0:Nat}{X:Heap}{e e':Env}{h h':Heap}{clk clk':Nat}(h1:e=e')(h2:h=h')(h3:clk=clk'):Zbr (orc T) T tl h0 c0 X l e h clk=Zbr (orc T) T tl h0 c0 X l e' h' clk':=by rw[h1,h2,h3]
noncomputable def kM(T:Tbl)(tl:List AO)(h0:Heap)(c0:Nat)(X:Heap)(op:AOp)(d:Nat)(r:List AO)(e:Env)(h:Heap)(q:Option (AV×Heap×Nat)):Option St:=
 q.bind fun q=>if ((h.lookup (.loc d)).isNone&&Zj8 c0 op e q.2.1)=true then Zbr (orc T) T tl h0 c0 X r (Zi e (some d) q.1) (q.2.1++h) q.2.2 else none
noncomputable def kN(T:Tbl)(tl:List AO)(h0:Heap)(c0:Nat)(X:Heap)(op:AOp)(d:Nat)(r:List AO)(e:Env)(h:Heap)(q:Option (AV×Heap×Nat)):Option St:=
 q.bind fun q=>if Zj8 c0 op e (q.2.1.take 1)=true then Zbr (orc T) T tl h0 c0 X r (Zi e (some d) q.1) (q.2.1.take 1++h) q.2.2 else none
noncomputable def uX(T:Tbl)(w:Option (BId×Box))(tl:List AO)(h0:Heap)(c0:Nat)(X:Heap)(op:AOp)(d:Nat)(r:List AO)(e:Env)(h:Heap)(clk:Nat):Option St:=
 match w with
 | none=>kM T tl h0 c0 X op d r e h (stepW op (some d) e.get [] clk)
 | some p=>kN T tl h0 c0 X op d r e h (stepW op (some d) e.get [p] clk)
@[simp] def zad4{tl:List AO}{h0:Heap}{c0:Nat}{X:Heap}{e:Env}{h:Heap}{clk:Nat}:Zbr (orc T) T tl h0 c0 X [] e h clk=Zey (orc T) T tl ⟨e,h,clk⟩:=rfl
@[simp] def zan0{tl:List AO}{h0:Heap}{c0:Nat}{X:Heap}{op:AOp}{d:Nat}{r:List AO}{e:Env}{h:Heap}{q:AV×Heap×Nat}:(kM T tl h0 c0 X op d r e h (some q)=if ((h.lookup (.loc d)).isNone&&Zj8 c0 op e q.2.1)=true then Zbr (orc T) T tl h0 c0 X r (Zi e (some d) q.1) (q.2.1++h) q.2.2 else none)/\(kN T tl h0 c0 X op d r e h (some q)=if Zj8 c0 op e (q.2.1.take 1)=true then Zbr (orc T) T tl h0 c0 X r (Zi e (some d) q.1) (q.2.1.take 1++h) q.2.2 else none):=by and_intros<;>rfl
@[congr] def zai3{w w':Option (BId×Box)}{tl:List AO}{h0:Heap}{c0:Nat}{X:Heap}{op:AOp}{d:Nat}{r:List AO}{e:Env}{h:Heap}{clk:Nat}(h1:w=w'):uX T w tl h0 c0 X op d r e h clk=uX T w' tl h0 c0 X op d r e h clk:=by rw[h1]
@[simp] def zan2{tl:List AO}{h0:Heap}{c0:Nat}{X:Heap}{op:AOp}{d:Nat}{r:List AO}{e:Env}{h:Heap}{clk:Nat}:uX T none tl h0 c0 X op d r e h clk=kM T tl h0 c0 X op d r e h (stepW op (some d) e.get [] clk):=rfl
@[simp] def zan3{tl:List AO}{h0:Heap}{c0:Nat}{X:Heap}{op:AOp}{d:Nat}{r:List AO}{e:Env}{h:Heap}{clk:Nat}{p:BId×Box}:uX T (some p) tl h0 c0 X op d r e h clk=kN T tl h0 c0 X op d r e h (stepW op (some d) e.get [p] clk):=rfl
@[simp] def zabm{c0:Nat}{h0 X h:Heap}{zs:List AV}{e:Env}:Zjh c0 h0 X h (.alloc zs) e=none:=rfl
@[simp] def zai4{c0:Nat}{h0 X h:Heap}{z:Nat}{zs:List AV}{l c:Opd}{e:Env}:Zjh c0 h0 X h (.mks z zs l c) e=none:=rfl
@[simp] def zad5{c0:Nat}{h0 X h:Heap}{k:KTy}{zv:AV}{ok:Bool}{x i:Opd}{e:Env}:Zjh c0 h0 X h (.look k zv ok x i) e=none:=rfl
@[simp] def zai5{c0:Nat}{h0 X h:Heap}{k:XOp}{xs:List Opd}{e:Env}:Zjh c0 h0 X h (.xop k xs) e=none:=rfl
@[simp] def zai6{c0:Nat}{h0 X h:Heap}{z:Nat}{x y:Opd}{e:Env}:Zjh c0 h0 X h (.app z x y) e=Zlu c0 h0 X h (ev e.get x):=rfl
@[simp] def zan4{c0:Nat}{h0 X h:Heap}{l:List (List AV)}{f:Fl}:Zlu c0 h0 X h (.sl l f)=none:=rfl
@[simp] def zan5{c0:Nat}{h0 X h:Heap}{b:BId}{g z o n:Nat}:Zlu c0 h0 X h (.bs b g z o n)=Zmn c0 (h0.lookup b) (X.lookup b) b (h.lookup b):=rfl
@[simp] def zad6{c0:Nat}{b:BId}{x o:Box}:Zmn c0 none (some x) b (some o)=if o.gen<c0 then some (b,o) else none:=rfl
attribute [simp] Zoa
noncomputable def kB(T:Tbl)(tl:List AO)(h0:Heap)(c0:Nat)(X:Heap)(d:Nat)(r:List AO)(e:Env)(h:Heap)(q:Option (AV×Heap×Nat)):Option St:=
 q.bind fun q=>if q.2.1.all (fun p=>(h.lookup p.1).isNone)=true then Zbr (orc T) T tl h0 c0 X r (Zi e (some d) q.1) (q.2.1++h) q.2.2 else none
@[simp] def zad7{e:Env}:Zgc [] e=[]:=rfl
@[simp] def zabn{o:AO}{r:List AO}{e:Env}:Zgc (o::r) e=match o.op with | .mov x=>Zgc r (Zi e o.dst (ev e.get x)) | .app _ x _=>Zoa (ev e.get x)++Zgc r (Zi e o.dst .dead) | _=>Zgc r (Zi e o.dst .dead):=rfl
@[simp] def z7v{h:Heap}:Zgp [] h=h:=rfl
@[simp] def z5q{b:BId}{ids:List BId}{h:Heap}:Zgp (b::ids) h=h.filter fun p=>!(b::ids).contains p.1:=rfl
@[congr] def zai7{tl:List AO}{h0:Heap}{c0:Nat}{X:Heap}{d:Nat}{r:List AO}{e:Env}{h:Heap}{q q':Option (AV×Heap×Nat)}(h1:q=q'):kB T tl h0 c0 X d r e h q=kB T tl h0 c0 X d r e h q':=by rw[h1]
noncomputable def lX(T:Tbl)(b:Option (Nat×List Opd))(tl:List AO)(h0:Heap)(c0:Nat)(X:Heap)(o:AO)(r:List AO)(e:Env)(h:Heap)(clk:Nat):Option St:=
 match b with
 | some ua=>
  match o.guard,o.dst with
  | none,some d=>kB T tl h0 c0 X d r e h (Zfl (orc T) T ua.1 (ua.2.map (ev e.get)) d clk)
  | _,_=>none
 | none=>bD (qX (orc T) T o e h0 []) fun x=>if Zju c0 o.op e (gnA x.1)=true then Zbr (orc T) T tl h0 c0 X r (Zi e o.dst x.1) h clk else none
noncomputable def tX(T:Tbl)(tl:List AO)(h0:Heap)(c0:Nat)(X:Heap)(r:List AO)(b:Bool)(e:Env)(q:Option Heap)(clk:Nat):Option St:=
 q.bind fun h=>if b=true then Zbr (orc T) T tl h0 c0 X r e h clk else none
noncomputable def sX(T:Tbl)(b:Bool)(tl:List AO)(h0:Heap)(c0:Nat)(X:Heap)(o:AO)(r:List AO)(e:Env)(h:Heap)(clk:Nat):Option St:=
 match b with
 | true=>
  match o.guard,o.dst with
  | none,none=>(stepW o.op none e.get h clk).bind fun q=>if Zhu X o.op e=true then Zbr (orc T) T tl h0 c0 X r e q.2.1 q.2.2 else none
  | _,_=>none
 | false=>lX T o.op.lentN tl h0 c0 X o r e h clk
@[simp] def zan6{tl:List AO}{h0:Heap}{c0:Nat}{X:Heap}{d:Nat}{r:List AO}{e:Env}{h:Heap}{q:AV×Heap×Nat}:kB T tl h0 c0 X d r e h (some q)=if q.2.1.all (fun p=>(h.lookup p.1).isNone)=true then Zbr (orc T) T tl h0 c0 X r (Zi e (some d) q.1) (q.2.1++h) q.2.2 else none:=rfl
@[simp] def zan7{tl r:List AO}{h0:Heap}{c0:Nat}{X:Heap}{op:AOp}{dd u:Nat}{args:List Opd}{e:Env}{h:Heap}{clk:Nat}:lX T (some (u,args)) tl h0 c0 X ⟨some dd,none,op⟩ r e h clk=kB T tl h0 c0 X dd r e h (Zfl (orc T) T u (args.map (ev e.get)) dd clk):=rfl
@[simp] def zan8{tl r:List AO}{h0:Heap}{c0:Nat}{X:Heap}{o:AO}{e:Env}{h:Heap}{clk:Nat}:lX T none tl h0 c0 X o r e h clk=bD (qX (orc T) T o e h0 []) fun x=>if Zju c0 o.op e (gnA x.1)=true then Zbr (orc T) T tl h0 c0 X r (Zi e o.dst x.1) h clk else none:=rfl
@[simp] def zan9{tl:List AO}{h0:Heap}{c0:Nat}{X:Heap}{r:List AO}{e:Env}{h:Heap}{clk:Nat}:tX T tl h0 c0 X r true e (some h) clk=Zbr (orc T) T tl h0 c0 X r e h clk:=rfl
@[simp] def zaoa{tl r:List AO}{h0:Heap}{c0:Nat}{X:Heap}{n:Nat}{x v:Opd}{e:Env}{h:Heap}{clk:Nat}:sX T true tl h0 c0 X ⟨none,none,.store n x v⟩ r e h clk=tX T tl h0 c0 X r (Zhu X (.store n x v) e) e (Zce n h (ev e.get x) (ev e.get v)) clk:=by
 unfold sX tX;simp only[stepW];cases Zce n h (ev e.get x) (ev e.get v)<;>rfl
noncomputable def Zhv(r:Option (AV×Heap))(d clk:Nat):Option (AV×Heap×Nat):=
 r.bind fun r=>
  let hb':=r.2.map fun p=>(Zbu [] d p.1,Zat true (Zbu [] d) (Zb7 [] clk) p.2)
  let r':=rlA (Zbu [] d) (Zb7 [] clk) r.1
  if (hb'.map (·.1)).Nodup/\geB clk (gnA r')=true/\geH clk hb'=true then some (r',hb',clk+(r.2.length+2)) else none
@[simp] def zai8{tl r:List AO}{h0:Heap}{c0:Nat}{X:Heap}{o:AO}{e:Env}{h:Heap}{clk:Nat}:sX T false tl h0 c0 X o r e h clk=lX T o.op.lentN tl h0 c0 X o r e h clk:=rfl
def zzd{u:Nat}{xs:List AV}{dd clk:Nat}{np nt:Nat}{res:List RV}{b:AX}{ms:List Bool}{ex:Bool}(hT:Tr T u=some ⟨np,nt,res,b,some ms,ex⟩)(hn:xs.all noRef=true) :
  Zfl (orc T) T u xs dd clk=Zhv (Z1 T u (xs.map fun y=>rlA (inN []) (inG []) (wkIf ex y)) []) dd clk:=by
 change T u=_ at hT
 unfold Zfl Zhv Z1;rw[hT];simp only[hn,if_true]
@[congr] def z5r{r r':Option (AV×Heap)}{dd clk:Nat}(h:r=r'):Zhv r dd clk=Zhv r' dd clk:=by rw[h]
noncomputable def mX(T:Tbl)(b:Bool)(tl:List AO)(h0:Heap)(c0:Nat)(X:Heap)(o:AO)(r:List AO)(e:Env)(h:Heap)(clk:Nat):Option St:=
 match b with
 | true=>
  match o.guard,o.dst with
  | none,some d=>uX T (Zjh c0 h0 X h o.op e) tl h0 c0 X o.op d r e h clk
  | _,_=>none
 | false=>sX T o.op.isStore tl h0 c0 X o r e h clk
@[simp] def z7w{r:AV×Heap}{dd clk:Nat}:Zhv (some r) dd clk=if ((r.2.map fun p=>(Zbu [] dd p.1,Zat true (Zbu [] dd) (Zb7 [] clk) p.2)).map (·.1)).Nodup/\geB clk (gnA (rlA (Zbu [] dd) (Zb7 [] clk) r.1))=true/\geH clk (r.2.map fun p=>(Zbu [] dd p.1,Zat true (Zbu [] dd) (Zb7 [] clk) p.2))=true then some (rlA (Zbu [] dd) (Zb7 [] clk) r.1,r.2.map fun p=>(Zbu [] dd p.1,Zat true (Zbu [] dd) (Zb7 [] clk) p.2),clk+(r.2.length+2)) else none:=rfl
@[simp] def zabo{tl r:List AO}{h0:Heap}{c0:Nat}{X:Heap}{o:AO}{e:Env}{h:Heap}{clk:Nat}:Zbr (orc T) T tl h0 c0 X (o::r) e h clk=mX T (AOp.maker o.op) tl h0 c0 X o r e h clk:=by
 unfold mX;simp only[Zbr];cases AOp.maker o.op with
 | false=>
  unfold sX;simp only;cases AOp.isStore o.op with
  | true=>
   obtain⟨dd,g,op⟩:=o;cases g<;>cases dd<;>rfl
  | false=>
   unfold lX;simp only;cases AOp.lentN o.op with
   | none=>rfl
   | some ua=>
    obtain⟨dd,g,op⟩:=o;cases g<;>cases dd<;>rfl
 | true=>
  obtain⟨dd,g,op⟩:=o;cases g<;>cases dd<;>rfl
noncomputable def pX(T:Tbl)(w:Bool)(K:Env->Zaw->Option St)(h:Heap)(o:DO)(r:List DO)(e:Env)(pend:Zaw):Option St:=
 match w with
 | true=>none
 | false=>bD (qX (orc T) T o.ao e h []) fun x=>Zeo (orc T) T K h r (Zi e o.ao.dst x.1) (Zcg o 0 e x pend)
@[simp] def zaob{tl r:List AO}{h0:Heap}{c0:Nat}{X:Heap}{op:AOp}{dd:Nat}{e:Env}{h:Heap}{clk:Nat}:mX T true tl h0 c0 X ⟨some dd,none,op⟩ r e h clk=uX T (Zjh c0 h0 X h op e) tl h0 c0 X op dd r e h clk:=rfl
@[simp] def zai9{tl r:List AO}{h0:Heap}{c0:Nat}{X:Heap}{o:AO}{e:Env}{h:Heap}{clk:Nat}:mX T false tl h0 c0 X o r e h clk=sX T o.op.isStore tl h0 c0 X o r e h clk:=rfl
@[simp] def zaoc{hd tl:List AO}:evX (orc T) T k (.drawM hd tl) st=stX (Zbr (orc T) T tl (Zgp (Zgc hd st.env) st.heap) st.clk st.heap hd st.env st.heap st.clk):=rfl
@[simp] def zaja{K:Env->Zaw->Option St}{h:Heap}{o:DO}{r:List DO}{e:Env}{pend:Zaw}:pX T false K h o r e pend=bD (qX (orc T) T o.ao e h []) fun x=>Zeo (orc T) T K h r (Zi e o.ao.dst x.1) (Zcg o 0 e x pend):=rfl
@[simp] def zajb{K:Env->Zaw->Option St}{h:Heap}{e:Env}{pend:Zaw}:Zeo (orc T) T K h [] e pend=K e pend:=rfl
@[simp] def zad8{K:Env->Zaw->Option St}{h:Heap}{o:DO}{r:List DO}{e:Env}{pend:Zaw}:Zeo (orc T) T K h (o::r) e pend=pX T o.ao.op.writes K h o r e pend:=by
 unfold pX;rw[Zeo];cases o.ao.op.writes<;>rfl
noncomputable def qpX(T:Tbl)(w:Bool)(K:Env->Option St)(h0 h1:Heap)(o:AO)(r:List AO)(e:Env):Option St:=
 match w with
 | true=>none
 | false=>bD (qX (orc T) T o e h1 [h0]) fun x=>Zep (orc T) T K h0 h1 r (Zi e o.dst x.1)
@[simp] def zad9{K:Env->Option St}{h0 h1:Heap}{o:AO}{r:List AO}{e:Env}:qpX T false K h0 h1 o r e=bD (qX (orc T) T o e h1 [h0]) fun x=>Zep (orc T) T K h0 h1 r (Zi e o.dst x.1):=rfl
@[simp] def zaea{K:Env->Option St}{h0 h1:Heap}{e:Env}:Zep (orc T) T K h0 h1 [] e=K e:=rfl
@[simp] def zabp{K:Env->Option St}{h0 h1:Heap}{o:AO}{r:List AO}{e:Env}:Zep (orc T) T K h0 h1 (o::r) e=qpX T o.op.writes K h0 h1 o r e:=by
 unfold qpX;rw[Zep];cases o.op.writes<;>rfl
@[simp] def zaod{l1 l2 tl:List AO}{dd u:Nat}{args:List Opd}:evX (orc T) T k (.drawC l1 ⟨some dd,none,.call u args⟩ l2 tl) st =
  stX (Zeo (orc T) T (fun e pend=>bS (Zar (orc T) T u (args.map (ev e.get)) (some dd) ⟨e,st.heap,st.clk⟩) fun s=>iP (Zas pend s.heap) (Zep (orc T) T (fun e2=>Zey (orc T) T tl ⟨e2,s.heap,s.clk⟩) st.heap s.heap l2 s.env)) st.heap (l1.map fun o=>⟨o,0,1⟩) st.env []):=rfl
@[simp] def zaoe{l1 l2:List DO}{dd u:Nat}{args:List Opd}:evX (orc T) T k (.drawN l1 ⟨some dd,none,.call u args⟩ l2) st =
  stX (Zeo (orc T) T (fun e pend=>bS (Zar (orc T) T u (args.map (ev e.get)) (some dd) ⟨e,st.heap,st.clk⟩) fun s=>iP (Zas pend s.heap) (Zch (orc T) T (l2.map (Zf1 0)) s.env s.heap s.clk [st.heap] (pend.map fun p=>(p.1-1,p.2)))) st.heap (l1.map (Zf1 0)) st.env []):=rfl
attribute [simp] Zf1
noncomputable def qlX(T:Tbl)(w:Bool)(K:Env->Option St)(hs:List Heap)(h1:Heap)(o:AO)(r:List AO)(e:Env):Option St:=
 match w with
 | true=>none
 | false=>bD (qX (orc T) T o e h1 hs) fun x=>Zeq (orc T) T K hs h1 r (Zi e o.dst x.1)
@[simp] def zaeb{K:Env->Option St}{hs:List Heap}{h1:Heap}{o:AO}{r:List AO}{e:Env}:qlX T false K hs h1 o r e=bD (qX (orc T) T o e h1 hs) fun x=>Zeq (orc T) T K hs h1 r (Zi e o.dst x.1):=rfl
@[simp] def zaec{K:Env->Option St}{hs:List Heap}{h1:Heap}{e:Env}:Zeq (orc T) T K hs h1 [] e=K e:=rfl
@[simp] def zabq{K:Env->Option St}{hs:List Heap}{h1:Heap}{o:AO}{r:List AO}{e:Env}:Zeq (orc T) T K hs h1 (o::r) e=qlX T o.op.writes K hs h1 o r e:=by
 unfold qlX;rw[Zeq];cases o.op.writes<;>rfl
attribute [simp] Zkp
@[simp] def zaof{l1 l2:List DO}{dd u da n:Nat}{args:List Opd}{cs:List AV}{xs vs:Opd}:evX (orc T) T k (.drawP l1 ⟨some dd,none,.call u args⟩ l2 da cs n xs vs) st =
  stX (iP (Zkp l1&&Zkp l2) (Zeo (orc T) T (fun e pend=>bS (Zar (orc T) T u (args.map (ev e.get)) (some dd) ⟨e,st.heap,st.clk⟩) fun s1=>
   bS (Zar (orc T) T u (args.map (ev e.get)) (some dd) ⟨e,(.loc da,⟨s1.clk,.str,cs.length,[cs]⟩)::st.heap,s1.clk+1⟩) fun s2=>
    iP (Zas pend s1.heap&&Zas pend ((.loc da,⟨s1.clk,.str,cs.length,[cs]⟩)::st.heap)&&Zas pend s2.heap&&(Zmo st.clk s1 s2&&Znk ((.loc da,⟨s1.clk,.str,cs.length,[cs]⟩)::s1.heap) s2.heap))
     (Zeq (orc T) T (fun e2=>(Zce n s2.heap (ev (Zi e2 (some da) (.ptr (.loc da) s1.clk cs.length 0 0)).get xs) (ev (Zi e2 (some da) (.ptr (.loc da) s1.clk cs.length 0 0)).get vs)).map fun h2=>⟨Zi e2 (some da) (.ptr (.loc da) s1.clk cs.length 0 0),h2,s2.clk⟩)
      [st.heap,s1.heap,(.loc da,⟨s1.clk,.str,cs.length,[cs]⟩)::st.heap] s2.heap (l2.map (·.ao)) s1.env)) st.heap (l1.map fun o=>⟨o.ao,0,1⟩) st.env [])):=by
 show (Zg0 _ _ _ _ _ _ _ _ _ _ _).map _=_;unfold Zg0;simp only[AOp.writes,Bool.not_false,Yex];cases Zkp l1&&Zkp l2<;>rfl
@[simp] def zat9{n x}:opX (orc T) T (.ifc n x) d st=some ⟨Zi st.env d (.ifc (Zf T n) (ev st.env.get x)),st.heap,st.clk⟩:=rfl
noncomputable def iS(T:Tbl)(x:AV)(nm:String)(n u:Nat)(args:List AV)(d:Option Nat)(st:St):Option St:=
 match x with
 | .ifc t y=>if t=Zf T n/\(nm,u)∈Zad T n then Zar (orc T) T u (y::args) d st else none
 | .fnv f x=>if nm="()"/\f=Zf T n/\Zft T n=some u then Zar (orc T) T u (x::args) d st else none
 | .fnp f id g z i o=>if nm="()"/\f=Zf T n/\Zft T n=some u then Zar (orc T) T u (args++[.ptr id g z i o]) d st else none
 | _=>none
@[congr] def zajc{x x':AV}{nm:String}{n u:Nat}{args args':List AV}{d:Option Nat}{st:St}(h1:x=x')(h2:args=args'):iS T x nm n u args d st=iS T x' nm n u args' d st:=by rw[h1,h2]
@[simp] def zaua{nm n u r args}:opX (orc T) T (.inv nm n u r args) d st=iS T (ev st.env.get r) nm n u (args.map (ev st.env.get)) d st:=by
 simp only[opX];cases ev st.env.get r<;>rfl
@[simp] def zarq{y:AV}{nm:String}{n u:Nat}{args:List AV}{st:St}:iS T (.ifc (Zf T n) y) nm n u args d st=if (nm,u)∈Zad T n then Zar (orc T) T u (y::args) d st else none:=by
 unfold iS;simp only[true_and]
@[simp] def zarr{x:AV}{n u:Nat}{args:List AV}{st:St}:iS T (.fnv (Zf T n) x) "()" n u args d st=if Zft T n=some u then Zar (orc T) T u (x::args) d st else none:=by
 unfold iS;simp only[true_and]
@[simp] def zars{id:BId}{g z i o n u:Nat}{args:List AV}{st:St}:iS T (.fnp (Zf T n) id g z i o) "()" n u args d st=if Zft T n=some u then Zar (orc T) T u (args++[.ptr id g z i o]) d st else none:=by
 unfold iS;simp only[true_and]
@[simp] def zaub{n x}{e:Env}{h:Heap}{older:List Heap}:opD (orc T) T (.ifc n x) e h older=some (.ifc (Zf T n) (ev e.get x)):=rfl
noncomputable def dI(T:Tbl)(u:Nat)(xs:List AV):Option AV:=
 match T u with
 | none=>none
 | some af=>if (af.lent.isNone&&xs.all noRef)=true then ((orc T).call u (xs.map (wkIf af.exact)) []).map (·.1) else none
noncomputable def iD(T:Tbl)(x:AV)(nm:String)(n u:Nat)(args:List AV):Option AV:=
 match x with
 | .ifc t y=>if t=Zf T n/\(nm,u)∈Zad T n then dI T u (drp1 y::args) else none
 | _=>none
@[congr] def zajd{x x':AV}{nm:String}{n u:Nat}{args args':List AV}(h1:x=x')(h2:args=args'):iD T x nm n u args=iD T x' nm n u args':=by rw[h1,h2]
@[simp] def zauc{nm n u r args}{e:Env}{h:Heap}{older:List Heap}:opD (orc T) T (.inv nm n u r args) e h older=iD T (ev e.get r) nm n u (args.map (ev e.get)):=by
 simp only[opD];cases ev e.get r<;>rfl
@[simp] def zart{y:AV}{nm:String}{n u:Nat}{args:List AV}:iD T (.ifc (Zf T n) y) nm n u args=if (nm,u)∈Zad T n then dI T u (drp1 y::args) else none:=by
 unfold iD;simp only[true_and]
def z25{u:Nat}{xs:List AV}{np nt:Nat}{res:List RV}{b:AX}{ex:Bool}(hT:Tr T u=some ⟨np,nt,res,b,none,ex⟩):dI T u xs=dR (Za T u (xs.map (wkIf ex))) xs:=by
 change T u=_ at hT
 unfold dI dR Za;simp only[hT,Option.isNone_none,Yct]
def zts{n t:Nat}{res:List RV}{x:String×Nat}(hT:T (1000000+n)=some ⟨t,0,res,.bad,none,false⟩):x∈Zad T n↔x∈Zga ⟨t,0,res,.bad,none,false⟩:=by
 unfold Zad;rw[hT]
 rfl
@[simp] def zaog{hd tl:List AO}:evX (orc T) T k (.drawT hd tl) st=stX (Zfk (orc T) T tl hd st.env st.heap st.clk):=rfl
attribute [simp] Zcg Zbe Zli Zlj Zk6 Zj6 Zj7 ghS Zec Zhj Znj Zfi Zdv Zdk kids Zat
attribute [simp] gnA gnR Zju Zj8 Zhr Zfr AOp.maker drp1 drpC AOp.lentN AOp.isStore Zhu geB geH
attribute [simp] AOp.writes AOp.free Zh5 Zgr Zgy Zce Zgo Zh7
attribute [simp] AOp.callN Zh9 Zc5 Zj3 shR
end
end
section
open Go.RowKit
def Zic(a b:Nat):Nat:=(((a:Int)-b)%4294967296).toNat
def Zll(a b:Nat):Nat:=(((a:Int)-b)%18446744073709551616).toNat
def Zrw(a b:Nat):Nat:=(((a:Int)-b)%256).toNat
def zpa(n:Int):IntKind.wrap .u32 n=(((n%4294967296).toNat:Nat):Int):=by
 grind[IntKind.wrap,IntKind.signed,IntKind.bits]
def zpb(n:Int):IntKind.wrap .u64 n=(((n%18446744073709551616).toNat:Nat):Int):=by
 grind[IntKind.wrap,IntKind.signed,IntKind.bits]
@[simp] def zaed(n:Int)(h1:-9223372036854775808<=n)(h2:n<9223372036854775808):IntKind.wrap .i64 n=n:=zab n ⟨h1,h2⟩
@[simp] def zabr(a b:Nat):((a:Int)+(b:Int)).toNat=a+b:=by omega
@[simp] def z7x(a b:Nat):(0:Int)<=(a:Int)+(b:Int):=by omega
@[simp] def z7y(a:Nat):(0:Int)<=(a:Int)+1:=by omega
@[simp] def z7z(a b:Nat):((a:Int)+(b:Int)+1).toNat=a+b+1:=by omega
@[simp] def z5s(a b:Nat):(0:Int)<=(a:Int)+(b:Int)+1:=by omega
section
variable(a b:Nat)(k:IntKind)(n:Int)
@[simp] def zaud:Zay .add (u32 a) (u32 b)=some (u32 ((a+b)%4294967296)):=by
 simp only[u32,zs9,<-Int.natCast_add,zit]
@[simp] def zaue:Zay .add (u64 a) (u64 b)=some (u64 ((a+b)%18446744073709551616)):=by
 simp only[u64,zs9,<-Int.natCast_add,zfl]
@[simp] def zauf:Zay .mul (u64 a) (u64 b)=some (u64 ((a*b)%18446744073709551616)):=by
 simp only[u64,z2q,<-Yek,zfl]
@[simp] def zaru:Zay .sub (u32 a) (u32 b)=some (u32 (Zic a b)):=by
 simp only[u32,z2p,zpa,Zic]
def ztt:((a:Int).tdiv (b:Int))=((a/b:Nat):Int):=by rw[Int.ofNat_tdiv]
def ztu:((a:Int).tmod (b:Int))=((a%b:Nat):Int):=by rw[Int.ofNat_tmod]
@[simp] def zaug:Zay .quo (u32 a) (u32 b)=if b=0 then none else some (u32 (a/b%4294967296)):=by
 simp only[u32,zta,ztt,zit,Yc1]
@[simp] def zauh:Zay .quo (u64 a) (u64 b)=if b=0 then none else some (u64 (a/b%18446744073709551616)):=by
 simp only[u64,zta,ztt,zfl,Yc1]
@[simp] def zaui:Zay .rem (u32 a) (u32 b)=if b=0 then none else some (u32 (a%b)):=by
 simp only[u32,ztb,ztu,Yc1]
@[simp] def zauj:Zay .rem (u64 a) (u64 b)=if b=0 then none else some (u64 (a%b)):=by
 simp only[u64,ztb,ztu,Yc1]
def bvn(w:Nat):(BitVec.ofInt w (a:Int)).toNat=a%2^w:=by simp
@[simp] def or32:Zay .or (u32 a) (u32 b)=some (u32 ((a ||| b)%4294967296)):=by
 have h:=Nat.or_mod_two_pow (a:=a) (b:=b) (n:=32);have e:((BitVec.ofInt 32 (a:Int) ||| BitVec.ofInt 32 (b:Int)).toNat)=(a ||| b)%2^32:=by rw[BitVec.toNat_or,bvn,bvn,<-h]
 show some (AV.i .u32 (IntKind.wrap .u32 (((BitVec.ofInt 32 (a:Int) ||| BitVec.ofInt 32 (b:Int)).toNat:Nat):Int)))=_;rw[e,zit];simp[u32]
@[simp] def or64:Zay .or (u64 a) (u64 b)=some (u64 ((a ||| b)%18446744073709551616)):=by
 have h:=Nat.or_mod_two_pow (a:=a) (b:=b) (n:=64);have e:((BitVec.ofInt 64 (a:Int) ||| BitVec.ofInt 64 (b:Int)).toNat)=(a ||| b)%2^64:=by rw[BitVec.toNat_or,bvn,bvn,<-h]
 show some (AV.i .u64 (IntKind.wrap .u64 (((BitVec.ofInt 64 (a:Int) ||| BitVec.ofInt 64 (b:Int)).toNat:Nat):Int)))=_;rw[e,zfl];simp[u64]
def zze(m:Nat):((a:Int)*2^m)=((a*2^m:Nat):Int):=by simp
def zl1(m:Nat):((a:Int).fdiv (2^m))=((a/2^m:Nat):Int):=by
 grind
@[simp] def zaoh:Zay .shl (u64 a) (.i k n)=if n<0 then none else some (u64 (a*2^(min n.toNat 64)%18446744073709551616)):=by
 simp only[u64,Zay,IntKind.bits,zze,zfl]
@[simp] def zauk:Zay .shr (u32 a) (.i k n)=if n<0 then none else some (u32 (a/2^(min n.toNat 32))):=by
 simp only[u32,Zay,IntKind.bits,zl1]
@[simp] def zaoi:Zay .shr (u64 a) (.i k n)=if n<0 then none else some (u64 (a/2^(min n.toNat 64))):=by
 simp only[u64,Zay,IntKind.bits,zl1]
@[simp] def z5t:¬ ((b:Int)<0):=by omega
@[simp] def zarv:Zay .shl (u64 a) (u64 b)=some (u64 (a*2^(min b 64)%18446744073709551616)):=by
 rw[show u64 b=.i .u64 (b:Int) from rfl,zaoh,if_neg (z5t b),Y0]
@[simp] def zarw:Zay .shr (u64 a) (u64 b)=some (u64 (a/2^(min b 64))):=by
 rw[show u64 b=.i .u64 (b:Int) from rfl,zaoi,if_neg (z5t b),Y0]
@[simp] def zaul:Zay .eql (u32 a) (u32 b)=some (.b (decide (a=b))):=by
 simp only[u32,ztc,Option.some.injEq,AV.b.injEq];rw[Ycf];simp[Ycn]
@[simp] def zaum:Zay .neq (u32 a) (u32 b)=some (.b (!decide (a=b))):=by
 simp only[u32,ztd,Option.some.injEq,AV.b.injEq];rw[Ycf];simp[Ycn]
@[simp] def zaun:Zay .lss (u32 a) (u32 b)=some (.b (decide (a<b))):=by simp[u32,zte]
@[simp] def zauo:Zay .leq (u32 a) (u32 b)=some (.b (decide (a<=b))):=by simp[u32,z2r]
@[simp] def zaup:Zay .gtr (u32 a) (u32 b)=some (.b (decide (b<a))):=by simp[u32,z2s]
@[simp] def zauq:Zay .geq (u32 a) (u32 b)=some (.b (decide (b<=a))):=by simp[u32,z2t]
@[simp] def zaur:Zay .neq (u64 a) (u64 b)=some (.b (!decide (a=b))):=by
 simp only[u64,ztd,Option.some.injEq,AV.b.injEq];rw[Ycf];simp[Ycn]
@[simp] def eql8:Zay .eql (u8 a) (u8 b)=some (.b (decide (a=b))):=by
 simp only[u8,ztc,Option.some.injEq,AV.b.injEq];rw[Ycf];simp[Ycn]
@[simp] def lss8:Zay .lss (u8 a) (u8 b)=some (.b (decide (a<b))):=by simp[u8,zte]
@[simp] def zabs:Zcc .u64 (u32 a)=some (u64 (a%18446744073709551616)):=by simp only[u32,u64,Zcc,zfl]
@[simp] def zabt:Zcc .u32 (u64 a)=some (u32 (a%4294967296)):=by simp only[u32,u64,Zcc,zit]
@[simp] def zaee:Zcc .u8 (u32 a)=some (u8 (a%256)):=by simp only[u32,u8,Zcc,z7k]
@[simp] def zaef:Zcc .u32 (.i .i64 n)=some (u32 (n%4294967296).toNat):=by simp only[u32,Zcc,zpa]
@[simp] def zaeg:Zcc .u64 (.i .i64 n)=some (u64 (n%18446744073709551616).toNat):=by simp only[u64,Zcc,zpb]
@[simp] def zaeh:Zcc .i64 (u32 a)=some (.i .i64 (IntKind.wrap .i64 a))/\Zcc .i64 (u64 a)=some (.i .i64 (IntKind.wrap .i64 a))/\Zcc .i64 (u8 a)=some (.i .i64 (IntKind.wrap .i64 a)):=by and_intros<;>rfl
@[simp] def zajf:Zcc .i64 (.i .i64 n)=some (.i .i64 (IntKind.wrap .i64 n)):=rfl
@[simp] def zaus:Ziq .neg (u64 a)=some (u64 (Zll 0 a)):=by simp[u64,Ziq,zpb,Zll]
@[simp] def zaut:Ziq .neg (.i .i64 n)=some (.i .i64 (IntKind.wrap .i64 (0-n))):=rfl
@[simp] def zauu(t:Bool):Ziq .not (.b t)=some (.b (!t)):=rfl
@[simp] def zarx(m:Nat)(y:Int):(bnd (u8 m) y=if 0<=(m:Int)/\(m:Int)<=y then some m else none)/\(bnd (u32 m) y=if 0<=(m:Int)/\(m:Int)<=y then some m else none)/\(bnd (u64 m) y=if 0<=(m:Int)/\(m:Int)<=y then some m else none):=by and_intros<;>rfl
attribute [simp] Zgn Zit Zjr
@[simp] def zary(l:List UInt8):Zjq (.s l) (.i k n)=if 0<=n/\n<l.length then (l[n.toNat]?).map fun b=>u8 b.toNat else none:=rfl
@[simp] def zajg(k':IntKind)(x y:Int):Zej .int (.i k x) (.i k' y)=if k=k' then some (x == y) else none:=rfl
end
@[simp] def zaol(a b:Nat):u32 a=u32 b↔a=b:=by simp[u32,Ycn]
@[simp] def zaom(a b:Nat):u64 a=u64 b↔a=b:=by simp[u64,Ycn]
def zam(x:UInt32):x.toNat<4294967296:=x.toNat_lt
@[simp] def zaon(x:UInt32):x.toNat<4294967296:=x.toNat_lt
def w32(n:Nat):UInt32:=UInt32.ofNat n
def zba(n:Nat):(w32 n).toNat=n%4294967296:=UInt32.toNat_ofNat' ..
theorem zah{n:Nat}(h:n<4294967296):(w32 n).toNat=n:=by rw[zba,Y4 h]
@[simp] def zabu(x:UInt32):w32 x.toNat=x:=UInt32.ofNat_toNat
def Zb(l:List UInt32):List (List AV):=l.map fun x=>[u32 x.toNat]
def ints(l:List Int):List (List AV):=l.map fun x=>[.i .i64 x]
def u8s(l:List UInt8):List (List AV):=l.map fun x=>[u8 x.toNat]
section
variable(l m:List UInt32)(x:UInt32)
@[simp] def zajh:Zb []=[]:=rfl
@[simp] def zkb:(Zb l).length=l.length:=by simp[Zb]
@[simp] def zaoo:wkL (Zb l)=Zb l:=by
 rw[zav];simp[Zb,wkR]
@[simp] def zaej(n:Nat):(Zb l).take n=Zb (l.take n):=by simp[Zb]
@[simp] def zaek(n:Nat):(Zb l).drop n=Zb (l.drop n):=by simp[Zb]
@[simp] def z71:Zb l++Zb m=Zb (l++m):=by simp[Zb]
@[simp] def zael(n:Nat)(h:n<4294967296):Zb l++[[u32 n]]=Zb (l++[w32 n]):=by simp[Zb,zah h]
@[simp] def u32s_getElem?(i:Nat):(Zb l)[i]? = (l[i]?).map fun x=>[u32 x.toNat]:=by simp[Zb]
@[simp] def z5u(i:Nat)(h:i<(Zb l).length):(Zb l)[i]=[u32 (l[i]'(by simpa using h)).toNat]:=by simp[Zb]
def zbw(i:Nat)(n:Nat)(h:n<4294967296):(Zb l).set i [u32 n]=Zb (l.set i (w32 n)):=by simp[Zb,Yco,zah h]
@[simp] def zaem(i n:Nat):(Zb l).set i [u32 (n%4294967296)]=Zb (l.set i (w32 n)):=by simp[Zb,Yco,zba]
@[simp] def zaji(n:Nat):List.replicate n [u32 0]=Zb (List.replicate n 0):=by simp[Zb]
@[simp] def zaen(z:Nat):((Zb l).head?.all fun r=>decide (r.length=z))=(l.isEmpty || decide (z=1)):=by
 cases l<;>simp[Zb,eq_comm]
end
end
section
open Go.RowKit
abbrev mv(d s:Nat):AO:=⟨some d,none,.mov (.t s)⟩
abbrev rg(d:Nat)(op:AOp):AO:=⟨some d,none,op⟩
abbrev gd(d t:Nat)(b:Bool)(op:AOp):AO:=⟨some d,some (t,b),op⟩
abbrev so(op:AOp):AO:=⟨none,none,op⟩
section
variable(T:Tbl)(u:Nat)(ex:Bool)(ms:List Bool)(xs:List AV)(d:Option Nat)(st:St)(ps:List Opd)(e:Env)
@[simp] noncomputable def cP:Option St:=bL (Zlv st.heap xs) fun ys=>cR (Za T u (ys.map (wkIf ex))) xs d st
@[simp] noncomputable def cL:Option St:=bL (Zj0 st.heap ms xs) fun ys=>Zlk ys (Z8 (Zem ms xs) st.heap) (Zhj (Z8 (Zem ms xs) st.heap) 40 (Zht ms xs) []) T u ex d st
@[simp] noncomputable def dP:Option AV:=dR (Za T u ((ps.map (ev e.get)).map (wkIf ex))) (ps.map (ev e.get))
end
section
variable{T:Tbl}{k:Nat}
def zao{id:Nat}{g2:Gh}{c:AX}(S:Nat->St)(n:Nat)(G:Option (Ex×St))(step:∀i,i<n->evX (orc T) T k c (S i)=some (.n,S (i+1)))
  (fin:Ze6 (evX (orc T) T k c (S n))=true/\Zdw k id g2 (evX (orc T) T k c (S n))=G):Zx T k id g2 c (S 0)=G:=
 zbg S (fun i=>i<=n) (fun i=>n-i) (fun _=>G) (by
  intro i hi;by_cases h:i<n
  ·exact .inl ⟨i+1,h,by show n-(i+1)<n-i;omega,step i h,rfl⟩
  ·have:i=n:=by omega
   subst this;exact .inr fin) 0 (Yx _)
def zbb{id:Nat}{g2:Gh}{c:AX}(S:Nat->St)(n:Nat)(G:Nat->Option (Ex×St))
  (step:∀i,i<n->(evX (orc T) T k c (S i)=some (.n,S (i+1))/\G (i+1)=G i)\/(Ze6 (evX (orc T) T k c (S i))=true/\Zdw k id g2 (evX (orc T) T k c (S i))=G i))
  (fin:Ze6 (evX (orc T) T k c (S n))=true/\Zdw k id g2 (evX (orc T) T k c (S n))=G n):Zx T k id g2 c (S 0)=G 0:=
 zbg S (fun i=>i<=n) (fun i=>n-i) G (by
  intro i hi;by_cases h:i<n
  ·rcases step i h with ⟨h1,h2⟩ | h1
   ·exact .inl ⟨i+1,h,by show n-(i+1)<n-i;omega,h1,h2⟩
   ·exact .inr h1
  ·have:i=n:=by omega
   subst this;exact .inr fin) 0 (Yx _)
end
def zbc{i n:Nat}(h:i<n)(hn:n<=4294967296):IntKind.wrap .i64 ((i:Int)+1)=((i+1:Nat):Int):=zab _ (by omega)
noncomputable def cX(r:Option AFx)(T:Tbl)(u:Nat)(xs:List AV)(d:Option Nat)(st:St):Option St:=
 match r with
 | some ⟨_,_,_,_,none,ex⟩=>cP T u ex xs d st
 | some ⟨_,_,_,_,some ms,ex⟩=>cL T u ex ms xs d st
 | none=>none
noncomputable def cD(r:Option AFx)(T:Tbl)(u:Nat)(ps:List Opd)(e:Env):Option AV:=
 match r with
 | some ⟨_,_,_,_,none,ex⟩=>dP T u ex ps e
 | _=>none
section
variable{T:Tbl}{u:Nat}{xs:List AV}{d:Option Nat}{st:St}{ps:List Opd}{e:Env}{np nt:Nat}{res:List RV}{b:AX}{ms:List Bool}{ex:Bool}
@[simp] def xG:Zar (orc T) T u xs d st=cX (Tr T u) T u xs d st:=by
 cases h:Tr T u with
 | none=>unfold Tr at h;simp only[Zar,h,cX]
 | some r=>
  obtain⟨np,nt,res,b,l,ex⟩:=r;cases l with
  | none=>exact za9 h
  | some ms=>exact zvm h
@[simp] def yG{h:Heap}{ol:List Heap}:opD (orc T) T (.call u ps) e h ol=cD (Tr T u) T u ps e:=by
 cases h:Tr T u with
 | none=>unfold Tr at h;simp only[opD,h,cD]
 | some r=>
  obtain⟨np,nt,res,b,l,ex⟩:=r;cases l with
  | none=>exact z24 h
  | some ms=>unfold Tr at h;simp only[opD,h,cD,Option.isNone_some,Yev,Yah,if_false]
@[simp] def cX_p:cX (some ⟨np,nt,res,b,none,ex⟩) T u xs d st=cP T u ex xs d st:=rfl
@[simp] def cX_l:cX (some ⟨np,nt,res,b,some ms,ex⟩) T u xs d st=cL T u ex ms xs d st:=rfl
@[simp] def cD_p:cD (some ⟨np,nt,res,b,none,ex⟩) T u ps e=dP T u ex ps e:=rfl
end
abbrev Qd(α:Type):=Nat→Nat→α×Nat×Nat
def Qc{α:Type}:List (Nat×Qd α)→Nat→Nat→Nat→Option (α×Nat×Nat)
 | [],_,_,_=>none
 | (f,p)::r,m,q,c=>if m<f then some (p c (f*q+m)) else Qc r (m-f) q c
def Qs{α:Type}(a:α)(l:List (Nat×Qd α)):Qd α:=fun c x=>(Qc l (x%256) (x/256) c).getD (a,c,x)
def Q0{α:Type}(a:α):Qd α:=fun c x=>(a,c,x)
def Q1{α β:Type}(f:α→β)(p:Qd α):Qd β:=fun c x=>match p c x with | (a,c,x)=>(f a,c,x)
def Q2{α β γ:Type}(f:α→β→γ)(p:Qd α)(q:Qd β):Qd γ:=fun c x=>match p c x with | (a,c,x)=>Q1 (f a) q c x
def Q3{α β γ δ:Type}(f:α→β→γ→δ)(p:Qd α)(q:Qd β)(r:Qd γ):Qd δ:=fun c x=>match p c x with | (a,c,x)=>Q2 (f a) q r c x
def Q4{α β γ δ ε:Type}(f:α→β→γ→δ→ε)(p:Qd α)(q:Qd β)(r:Qd γ)(s:Qd δ):Qd ε:=fun c x=>match p c x with | (a,c,x)=>Q3 (f a) q r s c x
def Q5{α β γ δ ε ζ:Type}(f:α→β→γ→δ→ε→ζ)(p:Qd α)(q:Qd β)(r:Qd γ)(s:Qd δ)(t:Qd ε):Qd ζ:=fun c x=>match p c x with | (a,c,x)=>Q4 (f a) q r s t c x

def Qi:List Nat→Nat→Nat→Nat→Nat×Nat
 | [],i,_,q=>(i,q)
 | f::r,i,m,q=>if m<f then (i,f*q+m) else Qi r (i+1) (m-f) q
def Qv(l:List Nat):Qd Nat:=fun c x=>match Qi l 0 (x%256) (x/256) with | (i,x)=>(i,c,x)
def Qr(m:Nat):Qd Nat:=fun c x=>(x%m,c,x/m)
def Qn(l:List Nat):Qd Nat:=fun c x=>match Qv l c x with | (a,c,x)=>if a<12 then (a,c,x) else Qr 4096 c x
def Qt(l:List Nat):Qd Nat:=fun c x=>match Qv l c x with | (a,c,x)=>if a<12 then (c-a,c,x) else if a=12 then Qr (c+1) c x else Qr 1024 c x
def Qo(l:List Nat):Qd (Option Nat):=fun c x=>match Qv l c x with | (a,c,x)=>if a=0 then (none,c,x) else if a<4 then (some (c+a),c+a,x) else (some (x%1024),x%1024,x/1024)
def Qw{α:Type}(p:Qd α):Nat→Qd (List α)
 | 0=>Q0 []
 | n+1=>Q2 List.cons p (Qw p n)
def Ql{α:Type}(p:Qd α):Qd (List α):=fun c x=>match Qn [45,67,51,31,18,11,9,5,5,3,3,2,6] c x with | (n,c,x)=>Qw p n c x
def QK:Qd IntKind:=Qs .i64 [(224,Q0 .i64),(20,Q0 .u32),(9,Q0 .u64),(3,Q0 .u8)]
def QB:Qd Bool:=Q1 (·==1) (Qv [204,52])
def QFl:Qd Fl:=Qs .nl [(256,Q0 .nl)]
def Qk(k:IntKind)(n:Nat):AV:=.i k (Int.ofNat n)
def QAV(A:List AV):Nat→Qd AV
 | 0=>Q0 .dead
 | n+1=>Qs .dead [(107,Q2 Qk QK (Qn [166,40,7,5,4,2,7,3,4,4,3,3,8])),(77,Q1 .b QB),(66,Q2 .sl (Ql (Ql (QAV A n))) QFl),(4,Q1 (A.getD · .dead) (Qn [238,18])),(2,Q1 .s (Ql (Q1 UInt8.ofNat (Qr 256))))]
def QOG:Qd (Option (Nat × Bool)):=Qs none [(240,Q0 none),(16,Q2 (fun a b=>some (a,b)) (Qt [17,88,20,16,9,6,5,4,4,4,3,3,48,29]) QB)]
def QOpd(A:List AV):Qd Opd:=Qs (.c .dead) [(225,Q1 .t (Qt [17,88,20,16,9,6,5,4,4,4,3,3,48,29])),(31,Q1 .c (QAV A 9))]
def QON:Qd (Option Nat):=Qs none [(141,Q0 none),(115,Q1 some (Qn [64,73,26,56,12,6,12,1,2,1,1,1,1]))]
def QBin:Qd BinOp:=Qs .eql [(72,Q0 .eql),(56,Q0 .add),(44,Q0 .lss),(23,Q0 .sub),(16,Q0 .gtr),(12,Q0 .neq),(9,Q0 .geq),(4,Q0 .shr),(4,Q0 .rem),(4,Q0 .leq),(4,Q0 .quo),(3,Q0 .shl),(3,Q0 .or),(2,Q0 .mul)]
def QLeaf:Qd Leaf:=Qs .int [(244,Q0 .int),(12,Q0 .str)]
def QNLeaf:Qd (Nat × Leaf):=Q2 Prod.mk (Qn [64,73,26,56,12,6,12,1,2,1,1,1,1]) QLeaf
def QKTy:Qd KTy:=Qs .int [(256,Q1 .fs (Ql QNLeaf))]
def QXOp:Qd XOp:=Qs .bad [(245,Q1 .box (Qn [64,73,26,56,12,6,12,1,2,1,1,1,1])),(3,Q0 .cpy),(2,Q1 .arsl (Qn [64,73,26,56,12,6,12,1,2,1,1,1,1])),(2,Q0 .bstr),(2,Q0 .mmap),(2,Q1 .mupd QKTy)]
def QP3(A:List AV):Qd (Nat × Nat × Opd):=Q3 (fun a b c=>(a,b,c)) (Qn [64,73,26,56,12,6,12,1,2,1,1,1,1]) (Qn [64,73,26,56,12,6,12,1,2,1,1,1,1]) (QOpd A)
def QP2(A:List AV):Qd (Nat × Opd):=Q2 Prod.mk (Qn [64,73,26,56,12,6,12,1,2,1,1,1,1]) (QOpd A)
def QUn:Qd UnOp:=Qs .not [(233,Q0 .not),(23,Q0 .neg)]
def QStr:Qd String:=Qs "x" [(32,Q0 "Fits"),(32,Q0 "Neg"),(32,Q0 "Pow"),(32,Q0 "Add"),(32,Q0 "Sub"),(32,Q0 "Mul"),(32,Q0 "Quo"),(32,Q0 "Of")]
def QOOpd(A:List AV):Qd (Option Opd):=Qs none [(156,Q0 none),(100,Q1 some (QOpd A))]
def QAOp(A:List AV):Qd AOp:=Qs (.mov (.c .dead)) [(92,Q1 .mov (QOpd A)),(33,Q2 .load QON (QOpd A)),(21,Q3 .bin QBin (QOpd A) (QOpd A)),(20,Q2 .fad (Qn [64,73,26,56,12,6,12,1,2,1,1,1,1]) (QOpd A)),(18,Q2 .call (Qr 4096) (Ql (QOpd A))),(11,Q3 .store (Qn [64,73,26,56,12,6,12,1,2,1,1,1,1]) (QOpd A) (QOpd A)),(7,Q3 .iad (Qn [64,73,26,56,12,6,12,1,2,1,1,1,1]) (QOpd A) (QOpd A)),(7,Q2 .ext (QOpd A) (Qn [64,73,26,56,12,6,12,1,2,1,1,1,1])),(7,Q1 .len (QOpd A)),(7,Q2 .xop QXOp (Ql (QOpd A))),(6,Q1 .alloc (Ql (QAV A 9))),(4,Q2 .build (Ql (QAV A 9)) (Ql (QP3 A))),(3,Q3 .pick (QOpd A) (QOpd A) (QOpd A)),(2,Q4 .bsl (Qn [64,73,26,56,12,6,12,1,2,1,1,1,1]) (Ql (QAV A 9)) (Qn [64,73,26,56,12,6,12,1,2,1,1,1,1]) (Ql (QP2 A))),(2,Q1 .nilc (QOpd A)),(1,Q2 .un QUn (QOpd A)),(1,Q2 .conv QK (QOpd A)),(1,Q3 .app (Qn [64,73,26,56,12,6,12,1,2,1,1,1,1]) (QOpd A) (QOpd A)),(1,Q2 .ifc (Qr 4096) (QOpd A)),(1,Q5 .inv QStr (Qn [64,73,26,56,12,6,12,1,2,1,1,1,1]) (Qr 4096) (QOpd A) (Ql (QOpd A))),(1,Q2 .mm QB (Ql (QOpd A))),(1,Q4 .mks (Qn [64,73,26,56,12,6,12,1,2,1,1,1,1]) (Ql (QAV A 9)) (QOpd A) (QOpd A)),(1,Q4 .eqs QB (Ql QNLeaf) (QOpd A) (QOpd A)),(1,Q5 .slc (Qn [64,73,26,56,12,6,12,1,2,1,1,1,1]) (QOpd A) (QOOpd A) (QOOpd A) (QOOpd A)),(1,Q2 .eqnil QB (QOpd A)),(1,Q3 .eqb QB (QOpd A) (QOpd A)),(1,Q1 .lens (QOpd A)),(1,Q2 .ixs (QOpd A) (QOpd A)),(1,Q4 .iaa (Qn [64,73,26,56,12,6,12,1,2,1,1,1,1]) (Qn [64,73,26,56,12,6,12,1,2,1,1,1,1]) (QOpd A) (QOpd A)),(1,Q3 .slstr (QOpd A) (QOOpd A) (QOOpd A)),(1,Q5 .look QKTy (QAV A 9) QB (QOpd A) (QOpd A))]
def QAO(A:List AV):Qd AO:=Q3 AO.mk (Qo [12,168,9,4,63]) QOG (QAOp A)
def QGh:Qd Gh:=Qs (.trm []) [(244,Q2 .norm QB (Ql (Qt [81,38,17,3,6,6,7,7,5,4,6,4,68,4]))),(9,Q2 .nil (Qt [81,38,17,3,6,6,7,7,5,4,6,4,68,4]) (Qn [64,73,26,56,12,6,12,1,2,1,1,1,1])),(3,Q4 .fld (Qt [81,38,17,3,6,6,7,7,5,4,6,4,68,4]) (Qn [64,73,26,56,12,6,12,1,2,1,1,1,1]) (Qn [64,73,26,56,12,6,12,1,2,1,1,1,1]) (Qn [64,73,26,56,12,6,12,1,2,1,1,1,1]))]
def QDO(A:List AV):Qd DO:=Q3 DO.mk (QAO A) (Qn [64,73,26,56,12,6,12,1,2,1,1,1,1]) (Qn [64,73,26,56,12,6,12,1,2,1,1,1,1])
def QAX(L:List AX)(A:List AV):Nat→Qd AX
 | 0=>Q0 .skip
 | n+1=>Qs .skip [(86,Q2 .seq (QAX L A n) (QAX L A n)),(71,Q1 .reg (Ql (QAO A))),(19,Q2 .pre QGh (QAX L A n)),(19,Q0 .ret),(16,Q3 .cond (QOpd A) (QAX L A n) (QAX L A n)),(12,Q0 .skip),(6,Q2 .block (Qn [64,73,26,56,12,6,12,1,2,1,1,1,1]) (QAX L A n)),(6,Q2 .note (QAX L A n) QGh),(5,Q2 .drawT (Ql (QAO A)) (Ql (QAO A))),(4,Q1 (L.getD · .skip) (Qn [238,18])),(4,Q1 .exit (Qn [64,73,26,56,12,6,12,1,2,1,1,1,1])),(4,Q4 .lp (Qn [64,73,26,56,12,6,12,1,2,1,1,1,1]) QGh (QAX L A n) QGh),(1,Q1 .draw (Ql (QDO A))),(1,Q2 .drawM (Ql (QAO A)) (Ql (QAO A))),(1,Q1 .scope (QAX L A n)),(1,Q1 .label (Qn [64,73,26,56,12,6,12,1,2,1,1,1,1]))]
def Qm(l:List Char)(n:Nat):Nat:=match l with
 | []=>n
 | c::l=>Qm l (n*64+(let k:=c.toNat;if k=46 then 0 else if k<58 then k-47 else if k<91 then k-54 else if k<96 then k-58 else k-59))
def Qz(L:List AX)(A:List AV)(s:String):AX:=(QAX L A 99 0 (Qm s.toList 0)).1
theorem Qk8(n:Nat):AV.i .u8 (Int.ofNat n)=u8 n:=rfl
theorem Qk3(n:Nat):AV.i .u32 (Int.ofNat n)=u32 n:=rfl
theorem Qk6(n:Nat):AV.i .u64 (Int.ofNat n)=u64 n:=rfl
theorem Qki(n:Nat):AV.i .i64 (Int.ofNat (no_index (OfNat.ofNat n)))=.i .i64 (OfNat.ofNat n):=rfl
theorem Qe{L A s l b c}(h:s=String.ofList l)(h1:(QAX L A 99 0 (Qm l 0)).1=b)(h2:b=c):Qz L A s=c:=by rw[h,Qz,String.toList_ofList,h1,h2]
@[simp] abbrev QY{c:AX}(L:List AX)(A:List AV)(s:String)(_:Qz L A s=c:=by exact Qe rfl (by cbv) (by (try simp only[Qk8,Qk3,Qk6,Qki]);rfl)):AX:=c
@[simp] abbrev QZ{c:AX}(s:String)(_:Qz [] [] s=c:=by exact Qe rfl (by cbv) (by (try simp only[Qk8,Qk3,Qk6,Qki]);rfl)):AX:=c
end
section
def b115:AX:=QZ "2RrlDVQki6hBoKX0bxMwR4h2CK59uNVsP6H3Gd8KcfI1CjAuv4j_gEFGBCbnD.eNLPYv4lKIUxXbgc_dAJd7Gh8"
def b116:AX:=QZ "mIsJ3CdON0wwSnkA8EQDkr6zTXdRXEKhn96SK9vxRcC3VlgWPYXXuH8cZRJQ.tQ7e7Icw90DfqySd6"
def b117:AX:=QZ "fvwoCZL2Yk6yg7S7JlRoYFd8OmGItNTM8Y.ZpwL8SDzMgataj_Vaz29j8qrTdYZcon"
def b118:AX:=QZ "MsC_14aX.BJ4rg47dZFetp3tcv0XvVb27ub21mixEQfpOeTOJ2jCsUydFREdm0X_u_1F6OLzk1mDryzV32li91Lyx6Jk"
def l91_0:AX:=QZ "TY2PAi1Tc32kpu5MDo.9bOkNS5G3ZmBZdrgxkAakv5ZfSPXPwsRhr5Kf.X60Nbd"
def b91:AX:=(fun p0=>QY [p0] [] "7EnOpxkjr5rEn0BalJzFxQDTM.7EH96tKD") l91_0
abbrev row115:AFx:=⟨3,26,[.t 6,.t 7],b115,none,false⟩
abbrev row116:AFx:=⟨3,25,[.t 6,.t 7],b116,none,false⟩
abbrev row117:AFx:=⟨4,27,[.t 8,.t 9],b117,none,false⟩
abbrev row118:AFx:=⟨3,29,[.t 6,.t 7,.t 8],b118,none,false⟩
abbrev row91:AFx:=⟨1,23,[.t 2],b91,none,false⟩
class Z2 (T:Tbl):Prop where
 h115:Tr T 115=some row115
 h116:Tr T 116=some row116
 h117:Tr T 117=some row117
 h118:Tr T 118=some row118
 h91:Tr T 91=some row91
attribute [simp] Z2.h115 Z2.h116 Z2.h117 Z2.h118 Z2.h91
end
section
variable{T:Tbl}[Z2 T]
def z3t(x y c:UInt32):Za T 115 [u32 x.toNat,u32 y.toNat,u32 c.toNat] =
  some (.tup [u32 (w32 (x.toNat+y.toNat+c.toNat)).toNat,u32 (w32 ((x.toNat+y.toNat+c.toNat)/4294967296)).toNat]):=by
 have hx:=zam x;have hy:=zam y;have hc:=zam c;rw[zaa Z2.h115 rfl,b115];simp[zba]
 repeat' split
 all_goals simp
 all_goals omega
def z3u(x y b:UInt32):Za T 116 [u32 x.toNat,u32 y.toNat,u32 b.toNat] =
  some (.tup [u32 (w32 (x.toNat+8589934592-(y.toNat+b.toNat))).toNat,u32 (w32 (2-(x.toNat+8589934592-(y.toNat+b.toNat))/4294967296)).toNat]):=by
 have hx:=zam x;have hy:=zam y;have hb:=zam b;rw[zaa Z2.h116 rfl,b116];by_cases h1:x.toNat<y.toNat <;>
 by_cases h2:Zic x.toNat y.toNat<b.toNat <;>
 ·simp[h1,h2,zba];unfold Zic at *
  omega
def zma{a b:Nat}(ha:a<4294967296)(hb:b<4294967296):a*b<=18446744065119617025:=by
 have:a*b<=4294967295*4294967295:=Yby (by omega) (by omega);omega
def z3v(x y c d:UInt32):Za T 117 [u32 x.toNat,u32 y.toNat,u32 c.toNat,u32 d.toNat] =
  some (.tup [u32 (w32 ((x.toNat*y.toNat+c.toNat+d.toNat)/4294967296)).toNat,u32 (w32 (x.toNat*y.toNat+c.toNat+d.toNat)).toNat]):=by
 have hx:=zam x;have hy:=zam y;have hc:=zam c;have hd:=zam d;have hm:=zma hx hy;rw[zaa Z2.h117 rfl,b117];simp[zba];generalize x.toNat*y.toNat=m at *
 omega
def zt1(hi lo y:UInt32):Za T 118 [u32 hi.toNat,u32 lo.toNat,u32 y.toNat] =
  some (if y.toNat<=hi.toNat then .tup [u32 0,u32 0,.b false]
   else .tup [u32 (w32 ((hi.toNat*4294967296+lo.toNat)/y.toNat)).toNat,u32 (w32 ((hi.toNat*4294967296+lo.toNat)%y.toNat)).toNat,.b true]):=by
 have hx:=zam hi;have hy:=zam y;have hl:=zam lo;rw[zaa Z2.h118 rfl,b118];by_cases h1:y.toNat<=hi.toNat
 ·simp[h1]
 ·have h2:¬ y.toNat=0:=by omega
  simp[h1,h2,zba];have e:hi.toNat*4294967296%18446744073709551616=hi.toNat*4294967296:=Y4 (by omega);have e2:(hi.toNat*4294967296) ||| lo.toNat=hi.toNat*4294967296+lo.toNat:=by
   have:=Ycr (i:=32) hl hi.toNat;rw[Yas hi.toNat,show (4294967296:Nat)=2^32 from rfl,this]
  have h3:(hi.toNat*4294967296+lo.toNat)/y.toNat<4294967296:=by
   rw[Ybc (by omega)];have:=Ya5 4294967296 (show hi.toNat+1<=y.toNat by omega);omega
  rw[e,e2,Y4 (show hi.toNat*4294967296+lo.toNat<18446744073709551616 by omega)];exact⟨rfl,rfl⟩
def ze6(x y c:Nat)(hx:x<4294967296)(hy:y<4294967296)(hc:c<4294967296):Za T 115 [u32 x,u32 y,u32 c]=some (.tup [u32 ((x+y+c)%4294967296),u32 ((x+y+c)/4294967296)]):=by
 have:=z3t (T:=T) (w32 x) (w32 y) (w32 c);rw[zah hx,zah hy,zah hc,zba,zah (by omega)]at this;exact this
def zg4(x y b:Nat)(hx:x<4294967296)(hy:y<4294967296)(hb:b<4294967296):Za T 116 [u32 x,u32 y,u32 b] =
  some (.tup [u32 ((x+8589934592-(y+b))%4294967296),u32 (2-(x+8589934592-(y+b))/4294967296)]):=by
 have:=z3u (T:=T) (w32 x) (w32 y) (w32 b);rw[zah hx,zah hy,zah hb,zba,zah (by omega)]at this;exact this
def zkk(x y c d:Nat)(hx:x<4294967296)(hy:y<4294967296)(hc:c<4294967296)(hd:d<4294967296):Za T 117 [u32 x,u32 y,u32 c,u32 d] =
  some (.tup [u32 ((x*y+c+d)/4294967296),u32 ((x*y+c+d)%4294967296)]):=by
 have:=z3v (T:=T) (w32 x) (w32 y) (w32 c) (w32 d);have hm:=zma hx hy;rw[zah hx,zah hy,zah hc,zah hd,zba (x*y+c+d),zah (by omega)]at this;exact this
def z51{hi lo y:Nat}(h:hi<y)(hl:lo<4294967296):(hi*4294967296+lo)/y<4294967296:=by
 rw[Ybc (by omega)];have:=Ya5 4294967296 (show hi+1<=y by omega);omega
def zpv(hi lo y:Nat)(hx:hi<y)(hl:lo<4294967296)(hy:y<4294967296):Za T 118 [u32 hi,u32 lo,u32 y] =
  some (.tup [u32 ((hi*4294967296+lo)/y),u32 ((hi*4294967296+lo)%y),.b true]):=by
 have:=zt1 (T:=T) (w32 hi) (w32 lo) (w32 y);rw[zah (show hi<4294967296 by omega),zah hl,zah hy,zah (z51 hx hl),zah (by have:=Ybl (hi*4294967296+lo) (show 0<y by omega);omega),if_neg (by omega)]at this;exact this
def zwe(hi lo y:Nat)(hx:y<=hi)(hh:hi<4294967296)(hl:lo<4294967296):Za T 118 [u32 hi,u32 lo,u32 y]=some (.tup [u32 0,u32 0,.b false]):=by
 have:=zt1 (T:=T) (w32 hi) (w32 lo) (w32 y);rw[zah hh,zah hl,zah (show y<4294967296 by omega),if_pos hx]at this;exact this
def Zbh(n:Nat):Nat:=if n=0 then 0 else n.log2+1
def zmb{n s:Nat}(h:n/2^s≠0):Zbh n=s+Zbh (n/2^s):=by
 have hn:n≠0:=by rintro rfl;simp at h
 have hlog:(n/2^s).log2+s=n.log2:=by
  have h1:=Nat.log2_self_le h;have h2:=Yeg (n:=n/2^s);have h3:=Nat.log2_self_le hn;have h4:=Yeg (n:=n);have hp:0<2^s:=Ybs (by decide);have a1:2^((n/2^s).log2+s)<=n:=by
   rw[Ycs];exact(Yb8 hp).1 h1
  have a2:n<2^((n/2^s).log2+1+s):=by
   rw[Ycs];exact(Ybc hp).1 h2
  have b1:=(Nat.le_log2 hn).2 a1;have b2:=(Yed hn).2 a2;omega
 unfold Zbh;rw[if_neg h,if_neg hn];omega
def zwf{x:Nat}(h:x<2):Zbh x=x:=by
 rcases(show x=0\/x=1 by omega) with rfl | rfl<;>decide
def Zkx(y:Nat×Nat×Nat):St:=⟨[(0,u32 y.1),(3,.i .i64 y.2.1),(4,.i .i64 y.2.2)],[],2⟩
end
section
variable{T:Tbl}
def znc(N:Nat):∀y:Nat×Nat×Nat,((y.2.2=16\/y.2.2=8\/y.2.2=4\/y.2.2=2\/y.2.2=1\/y.2.2=0)/\y.1<2^(2*y.2.2)*(if y.2.2=0 then 2 else 1)/\y.2.1+Zbh y.1=N/\y.2.1+2*y.2.2<=32) ->
  ∃r,(∃(x n:Nat),r=(Ex.n,(⟨[(0,u32 x),(3,.i .i64 (n:Int))],[],2⟩:St))/\x<2/\n+Zbh x=N/\n<=32)/\Zx T 0 0 (.norm false [0,3]) l91_0 (Zkx y)=some r:=by
 refine zay _ _ (fun y=>y.2.2) _ ?_
 rintro⟨x,n,s⟩ ⟨hs,hx,hN,hn⟩
 simp only at hs hx hN hn;by_cases h0:s=0
 ·right;subst h0;refine⟨_,⟨x,n,rfl,by simpa using hx,hN,by omega⟩,?_,?_⟩<;>simp[l91_0,Zkx]
 ·left;by_cases h1:x/2^s=0
  ·refine⟨(x,n,s/2),⟨?_,?_,hN,by simp only;omega⟩,by simp only;omega,?_⟩
   ·rcases hs with rfl | rfl | rfl | rfl | rfl | rfl<;>simp
   ·have h2:x<2^s:=by
     rcases Yy x (2^s) with h | h
     ·exact h
     ·have:=Nat.div_pos h (Ybs (by decide));omega
    rcases hs with rfl | rfl | rfl | rfl | rfl | rfl<;>simp at h2 ⊢<;>omega
   ·rcases hs with rfl | rfl | rfl | rfl | rfl | rfl<;>simp at h1<;>simp[l91_0,Zkx,h1]at h0 ⊢
  ·refine⟨(x/2^s,n+s,s/2),⟨?_,?_,?_,by simp only;omega⟩,by simp only;omega,?_⟩
   ·rcases hs with rfl | rfl | rfl | rfl | rfl | rfl<;>simp
   ·rcases hs with rfl | rfl | rfl | rfl | rfl | rfl<;>simp at hx h0 ⊢<;>omega
   ·have:=zmb h1;simp only;omega
   ·have hw:IntKind.wrap .i64 ((n:Int)+s)=((n+s:Nat):Int):=zab _ (by omega);rcases hs with rfl | rfl | rfl | rfl | rfl | rfl<;>simp at h1 hw<;>simp[l91_0,Zkx,h1,hw]at h0 ⊢
end
section
variable{T:Tbl}[Z2 T]
def zt2(x:UInt32):Za T 91 [u32 x.toNat]=some (.i .i64 (Zbh x.toNat)):=by
 have hx:=zam x;obtain⟨_,⟨y,n,rfl,h1,h2,h3⟩,hl⟩:=znc (T:=T) (Zbh x.toNat) (x.toNat,0,16) ⟨.inl rfl,by simp,by simp,by simp⟩;have hw:IntKind.wrap .i64 (y:Int)=y:=zab _ (by omega);have hw2:IntKind.wrap .i64 ((n:Int)+y)=((n+y:Nat):Int):=zab _ (by omega);have h4:=zwf h1;rw[zaa Z2.h91 rfl,b91];simp;unfold Zkx at hl;simp at hl;rw[hl];simp[hw,hw2];omega
end
section
def l86_0:AX:=QZ "0hEWGky4nG6SthSP_hvo8KcACZxmeGSM1XoUjBJSmeiTmit3hU_"
def b86:AX:=(fun p0=>QY [p0] [] "54GinBtf56gWFsCH08Lr_ttBuk60OZzO6Vc") l86_0
def b106:AX:=QZ "055.C48efxBRQr9t6LJPNSwcfRAA8T1FowK5JtkQ"
def b71:AX:=QZ "0eN4G8t72rT.mM2DbkWNE"
def b72:AX:=QZ "09YFpkrrekF6I2OCWC2zleas0x0tWZxrY_D"
def l73_0:AX:=QZ "8KJ1AWxjB4AV.EPfyWqgqtTFdpmLVKg4Be010MWizlTj0wviJ2Jpae00zTmf.n7Qb"
def b73:AX:=(fun p0=>QY [p0] [] "18UX3OLHaLbsM9RxcWEm6cO76LOwfdFbwJoL6oIs6X8K8Wto_iXJIRnlI.WqV3r6Cn3I") l73_0
def b70:AX:=QZ "xQ_8Pai2g5cvmY73TZc"
def l87_0:AX:=QY [] [(AV.i .i64 (-1))] "4xZnzWtbDkS0DkM1766w1dSaXJzeluhhRgOsOhUeXqhIE7irwjAAp4i8bdtRU2JQjBXWcKdcQJNR9NYNDQtEq1XFCy19uvc"
def b87:AX:=(fun p0=>QY [p0] [(AV.i .i64 (-1))] "aNr.lRo544DMTLEqzQkG.yWEtZsP4j9YZjm8ELUmay79aT2NVZeLqX4e6UgSgh7vUjyvx4U2EZT6wGFV9OBVwQhH3R7fIrONn") l87_0
def l85_0:AX:=QZ "4qPDdKHaCUYDGWT9ssE_Rolh8KN2fXcAaTeFr9mS1RuEvbyl8Cg0D3Fm0HpbDG9VJA2cmn7mLHRTl4d76nvVjjD6YAT6l_Xa6iDHMavUAId"
def b85:AX:=(fun p0=>QY [p0] [] "2.Y4696gJ.3psaJ5PYmuL6vWPkLHoA7N.lBxenVY9GLtk6AF2h7846vfAidvA6ZYP.Y5R5._l2dtkkDOP_yvyo0EiExp9") l85_0
def l56_0:AX:=QZ "JGNh.U48_1ldnzww8a11qul_RUjw4IIaCzTBcTXZTYnh9C4dM72e"
def b56:AX:=(fun p0=>QY [p0] [] "N5LphaVpeIlu_y82ejj8NOR9vLlKd9") l56_0
def l88_0:AX:=QZ "F5.eVpO7Zw2Pb9ugzLe7dAO5VOMraxNsdR3dSsGrRFzxxfjxFMj1X0C4VuGAtabd7ROLs8P.CQ4cMTWXxzk.ytxrwk7pNZLi08Yj0WYg4Qa"
def b88:AX:=(fun p0=>QY [p0] [] "KWgMp.U_oik0j_CPbcGlaQ4JNUKMDM4jqFe2DMS313mNLJL0._rDOB_sAFH0GEv1A1WfStwhk_Q9fOgZTn9aNg4O.GB.XEtCvlF") l88_0
def b57:AX:=QZ "9R3vXW.SIIfW3.kSl5OHqFVtitywpJTSX5ylZ7UP0iokxy3Ze0gop5V29Ww3mY2AkvyUXvKpkvyfbPMWTXggq"
def b2106:AX:=QZ "055.C48efxBRQr9t6LJPNSwcfRAA8T1FowK5JtkQ"
abbrev row86:AFx:=⟨1,21,[.t 2],b86,none,false⟩
abbrev row106:AFx:=⟨2,15,[.t 4],b106,none,false⟩
abbrev row71:AFx:=⟨1,6,[.t 2],b71,none,false⟩
abbrev row72:AFx:=⟨1,10,[.t 2],b72,none,false⟩
abbrev row73:AFx:=⟨1,28,[.t 2,.t 3],b73,none,false⟩
abbrev row70:AFx:=⟨1,7,[.t 2],b70,none,false⟩
abbrev row87:AFx:=⟨2,49,[.t 4],b87,none,false⟩
abbrev row85:AFx:=⟨2,52,[.t 4],b85,none,false⟩
abbrev row56:AFx:=⟨1,18,[.t 2],b56,none,false⟩
abbrev row88:AFx:=⟨2,49,[.t 4,.t 5],b88,none,false⟩
abbrev row57:AFx:=⟨2,24,[.t 4,.t 5],b57,none,false⟩
abbrev row2106:AFx:=⟨2,15,[.t 4],b2106,(some [false,false]),false⟩
class Zr (T:Tbl):Prop extends Z2 T where
 h86:Tr T 86=some row86
 h106:Tr T 106=some row106
 h71:Tr T 71=some row71
 h72:Tr T 72=some row72
 h73:Tr T 73=some row73
 h70:Tr T 70=some row70
 h87:Tr T 87=some row87
 h85:Tr T 85=some row85
 h56:Tr T 56=some row56
 h88:Tr T 88=some row88
 h57:Tr T 57=some row57
 h2106:Tr T 2106=some row2106
attribute [simp] Zr.h86 Zr.h106 Zr.h71 Zr.h72 Zr.h73 Zr.h70 Zr.h87 Zr.h85 Zr.h56 Zr.h88 Zr.h57 Zr.h2106
end
def val:List UInt32->Nat
 | []=>0
 | x::l=>x.toNat+4294967296*val l
def ofN(n:Nat):List UInt32:=if n=0 then [] else w32 n::ofN (n/4294967296)
termination_by n
decreasing_by omega
def Zk2(l:List UInt32):Prop:=∀x,l.getLast? = some x->x.toNat≠0
@[simp] theorem zb0:val []=0:=rfl
@[simp] theorem zaq(x:UInt32)(l:List UInt32):val (x::l)=x.toNat+4294967296*val l:=rfl
@[simp] def zg7:ofN 0=[]:=by rw[ofN];rfl
def zh6{n:Nat}(h:n≠0):ofN n=w32 n::ofN (n/4294967296):=by rw[ofN,if_neg h]
def zel(n:Nat):(w32 n).toNat=n%4294967296:=zba n
def z53{x:UInt32}{n:Nat}(h:n%4294967296=x.toNat):w32 n=x:=by
 rw[<-UInt32.toNat_inj,zel,h]
theorem zae(n:Nat):val (ofN n)=n:=by
 induction n using Nat.strongRecOn with
 | _ n ih=>
  by_cases h:n=0
  ·subst h;simp
  ·rw[zh6 h,zaq,ih (n/4294967296) (by omega),zel];omega
theorem zal(l m:List UInt32):val (l++m)=val l+4294967296^l.length*val m:=by
 induction l with
 | nil=>simp
 | cons x l ih=>
  simp only[Ybj,zaq,ih,Yg,Yap,Yar,Yav];congr 2;rw[<-Ya3,Yas 4294967296 (4294967296^l.length)]
def za6(l:List UInt32):val l<4294967296^l.length:=by
 induction l with
 | nil=>simp
 | cons x l ih=>
  have:=zam x;simp only[zaq,Yg,Yap];omega
def zmh{x:UInt32}{l:List UInt32}(h:Zk2 (x::l)):Zk2 l:=by
 intro y hy;apply h;cases l with
 | nil=>simp at hy
 | cons z l=>rw[List.getLast?_cons_cons];exact hy
def z4v{l:List UInt32}(h:Zk2 l):val l=0↔l=[]:=by
 constructor
 ·intro h0
  induction l with
  | nil=>rfl
  | cons x l ih=>
   exfalso;simp only[zaq]at h0;have h1:=ih (zmh h) (by omega);subst h1;exact h x (by simp) (by omega)
 ·rintro rfl;rfl
def z9e{l:List UInt32}(h:Zk2 l):ofN (val l)=l:=by
 induction l with
 | nil=>simp
 | cons x l ih=>
  have hx:=zam x;have hne:val (x::l)≠0:=fun h0=>by have:=(z4v h).1 h0;cases this
  rw[zh6 hne];congr 1
  ·exact z53 (by simp only[zaq];omega)
  ·rw[show val (x::l)/4294967296=val l by simp only[zaq];omega];exact ih (zmh h)
def zbl{n:Nat}:ofN n=[]↔n=0:=⟨fun h=>by rw[<-zae n,h];rfl,fun h=>by rw[h];simp⟩
def zw3{a:List UInt32}{n:Nat}(hn:n<=a.length)(h0:∀(i:Nat) (x:UInt32),n<=i->a[i]? = some x->x.toNat=0)(h1:∀x:UInt32,0<n->a[n-1]? = some x->x.toNat≠0):a.take n=ofN (val a):=by
 have hr:Zk2 (a.take n):=by
  intro x hx;have hn0:0<n:=by
   rcases Ybr n with h | h
   ·subst h;simp at hx
   ·exact h
  apply h1 x hn0;rw[List.getLast?_eq_getElem?,Yae,Ycg hn,Yai,if_pos (by omega)]at hx;exact hx
 have hz:∀l:List UInt32,(∀(i:Nat) (x:UInt32),l[i]? = some x->x.toNat=0)->val l=0:=by
  intro l
  induction l with
  | nil=>intro _;rfl
  | cons x l ih=>
   intro h;have h2:=h 0 x rfl;have h3:=ih fun i y hy=>h (i+1) y (by simpa using hy);simp only[zaq,h2,h3]
 have hv:val a=val (a.take n):=by
  have e:=zal (a.take n) (a.drop n);rw[Yaw,hz (a.drop n) (fun i x hx=>h0 (n+i) x (by omega) (by rw[Ya0]at hx;exact hx))]at e;omega
 rw[hv,z9e hr]
def znn(a:List UInt32):∃n,n<=a.length/\a.take n=ofN (val a)/\(∀(i:Nat) (x:UInt32),n<=i->a[i]? = some x->x.toNat=0)/\(∀x:UInt32,0<n->a[n-1]? = some x->x.toNat≠0):=by
 have key:∀k,k<=a.length->(∀(i:Nat) (x:UInt32),k<=i->a[i]? = some x->x.toNat=0)->∃n,n<=k/\(∀(i:Nat) (x:UInt32),n<=i->a[i]? = some x->x.toNat=0)/\(∀x:UInt32,0<n->a[n-1]? = some x->x.toNat≠0):=by
  intro k
  induction k with
  | zero=>intro _ h;exact⟨0,Yh _,h,fun x hx=>by omega⟩
  | succ k ih=>
   intro hk h;by_cases hz:(a[k]'(by omega)).toNat=0
   ·obtain⟨n,h1,h2,h3⟩:=ih (by omega) fun i x hi hx=>by
     rcases Yy k i with h4 | h4
     ·exact h i x h4 hx
     ·have:i=k:=by omega
      subst this;rw[Ya (by omega)]at hx;cases hx;exact hz
    exact⟨n,by omega,h2,h3⟩
   ·refine⟨k+1,Yh _,h,fun x _ hx=>?_⟩;rw[Nat.add_sub_cancel,Ya (by omega)]at hx;cases hx;exact hz
 obtain⟨n,h1,h2,h3⟩:=key a.length (Yh _) fun i x hi hx=>by rw[Yde hi]at hx;cases hx
 exact⟨n,h1,zw3 h1 h2 h3,h2,h3⟩
def zac(a:List UInt32):(ofN (val a)).length<=a.length:=by
 obtain⟨n,h1,h2,_⟩:=znn a;rw[<-h2,Yae];omega
def zap{n k:Nat}(h:n<4294967296^k):(ofN n).length<=k:=by
 induction k generalizing n with
 | zero=>
  have:n=0:=by simp at h;omega
  subst this;simp
 | succ k ih=>
  by_cases h0:n=0
  ·subst h0;simp
  ·rw[zh6 h0,Yg];have:=ih (n:=n/4294967296) (by rw[Yap]at h;omega);omega
theorem zag{a:List UInt32}{i:Nat}{x:UInt32}(h:a[i]? = some x):val (a.take (i+1))=val (a.take i)+4294967296^i*x.toNat:=by
 have hi:i<a.length:=by
  rcases Yy i a.length with h1 | h1
  ·exact h1
  ·rw[Yde h1]at h;cases h
 rw[Ycd,h,zal];simp only[Yd6,zaq,zb0,Ybe,Yaj,Yae];rw[Ycg (by omega)]
def zc1{a:List UInt32}{i:Nat}(x:UInt32)(h:i<a.length):val ((a.set i x).take (i+1))=val (a.take i)+4294967296^i*x.toNat:=by
 rw[zag (x:=x) (by rw[Yc9 h]),List.take_set_of_le (Yh i)]
def zbt{a:List UInt32}{i:Nat}(h:a.length<=i):val (a.take i)=val a:=by rw[Yc h]
def zem(n:Nat):val (List.replicate n 0)=0:=by
 induction n with
 | zero=>rfl
 | succ n ih=>simp[Ya6,ih]
def zh7{m n:Nat}(h:(ofN m).length<(ofN n).length):m<n:=by
 rcases Yy m n with h1 | h1
 ·exact h1
 ·exfalso;have h2:=za6 (ofN m);rw[zae]at h2;have:=zap (show n<4294967296^(ofN m).length by omega);omega
def zbm{m n:Nat}(h:m<=n):(ofN m).length<=(ofN n).length:=by
 rcases Yy (ofN n).length (ofN m).length with h1 | h1
 ·have:=zh7 h1;omega
 ·exact h1
def Zgu(x y:Nat):Int:=if x<y then -1 else if y<x then 1 else 0
def z1l{a b:List UInt32}{i:Nat}{x y:UInt32}(hx:a[i]? = some x)(hy:b[i]? = some y)(h:x.toNat<y.toNat):val (a.take (i+1))<val (b.take (i+1)):=by
 rw[zag hx,zag hy];have h1:=za6 (a.take i);have h2:4294967296^(a.take i).length<=4294967296^i:=Yag (by decide) (by simp;omega);have h3:=Ya5 (4294967296^i) (show x.toNat+1<=y.toNat from h);rw[Yar]at h3;omega
def zno{x y c:Nat}(hx:x<4294967296)(hy:y<4294967296)(hc:c<=1) :
  (x+8589934592-(y+c))%4294967296+(y+c)=x+4294967296*(2-(x+8589934592-(y+c))/4294967296)/\2-(x+8589934592-(y+c))/4294967296<=1:=by omega
def lls(l:List (List UInt32)):List (List AV):=l.map fun a=>[.sl (Zb a) .an]
@[simp] def zabw(l:List (List UInt32)):(lls l).length=l.length:=by simp[lls]
@[simp] def zasc(l:List (List UInt32)):wkL (lls l)=lls l:=by rw[zav];simp[lls,wkR]
@[simp] def z9f(l:List (List UInt32))(i:Nat)(h:i<(lls l).length):(lls l)[i]=[.sl (Zb (l[i]'(by simpa using h))) .an]:=by simp[lls]
section
variable{T:Tbl}
def z0k(a:List UInt32)(hl:a.length<9223372036854775808){n:Nat}(hn:n<=a.length)(h0:∀(i:Nat) (x:UInt32),n<=i->a[i]? = some x->x.toNat=0)(h1:∀x:UInt32,0<n->a[n-1]? = some x->x.toNat≠0) :
  ∀m:Nat,(n<=m/\m<=a.length)->Zx T 0 0 (.norm false [0,3]) l86_0 ⟨[(0,.sl (Zb a) .an),(3,.i .i64 (m:Int))],[],2⟩=some (.n,⟨[(0,.sl (Zb a) .an),(3,.i .i64 (n:Int))],[],2⟩):=by
 refine zbg (fun m:Nat=>⟨[(0,.sl (Zb a) .an),(3,.i .i64 (m:Int))],[],2⟩) _ (fun m=>m) _ ?_
 rintro m ⟨hm,hma⟩
 by_cases h2:m=0
 ·right;subst h2;have:n=0:=by omega
  subst this;constructor<;>simp[l86_0]
 ·have hw:IntKind.wrap .i64 ((m:Int)-1)=((m-1:Nat):Int):=by rw[zab _ (by omega)];omega
  have hm1:m-1<a.length:=by omega
  have hg:a[m-1]? = some (a[m-1]'hm1):=Ya hm1;have hpos:0<m:=by omega
  by_cases h3:m=n
  ·right;subst h3;have hx:=h1 _ hpos hg;constructor<;>simp[l86_0,hpos,hw,hm1,hx]
  ·left;refine⟨m-1,⟨by omega,by omega⟩,by show m-1<m;omega,?_,rfl⟩;have hx:=h0 (m-1) _ (by omega) hg;simp[l86_0,hpos,hw,hm1,hx]
end
section
variable{T:Tbl}[Zr T]
def zbx(a:List UInt32)(hl:a.length<=4294967296):Za T 86 [.sl (Zb a) .an]=some (.sl (Zb (ofN (val a))) .an):=by
 obtain⟨n,h1,h2,h3,h4⟩:=znn a;have hr:=z0k (T:=T) a (by omega) h1 h3 h4 a.length ⟨h1,Yh _⟩;rw[zaa Zr.h86 rfl,b86];simp[hr,h1,h2]
def z0l(a:List UInt32)(m:Nat)(hl:a.length+m<=4294967296):Za T 106 [.sl (Zb a) .an,.i .i64 (m:Int)]=some (.sl (Zb (a++List.replicate m 0)) .an):=by
 have hw:IntKind.wrap .i64 ((a.length:Int)+m)=((a.length+m:Nat):Int):=zab _ (by omega);have h0:(0:Int)<=(a.length:Int)+m:=by omega
 have h2:(a.length:Int)+m<=4294967296:=by omega
 have h3:((a.length:Int)+m).toNat=a.length+m:=by omega
 rw[zaa Zr.h106 rfl,b106];simp[hw,h0,h2,h3,Yc]
def zdc(a:List UInt32)(m:Nat)(hl:a.length+m<=4294967296):Z1 T 2106 [.sl (Zb a) .an,.i .i64 (m:Int)] [] =
  some (.bs (.loc 10) 1 1 0 (a.length+m),[(.loc 10,⟨1,.own,1,Zb (a++List.replicate m 0)⟩)]):=by
 have hw:IntKind.wrap .i64 ((a.length:Int)+m)=((a.length+m:Nat):Int):=zab _ (by omega);have h0:(0:Int)<=(a.length:Int)+m:=by omega
 have h2:(a.length:Int)+m<=4294967296:=by omega
 have h3:((a.length:Int)+m).toNat=a.length+m:=by omega
 rw[zad Zr.h2106 rfl,b2106];simp[hw,h0,h2,h3]
def zbo(a:List UInt32)(hl:a.length<=4294967296):Za T 71 [.sl (Zb a) .an]=some (.sl (Zb (ofN (val a))) .an):=by
 have h1:=zac a;have h2:=z0l (T:=T) (ofN (val a)) 0 (by omega);simp only[Ym]at h2;rw[zaa Zr.h71 rfl,b71];simp[zbx a hl,h2]
def zic(n:Nat)(h:n<18446744073709551616):Za T 72 [u64 n]=some (.sl (Zb (ofN n)) .an):=by
 have e2:val [w32 n,w32 (n/4294967296)]=n:=by simp[zel];omega
 have h2:=zbx (T:=T) [w32 n,w32 (n/4294967296)] (by simp);rw[e2]at h2;have h3:n/4294967296%4294967296=n/4294967296:=Y4 (by omega);rw[zaa Zr.h72 rfl,b72];simp[h3,zbw _ _ _ (show n/4294967296<4294967296 by omega),h2]
def zfr(a:List UInt32)(hl:a.length<=4294967296):Za T 70 [.sl (Zb a) .an]=some (.b (decide (val a=0))):=by
 rw[zaa Zr.h70 rfl,b70];have:((((ofN (val a)).length:Int) == 0))=decide (val a=0):=by
  rw[Ycf];simp[zbl]
 simp[zbx a hl,this]
def Zhy(a b:List UInt32)(y:Nat×Nat×List UInt32):St:=
 ⟨[(0,.sl (Zb a) .an),(1,.sl (Zb b) .an),(5,.bs (.fld (.loc 17) 10) 1 1 0 (a.length+1)),(6,u32 y.2.1),(19,.i .i64 a.length),(20,.i .i64 y.1)],
  [(.fld (.loc 17) 10,⟨1,.own,1,Zb y.2.2⟩)],3⟩
def zpx(a b:List UInt32)(hb:b.length<=a.length)(hl:a.length<=1000000):∀y:Nat×Nat×List UInt32,
  (y.1<=a.length/\y.2.1<=1/\y.2.2.length=a.length+1/\val (y.2.2.take y.1)+4294967296^y.1*y.2.1=val (a.take y.1)+val (b.take y.1)) ->
  ∃r,(∃(c:Nat) (out:List UInt32),r=(Ex.n,(⟨[(0,.sl (Zb a) .an),(5,.bs (.fld (.loc 17) 10) 1 1 0 (a.length+1)),(6,u32 c)],[(.fld (.loc 17) 10,⟨1,.own,1,Zb out⟩)],3⟩:St)) /\
   out.length=a.length+1/\c<=1/\val (out.take a.length)+4294967296^a.length*c=val a+val b)/\Zx T 0 0 (.norm false [0,5,6]) l85_0 (Zhy a b y)=some r:=by
 refine zay _ _ (fun y=>a.length-y.1) _ ?_
 rintro⟨i,c,out⟩ ⟨hi,hc,ho,hv⟩
 simp only at hi hc ho hv;by_cases h0:i<a.length
 ·left;have ha:a[i]? = some (a[i]'h0):=Ya h0;have hoi:i<out.length:=by omega
  have hog:out[i]? = some (out[i]'hoi):=Ya hoi;have hw:IntKind.wrap .i64 ((i:Int)+1)=((i+1:Nat):Int):=zab _ (by omega);have hc2:c<4294967296:=by omega
  have hil:(i:Int)<(a.length:Int)+1:=by omega
  have h1:=zag ha;by_cases h2:i<b.length
  ·have hbg:b[i]? = some (b[i]'h2):=Ya h2;have h3:=zag hbg;refine⟨(i+1,((a[i]'h0).toNat+(b[i]'h2).toNat+c)/4294967296,out.set i (w32 ((a[i]'h0).toNat+(b[i]'h2).toNat+c))),⟨by simp only;omega,?_,by simp[ho],?_⟩,by simp only;omega,?_⟩
   ·have:=zam (a[i]'h0);have:=zam (b[i]'h2);simp only;omega
   ·simp only;rw[zc1 _ hoi,h1,h3,zel,Yap];generalize 4294967296^i=p at *
    generalize (a[i]'h0).toNat=x at *
    generalize (b[i]'h2).toNat=z at *
    have e:=Ycb (x+z+c) 4294967296;have e2:p*((x+z+c)%4294967296)+p*4294967296*((x+z+c)/4294967296)=p*(x+z+c):=by
     conv=>rhs;rw[<-e]
     rw[Yar,Ya3];omega
    rw[Yar,Yar]at e2;omega
   ·simp[l85_0,Zhy,h0,h2,hog,hw,hil,ze6,hc2]
  ·have h3:val (b.take (i+1))=val (b.take i):=by rw[zbt (by omega),zbt (by omega)]
   refine⟨(i+1,((a[i]'h0).toNat+0+c)/4294967296,out.set i (w32 ((a[i]'h0).toNat+0+c))),⟨by simp only;omega,?_,by simp[ho],?_⟩,by simp only;omega,?_⟩
   ·have:=zam (a[i]'h0);simp only;omega
   ·simp only;rw[zc1 _ hoi,h1,h3,zel,Yap];generalize 4294967296^i=p at *
    generalize (a[i]'h0).toNat=x at *
    have e:=Ycb (x+0+c) 4294967296;have e2:p*((x+0+c)%4294967296)+p*4294967296*((x+0+c)/4294967296)=p*(x+0+c):=by
     conv=>rhs;rw[<-e]
     rw[Yar,Ya3];omega
    rw[Yar,Yar]at e2;omega
   ·simp[l85_0,Zhy,h0,h2,hog,hw,hil,ze6,hc2]
 ·right;have:i=a.length:=by omega
  subst this;rw[Yc (Yh _),Yc hb]at hv;refine⟨_,⟨c,out,rfl,ho,hc,hv⟩,?_,?_⟩<;>simp[l85_0,Zhy]
def z0m(a b:List UInt32)(hb:b.length<=a.length)(hl:a.length<=1000000):Za T 85 [.sl (Zb a) .an,.sl (Zb b) .an]=some (.sl (Zb (ofN (val a+val b))) .an):=by
 have hf:=zdc (T:=T) a 1 (by omega);simp only[Yc6]at hf;obtain⟨_,⟨c,out,rfl,ho,hc,hv⟩,hr⟩:=zpx (T:=T) a b hb hl (0,0,a++List.replicate 1 0) ⟨Yx _,Yx _,by simp,by simp⟩;unfold Zhy at hr;simp at hr;have hog:out[a.length]? = some (out[a.length]'(by omega)):=Ya _;have h1:¬ (a.length:Int)<b.length:=by omega
 have h2:¬ a.length<b.length:=by omega
 have h3:(a.length:Int)<(a.length:Int)+1:=by omega
 have hval:val (out.set a.length (w32 c))=val a+val b:=by
  rw[<-Yc (l:=out.set a.length (w32 c)) (i:=a.length+1) (by simp;omega),zc1 _ (by omega),zah (by omega)];exact hv
 have ht:=zbx (T:=T) (out.set a.length (w32 c)) (by simp;omega);rw[hval]at ht;have htk:List.take (a.length+1) (out.set a.length (w32 c))=out.set a.length (w32 c):=Yc (by simp;omega);rw[zaa Zr.h85 rfl,b85];simp[h1,hf,hr,h3,zbw _ _ _ (show c<4294967296 by omega),htk,ht,ho]
def zwj(a b:List UInt32)(hb:a.length<b.length)(hl:b.length<=1000000):Za T 85 [.sl (Zb a) .an,.sl (Zb b) .an]=some (.sl (Zb (ofN (val a+val b))) .an):=by
 have hf:=zdc (T:=T) b 1 (by omega);simp only[Yc6]at hf;obtain⟨_,⟨c,out,rfl,ho,hc,hv⟩,hr⟩:=zpx (T:=T) b a (by omega) hl (0,0,b++List.replicate 1 0) ⟨Yx _,Yx _,by simp,by simp⟩;unfold Zhy at hr;simp at hr;have hog:out[b.length]? = some (out[b.length]'(by omega)):=Ya _;have h1:(a.length:Int)<b.length:=by omega
 have h3:(b.length:Int)<(b.length:Int)+1:=by omega
 have hval:val (out.set b.length (w32 c))=val a+val b:=by
  rw[<-Yc (l:=out.set b.length (w32 c)) (i:=b.length+1) (by simp;omega),zc1 _ (by omega),zah (by omega),hv,Ybi]
 have ht:=zbx (T:=T) (out.set b.length (w32 c)) (by simp;omega);rw[hval]at ht;have htk:List.take (b.length+1) (out.set b.length (w32 c))=out.set b.length (w32 c):=Yc (by simp;omega);rw[zaa Zr.h85 rfl,b85];simp[h1,hf,hr,h3,zbw _ _ _ (show c<4294967296 by omega),htk,ht,ho]
def z3x(a b:List UInt32)(ha:a.length<=1000000)(hb:b.length<=1000000):Za T 85 [.sl (Zb a) .an,.sl (Zb b) .an]=some (.sl (Zb (ofN (val a+val b))) .an):=by
 rcases Yy a.length b.length with h | h
 ·exact zwj a b h hb
 ·exact z0m a b h ha
def Zgt(l:List (List UInt32)):Nat:=(l.map val).sum
def z3y(K:Nat):∀m:List (List UInt32),m.length<=1000->(∀a∈m,a.length<=K)->(ofN (Zgt m)).length<=K+1:=by
 intro m hm hw;apply zap;rw[Yap];have hp0:0<4294967296^K:=Ybs (by decide);have hall:∀a∈m,val a<4294967296^K:=fun a ha=>Yt (za6 a) (Yag (by decide) (hw a ha));generalize 4294967296^K=p at *
 have h1:Zgt m<=m.length*p:=by
  clear hm hw
  induction m with
  | nil=>simp[Zgt]
  | cons a m ih=>
   have h2:=ih fun a ha=>hall a (Yk _ ha);have h3:=hall a Yv;simp only[Zgt,Y9,Yey,Yg,Ybb,Ydy]at h2 ⊢;omega
 have h6:=Yaa p hm;omega
def z3z(l:List (List UInt32))(hl:l.length<=1000)(hw:∀a∈l,a.length<=90000):∀i:Nat,i<=l.length ->
  Zx T 0 0 (.norm false [3]) l56_0 ⟨[(3,.sl (Zb (ofN (Zgt (l.take i)))) .an),(6,.sl (lls l) .an),(7,.i .i64 l.length),(8,.i .i64 i)],[],2⟩=some (.n,⟨[(3,.sl (Zb (ofN (Zgt l))) .an)],[],2⟩):=by
 refine zbg (fun i:Nat=>⟨[(3,.sl (Zb (ofN (Zgt (l.take i)))) .an),(6,.sl (lls l) .an),(7,.i .i64 l.length),(8,.i .i64 i)],[],2⟩) _ (fun i=>l.length-i) _ ?_;intro i hi;by_cases h0:i<l.length
 ·left;have hg:l[i]? = some (l[i]'h0):=Ya h0;have hwr:IntKind.wrap .i64 ((i:Int)+1)=((i+1:Nat):Int):=zab _ (by omega);have hw1:=hw _ (Y7 h0);have ht:=zbx (T:=T) (l[i]'h0) (by omega);have hs:=z3y 90000 (l.take i) (by simp;omega) fun a ha=>hw a (Ybu ha);have hp:=z3x (T:=T) (ofN (Zgt (l.take i))) (ofN (val (l[i]'h0))) (by omega) (by have:=zac (l[i]'h0);omega);rw[zae,zae]at hp;have e:Zgt (l.take i)+val (l[i]'h0)=Zgt (l.take (i+1)):=by
   unfold Zgt;rw[Ycd,hg];simp only[Yd6,Ybp,Y9,Yb5,List.sum_append,Yey,List.sum_nil,Yaj]
  rw[e]at hp;have hz:Zkk 1 (lls l)=true:=by cases l<;>simp[lls,Zkk]
  refine⟨i+1,h0,by show l.length-(i+1)<l.length-i;omega,?_,rfl⟩;simp[l56_0,h0,ht,hp,hwr]
 ·right;have:i=l.length:=by omega
  subst this;rw[Yc (Yh _)];constructor<;>simp[l56_0]
def z30(l:List (List UInt32))(hl:l.length<=1000)(hw:∀a∈l,a.length<=90000):Za T 56 [.sl (lls l) .an]=some (.sl (Zb (ofN (Zgt l))) .an):=by
 have h:=z3z (T:=T) l hl hw 0 (Yx _);simp[Zgt]at h;rw[zaa Zr.h56 rfl,b56];simp[h,Zgt]
end
section
variable{T:Tbl}
def z32(a b:List UInt32)(hab:a.length=b.length)(hl:a.length<=1000000):∀m:Nat,m<=a.length ->
  Zx T 0 1 (.norm false []) l87_0 ⟨[(0,.sl (Zb a) .an),(1,.sl (Zb b) .an),(5,.i .i64 ((m:Int)-1))],[],2⟩ =
   if val (a.take m)<val (b.take m) then some (.r,⟨[(4,.i .i64 (-1))],[],2⟩) else if val (b.take m)<val (a.take m) then some (.r,⟨[(4,.i .i64 1)],[],2⟩) else some (.n,⟨[],[],2⟩):=by
 refine zbg (fun m:Nat=>⟨[(0,.sl (Zb a) .an),(1,.sl (Zb b) .an),(5,.i .i64 ((m:Int)-1))],[],2⟩) _ (fun m=>m) _ ?_;intro m hm;cases m with
 | zero=>
  right;constructor<;>simp[l87_0]
 | succ i=>
  have ha:a[i]? = some (a[i]'(by omega)):=Ya _;have hb:b[i]? = some (b[i]'(by omega)):=Ya _;have hia:i<a.length:=by omega
  have hib:i<b.length:=by omega
  have hw:IntKind.wrap .i64 ((i:Int)-1)=(i:Int)-1:=zab _ (by omega);rcases Ybd (a[i]'hia).toNat (b[i]'hib).toNat with h1 | h1 | h1
  ·right;have h2:=z1l ha hb h1;constructor<;>simp[l87_0,hia,hib,h1,h2]
  ·left;refine⟨i,by omega,Y2 i,?_,?_⟩
   ·simp[l87_0,hia,hib,h1,hw]
   ·have e1:=zag ha;have e2:=zag hb;rw[e1,e2,h1];have e3:(val (a.take i)+4294967296^i*(b[i]'hib).toNat<val (b.take i)+4294967296^i*(b[i]'hib).toNat)=(val (a.take i)<val (b.take i)):=by
     apply propext;omega
    have e4:(val (b.take i)+4294967296^i*(b[i]'hib).toNat<val (a.take i)+4294967296^i*(b[i]'hib).toNat)=(val (b.take i)<val (a.take i)):=by
     apply propext;omega
    simp only[e3,e4]
  ·right;have h2:=z1l hb ha h1;have h3:¬ val (a.take (i+1))<val (b.take (i+1)):=by omega
   have h4:¬ (a[i]'hia).toNat<(b[i]'hib).toNat:=by omega
   constructor<;>simp[l87_0,hia,hib,h1,h2,h3,h4]
end
section
variable{T:Tbl}[Zr T]
def zhw(a b:List UInt32)(ha:a.length<=1000000)(hb:b.length<=1000000):Za T 87 [.sl (Zb a) .an,.sl (Zb b) .an]=some (.i .i64 (Zgu (val a) (val b))):=by
 have hta:=zbx (T:=T) a (by omega);have htb:=zbx (T:=T) b (by omega);have hla:=zac a;have hlb:=zac b;rw[zaa Zr.h87 rfl,b87];rcases Ybd (ofN (val a)).length (ofN (val b)).length with h | h | h
 ·have h1:=zh7 h;simp[hta,htb,h,Zgu,h1]
 ·have hc:=z32 (T:=T) (ofN (val a)) (ofN (val b)) h (by omega) (ofN (val a)).length (Yh _);rw[Yc (Yh _),Yc (by omega),zae,zae]at hc;have hw:IntKind.wrap .i64 (((ofN (val a)).length:Int)-1)=((ofN (val a)).length:Int)-1:=zab _ (by omega);have h1:¬ (ofN (val a)).length<(ofN (val b)).length:=by omega
  have h2:¬ (ofN (val b)).length<(ofN (val a)).length:=by omega
  simp[hta,htb,h1,h2,hw,hc,Zgu]
  repeat' split
  all_goals simp
 ·have h1:=zh7 h;have h2:¬ val a<val b:=by omega
  have h3:¬ (ofN (val a)).length<(ofN (val b)).length:=by omega
  simp[hta,htb,h,Zgu,h1,h2,h3]
def Zky(a b:List UInt32)(y:Nat×Nat×List UInt32):St:=
 ⟨[(0,.sl (Zb a) .an),(1,.sl (Zb b) .an),(6,.bs (.fld (.loc 19) 10) 1 1 0 a.length),(7,u32 y.2.1),(21,.i .i64 a.length),(22,.i .i64 y.1)],
  [(.fld (.loc 19) 10,⟨1,.own,1,Zb y.2.2⟩)],3⟩
def z33(a b:List UInt32)(hb:b.length<=a.length)(hl:a.length<=1000000):∀y:Nat×Nat×List UInt32,
  (y.1<=a.length/\y.2.1<=1/\y.2.2.length=a.length/\val (y.2.2.take y.1)+val (b.take y.1)=val (a.take y.1)+4294967296^y.1*y.2.1) ->
  ∃r,(∃(c:Nat) (out:List UInt32),r=(Ex.n,(⟨[(6,.bs (.fld (.loc 19) 10) 1 1 0 a.length)],[(.fld (.loc 19) 10,⟨1,.own,1,Zb out⟩)],3⟩:St)) /\
   out.length=a.length/\c<=1/\val out+val b=val a+4294967296^a.length*c)/\Zx T 0 0 (.norm false [6]) l88_0 (Zky a b y)=some r:=by
 refine zay _ _ (fun y=>a.length-y.1) _ ?_
 rintro⟨i,c,out⟩ ⟨hi,hc,ho,hv⟩
 simp only at hi hc ho hv;by_cases h0:i<a.length
 ·left;have ha:a[i]? = some (a[i]'h0):=Ya h0;have hoi:i<out.length:=by omega
  have hog:out[i]? = some (out[i]'hoi):=Ya hoi;have hw:IntKind.wrap .i64 ((i:Int)+1)=((i+1:Nat):Int):=zab _ (by omega);have hc2:c<4294967296:=by omega
  have hx:=zam (a[i]'h0);have h1:=zag ha;have fin:∀z:Nat,z<4294967296->val (b.take (i+1))=val (b.take i)+4294967296^i*z ->
    val ((out.set i (w32 ((a[i]'h0).toNat+8589934592-(z+c)))).take (i+1))+val (b.take (i+1))=val (a.take (i+1))+4294967296^(i+1)*(2-((a[i]'h0).toNat+8589934592-(z+c))/4294967296):=by
   intro z hz h3;have hs:=(zno hx hz hc).1;rw[zc1 _ hoi,h1,h3,zel,Yap];generalize 4294967296^i=p at *
   generalize (a[i]'h0).toNat=x at *
   generalize (x+8589934592-(z+c))%4294967296=s at *
   generalize 2-(x+8589934592-(z+c))/4294967296=d at *
   have e2:p*s+p*(z+c)=p*x+p*4294967296*d:=by rw[<-Yar,hs,Yar,Ya3]
   rw[Yar]at e2;omega
  by_cases h2:i<b.length
  ·have hbg:b[i]? = some (b[i]'h2):=Ya h2;have h3:=zag hbg;refine⟨(i+1,2-((a[i]'h0).toNat+8589934592-((b[i]'h2).toNat+c))/4294967296,out.set i (w32 ((a[i]'h0).toNat+8589934592-((b[i]'h2).toNat+c)))),⟨h0,(zno hx (zam _) hc).2,by simp[ho],fin _ (zam _) h3⟩,by simp only;omega,?_⟩;simp[l88_0,Zky,h0,h2,hog,hw,zg4,hc2]
  ·have h3:val (b.take (i+1))=val (b.take i)+4294967296^i*0:=by rw[zbt (by omega),zbt (by omega)];simp
   refine⟨(i+1,2-((a[i]'h0).toNat+8589934592-(0+c))/4294967296,out.set i (w32 ((a[i]'h0).toNat+8589934592-(0+c)))),⟨h0,(zno hx (by decide) hc).2,by simp[ho],fin 0 (by decide) h3⟩,by simp only;omega,?_⟩;simp[l88_0,Zky,h0,h2,hog,hw,zg4,hc2]
 ·right;have:i=a.length:=by omega
  subst this;rw[Yc (Yh _),Yc hb,Yc (by omega)]at hv;refine⟨_,⟨c,out,rfl,ho,hc,hv⟩,?_,?_⟩<;>simp[l88_0,Zky]
def zej{x y:Nat}:Zgu x y<0↔x<y:=by
 unfold Zgu;split
 ·simp[*]
 ·split<;>simp[*]
def z0n(a b:List UInt32)(ha:a.length<=1000000)(hb:b.length<=1000000):Za T 88 [.sl (Zb a) .an,.sl (Zb b) .an] =
  some (if val a<val b then .tup [.sl [] .an,.b false] else .tup [.sl (Zb (ofN (val a-val b))) .an,.b true]):=by
 have hta:=zbx (T:=T) a (by omega);have htb:=zbx (T:=T) b (by omega);have hla:=zac a;have hlb:=zac b;have hc:=zhw (T:=T) (ofN (val a)) (ofN (val b)) (by omega) (by omega);rw[zae,zae]at hc;rw[zaa Zr.h88 rfl,b88];by_cases h:val a<val b
 ·simp[hta,htb,hc,zej,h]
 ·have hle:=zbm (show val b<=val a by omega);have hf:=zdc (T:=T) (ofN (val a)) 0 (by omega);simp only[Ym,Yaj,Yci,Yau]at hf;obtain⟨_,⟨c,out,rfl,ho,hc1,hv⟩,hr⟩:=z33 (T:=T) (ofN (val a)) (ofN (val b)) hle (by omega) (0,0,ofN (val a)) ⟨Yx _,Yx _,rfl,by simp⟩;unfold Zky at hr;simp at hr;rw[zae,zae]at hv;have hlt:=za6 out;rw[ho]at hlt;have hc0:c=0:=by
   rcases Ybr c with h1 | h1
   ·exact h1
   ·have:c=1:=by omega
    subst this;omega
  subst hc0;have hval:val out=val a-val b:=by omega
  have ht:=zbx (T:=T) out (by omega);rw[hval]at ht;have htk:List.take (ofN (val a)).length out=out:=Yc (by omega);simp[hta,htb,hc,zej,h,hf,hr,ho,htk,ht]
def z8s(a b:List UInt32)(ha:a.length<=1000000)(hb:b.length<=1000000):Za T 57 [.sl (Zb a) .an,.sl (Zb b) .an] =
  some (.tup [.sl (Zb (ofN (if val a<val b then val b-val a else val a-val b))) .an,.i .i64 (Zgu (val a) (val b))]):=by
 have hc:=zhw (T:=T) a b ha hb;rw[zaa Zr.h57 rfl,b57];by_cases h:val a<val b
 ·have h2:¬ val b<val a:=by omega
  have hs:=z0n (T:=T) b a hb ha;rw[if_neg h2]at hs;simp[hc,zej,h,hs]
 ·have hs:=z0n (T:=T) a b ha hb;rw[if_neg h]at hs;simp[hc,zej,h,hs]
def z34{x y:Nat}(hx:x<4294967296):x ||| (y*4294967296)=x+y*4294967296:=by
 have:=Ycr (i:=32) hx y;rw[Nat.or_comm,Yas y,show (4294967296:Nat)=2^32 from rfl,<-this];omega
end
section
variable{T:Tbl}
def zwk(l:List UInt32)(hl:l.length<=2):∀i:Nat,i<=l.length ->
  Zx T 0 0 (.norm false [4]) l73_0 ⟨[(4,u64 (val (l.take i))),(12,.sl (Zb l) .an),(13,.i .i64 l.length),(14,.i .i64 i)],[],2⟩=some (.n,⟨[(4,u64 (val l))],[],2⟩):=by
 refine zbg (fun i:Nat=>⟨[(4,u64 (val (l.take i))),(12,.sl (Zb l) .an),(13,.i .i64 l.length),(14,.i .i64 i)],[],2⟩) _ (fun i=>l.length-i) _ ?_;intro i hi;by_cases h0:i<l.length
 ·left;have hg:l[i]? = some (l[i]'h0):=Ya h0;have hx:=zam (l[i]'h0);have h1:=zag hg;refine⟨i+1,h0,by show l.length-(i+1)<l.length-i;omega,?_,rfl⟩;rcases(show i=0\/i=1 by omega) with rfl | rfl
  ·simp[l73_0,h0,h1]
  ·have h2:val (l.take 1)<4294967296:=by
    have:=za6 (l.take 1);have h3:(l.take 1).length=1:=by simp;omega
    rw[h3]at this;simpa using this
   have e1:(l[1]'h0).toNat*4294967296%18446744073709551616=(l[1]'h0).toNat*4294967296:=Y4 (by omega);have e2:=z34 (y:=(l[1]'h0).toNat) h2;have e3:(val (l.take 1)+(l[1]'h0).toNat*4294967296)%18446744073709551616=val (l.take 1)+(l[1]'h0).toNat*4294967296:=Y4 (by omega);have e4:val (l.take 1)+(l[1]'h0).toNat*4294967296=val (l.take (1+1)):=by rw[h1];omega
   simp at e4;have h0':(1:Int)<(l.length:Int):=by omega
   have e5:val (List.take 2 l)<18446744073709551616:=by omega
   simp[l73_0,h0,h0',e1,e2,e4,e5]
 ·right;have:i=l.length:=by omega
  subst this;rw[Yc (Yh _)];constructor<;>simp[l73_0]
end
section
variable{T:Tbl}[Zr T]
def zpy(a:List UInt32)(ha:a.length<=1000000):Za T 73 [.sl (Zb a) .an] =
  some (if val a<18446744073709551616 then .tup [u64 (val a),.b true] else .tup [u64 0,.b false]):=by
 have hta:=zbx (T:=T) a (by omega);have hla:=zac a;have hv:=zae (val a);rw[zaa Zr.h73 rfl,b73];generalize hl:ofN (val a)=l at *
 by_cases h:2<l.length
 ·have h2:¬ val a<18446744073709551616:=by
   intro h3;have:=zap (show val a<4294967296^2 from h3);rw[hl]at this;omega
  have h3:(2:Int)<(l.length:Int):=by omega
  simp[hta,h3,h2]
 ·have h2:val a<18446744073709551616:=by
   have:=za6 l;rw[hv]at this;have h3:4294967296^l.length<=4294967296^2:=Yag (by decide) (by omega);omega
  have h3:¬ (2:Int)<(l.length:Int):=by omega
  have hs:=zwk (T:=T) l (by omega) 0 (Yx _);simp at hs;simp[hta,h3,h2,hs,hv]
end
section
def l89_0:AX:=QZ "3qMsQhkE3lq3BlmK8r3CP00pK.mWTdoDW7WlPjj22fdyKCewjgmR3RyMRMAY1HW1T6fU8Hn4POZ1pYKOKxW5NIRWku5Od6YZ.fe"
def b89:AX:=(fun p0=>QY [p0] [] "9sZVZIpznbv6LOuSaJWYefaGKIOC3Vc2WsKcBSyZ2") l89_0
def l60_0:AX:=QZ "07e_oG7BRn4abd.KbgwPurz0.jeUpTr4USX4_xrnAaHnRBND3j60Xfd"
def b60:AX:=(fun p0=>QY [p0] [] "vyMEZSYJZkklIJRjCWlNUlir5GWayrwtY7WPzxyvZ_BCMsUTcirKaqlF") l60_0
abbrev row89:AFx:=⟨5,45,[],b89,(some [true,false,false,false,false]),false⟩
abbrev row60:AFx:=⟨2,30,[.t 4],b60,none,false⟩
class Zv (T:Tbl):Prop extends Zr T where
 h89:Tr T 89=some row89
 h60:Tr T 60=some row60
attribute [simp] Zv.h89 Zv.h60
end
section
def l92_0:AX:=QZ "QLfcBhsB2yEEbvldcVhcSOGlsOGe1mkTs8tknmDaO4L6nwYlgZ3G.PBbf_K7ZNBW078hwrQ.mOSHBgiyVtXiz7KLHcz4vSupwXVR4q459ADKQd"
def b92:AX:=(fun p0=>QY [p0] [(AV.i .i64 4096)] "1mZlAEfLBccb3PZeUYltijcrg_OFmnN_tqEvPN4Xt9718NKEKyx0wqa34YaMS8C1KCm6vZzmYPjlJRR8K83hpryqai7CSd_iZR") l92_0
def l94_0:AX:=QZ "33KiyNmEUVV8conuRb7.hMik75O2LmQaCh3mNDkip7kLklPA.dk9E54hPjxneyAD6PPYeb6ETGXb8ki8mcP4KYdqcbM.HDb4hGu0ER_BjLOdH_Uvb9kBRd3uQBr.a8q2_"
def b94:AX:=(fun p0=>QY [p0] [] "e0va2sewT.qq7ROGVk9G6KjtgCqyQZL16k5qDtE5Xw5TIE.nV3vC8KiTkYpgaFtM7WdUafdKJew9kY4cKUfulhxBWcUvzViAou7w0QeghY32kz") l94_0
abbrev row92:AFx:=⟨2,57,[.t 4],b92,none,false⟩
abbrev row94:AFx:=⟨2,65,[.t 4],b94,none,false⟩
class Zw (T:Tbl):Prop where
 h92:Tr T 92=some row92
 h94:Tr T 94=some row94
attribute [simp] Zw.h92 Zw.h94
end
def zhx{P m S:List UInt32}{i:Nat}(hm:m.length=i)(hi:i<S.length):(P++(m++S.drop i))[P.length+i]? = some (S[i]'hi):=by
 rw[Yi (by omega),Ybw,Yi (by omega),hm,Yb0,Ya0,Yaj,Ya hi]
def zhy{P m S:List UInt32}{i:Nat}(w:UInt32)(hm:m.length=i)(hi:i<S.length):(P++(m++S.drop i)).set (P.length+i) w=P++((m++[w])++S.drop (i+1)):=by
 rw[Ya1 (P.length+i) w (by omega),Ybw,Ya1 i w (by omega),hm,Yb0,Yo hi,Yb7];simp
section
variable{T:Tbl}[Zv T]
def Zln(P S a:List UInt32)(x:Nat)(y:Nat×Nat×List UInt32):St:=
 ⟨[(0,.bs (.bor 0) 0 1 0 (P.length+S.length)),(1,.i .i64 P.length),(2,.sl (Zb a) .an),(3,u32 x),(4,u32 y.2.1),(12,.sl (Zb a) .an),(13,.i .i64 a.length),(14,.i .i64 y.1)],
  [(.bor 0,⟨0,.own,1,Zb (P++(y.2.2++S.drop y.1))⟩)],4⟩
def z35{p m w c c' s x y t v k:Nat}(h:m+p*c=s+x*t+k)(e:w+4294967296*c'=x*y+v+c):(m+p*w)+p*4294967296*c'=(s+p*v)+x*(t+p*y)+k:=by
 have e2:p*w+p*4294967296*c'=p*(x*y)+p*v+p*c:=by rw[Ya3,<-Yar,e,Yar,Yar]
 have e3:x*(t+p*y)=x*t+p*(x*y):=by rw[Yar,<-Ya3,Yas x p,Ya3]
 omega
def z36(P S a:List UInt32)(x c0:Nat)(hx:x<4294967296)(hS:a.length<S.length)(hl:P.length+S.length<=1000000):∀y:Nat×Nat×List UInt32,
  (y.1<=a.length/\y.2.1<4294967296/\y.2.2.length=y.1/\val y.2.2+4294967296^y.1*y.2.1=val (S.take y.1)+x*val (a.take y.1)+c0) ->
  ∃r,(∃(c:Nat) (m:List UInt32),r=(Ex.n,(⟨[(0,.bs (.bor 0) 0 1 0 (P.length+S.length)),(1,.i .i64 P.length),(2,.sl (Zb a) .an),(4,u32 c)],[(.bor 0,⟨0,.own,1,Zb (P++(m++S.drop a.length))⟩)],4⟩:St)) /\
   m.length=a.length/\c<4294967296/\val m+4294967296^a.length*c=val (S.take a.length)+x*val a+c0)/\Zx T 1 0 (.norm false [0,1,2,4]) l89_0 (Zln P S a x y)=some r:=by
 refine zay _ _ (fun y=>a.length-y.1) _ ?_
 rintro⟨i,c,m⟩ ⟨hi,hc,hm,hv⟩
 simp only at hi hc hm hv;by_cases h0:i<a.length
 ·left;have ha:a[i]? = some (a[i]'h0):=Ya h0;have hiS:i<S.length:=by omega
  have hs:S[i]? = some (S[i]'hiS):=Ya hiS;have hg:=zhx (P:=P) hm hiS;have hw:IntKind.wrap .i64 ((i:Int)+1)=((i+1:Nat):Int):=zab _ (by omega);have hw2:IntKind.wrap .i64 ((P.length:Int)+i)=((P.length+i:Nat):Int):=zab _ (by omega);have hlt:P.length+i<P.length+S.length:=by omega
  have hlt2:((P.length+i:Nat):Int)<(P.length:Int)+S.length:=by omega
  have hla:=zam (a[i]'h0);have hls:=zam (S[i]'hiS);have hmul:=zma hx hla;have hlen:(P++(m++S.drop i)).length=P.length+S.length:=by simp;omega
  have hcall:=zkk (T:=T) x (a[i]'h0).toNat (S[i]'hiS).toNat c hx hla hls hc;have hset:=zhy (P:=P) (w32 (x*(a[i]'h0).toNat+(S[i]'hiS).toNat+c)) hm hiS;refine⟨(i+1,(x*(a[i]'h0).toNat+(S[i]'hiS).toNat+c)/4294967296,m++[w32 (x*(a[i]'h0).toNat+(S[i]'hiS).toNat+c)]),⟨h0,by simp only;omega,by simp[hm],?_⟩,by simp only;omega,?_⟩
  ·simp only;rw[zal,zag ha,zag hs,Yap,hm];simp only[zaq,zb0,Ybe,Yaj,zel];exact z35 hv (by have:=Ycb (x*(a[i]'h0).toNat+(S[i]'hiS).toNat+c) 4294967296;omega)
  ·simp[l89_0,Zln,h0,hw,hw2,hiS,hg,hcall,hset]
 ·right;have:i=a.length:=by omega
  subst this;rw[Yc (Yh a.length)]at hv;refine⟨_,⟨c,m,rfl,hm,hc,hv⟩,?_,?_⟩<;>simp[l89_0,Zln]
def z38(P S a:List UInt32)(x c0:Nat)(hx:x<4294967296)(hc:c0<4294967296)(hS:a.length<S.length)(hl:P.length+S.length<=1000000) :
  ∃m,m.length=a.length+1/\val m=val (S.take a.length)+x*val a+c0 /\
   Z1 T 89 [.bs (.bor 0) 0 1 0 (P.length+S.length),.i .i64 P.length,.sl (Zb a) .an,u32 x,u32 c0] [(.bor 0,⟨0,.own,1,Zb (P++S)⟩)] =
    some (.tup [],[(.bor 0,⟨0,.own,1,Zb (P++(m++S.drop (a.length+1)))⟩)]):=by
 obtain⟨_,⟨c,m,rfl,hm,hc1,hv⟩,hr⟩:=z36 (T:=T) P S a x c0 hx hS hl (0,c0,[]) ⟨Yx _,hc,rfl,by simp⟩;unfold Zln at hr;simp at hr;refine⟨m++[w32 c],by simp[hm],by rw[zal,hm];simpa[zah hc1]using hv,?_⟩;have hw2:IntKind.wrap .i64 ((P.length:Int)+a.length)=((P.length+a.length:Nat):Int):=zab _ (by omega);have hlt:P.length+a.length<P.length+S.length:=by omega
 have hlt2:((P.length+a.length:Nat):Int)<(P.length:Int)+S.length:=by omega
 have hg:=zhx (P:=P) hm hS;have hset:=zhy (P:=P) (w32 c) hm hS;rw[zad Zv.h89 rfl,b89];simp[hr,hw2,hg,hS,zbw _ _ _ hc1,hset]
def Zlo(a b:List UInt32)(y:Nat×List UInt32):St:=
 ⟨[(0,.sl (Zb a) .an),(5,.bs (.loc 14) 1 1 0 (a.length+b.length+1)),(15,.sl (Zb b) .an),(16,.i .i64 b.length),(17,.i .i64 y.1)],[(.loc 14,⟨1,.own,1,Zb (y.2++List.replicate (b.length+1-y.1) 0)⟩)],3⟩
def z39(a b:List UInt32)(ha:a.length<=100000)(hb:b.length<=100000):∀y:Nat×List UInt32,
  (y.1<=b.length/\y.2.length=a.length+y.1/\val y.2=val a*val (b.take y.1)) ->
  ∃r,(∃out:List UInt32,r=(Ex.n,(⟨[(5,.bs (.loc 14) 1 1 0 (a.length+b.length+1))],[(.loc 14,⟨1,.own,1,Zb out⟩)],3⟩:St))/\out.length=a.length+b.length+1/\val out=val a*val b) /\
   Zx T 0 0 (.norm false [5]) l60_0 (Zlo a b y)=some r:=by
 refine zay _ _ (fun y=>b.length-y.1) _ ?_
 rintro⟨i,X⟩ ⟨hi,hX,hv⟩
 simp only at hi hX hv;by_cases h0:i<b.length
 ·left;have hbg:b[i]? = some (b[i]'h0):=Ya h0;have hw:IntKind.wrap .i64 ((i:Int)+1)=((i+1:Nat):Int):=zab _ (by omega);obtain⟨m,hm1,hm2,hc⟩:=z38 (T:=T) (X.take i) (X.drop i++List.replicate (b.length+1-i) 0) a (b[i]'h0).toNat 0 (zam _) (by decide) (by simp;omega) (by simp;omega);have e1:X.take i++(X.drop i++List.replicate (b.length+1-i) 0)=X++List.replicate (b.length+1-i) 0:=by rw[<-Yz,Yaw]
  have e2:(X.take i).length=i:=by simp;omega
  have e3:(X.drop i++List.replicate (b.length+1-i) 0).length=a.length+b.length+1-i:=by simp;omega
  have e4:i+(a.length+b.length+1-i)=a.length+b.length+1:=by omega
  have e5:(X.drop i++List.replicate (b.length+1-i) 0).drop (a.length+1)=List.replicate (b.length+1-(i+1)) 0:=by
   rw[List.drop_append,Ybk (by simp;omega),List.drop_replicate];simp only[Yal,Yb3];congr 1;omega
  have e6:(X.drop i++List.replicate (b.length+1-i) 0).take a.length=X.drop i:=by
   rw[Ydn (by simp;omega),Yc (by simp;omega)]
  rw[e1,e2,e3,e4,e5]at hc;rw[e6]at hm2;simp only[<-Yz]at hc;refine⟨(i+1,X.take i++m),⟨h0,by simp only[Yp,e2,hm1];omega,?_⟩,by simp only;omega,?_⟩
  ·simp only;have e7:=zal (X.take i) (X.drop i);rw[Yaw,e2]at e7;rw[zal,e2,hm2,zag hbg,Yar (val a),<-hv,e7,Yar,Yar];have e8:4294967296^i*((b[i]'h0).toNat*val a)=val a*(4294967296^i*(b[i]'h0).toNat):=by
    rw[Yas (b[i]'h0).toNat,<-Ya3,Yas (4294967296^i) (val a),Ya3]
   rw[e8];omega
  ·simp[l60_0,Zlo,h0,hw,hc]
 ·right;have:i=b.length:=by omega
  subst this;rw[Yc (Yh _)]at hv;refine⟨_,⟨X++List.replicate (b.length+1-b.length) 0,rfl,by simp;omega,by rw[zal,zem,hv];simp⟩,?_,?_⟩<;>simp[l60_0,Zlo]
def zfs(a b:List UInt32)(ha:a.length<=100000)(hb:b.length<=100000):Za T 60 [.sl (Zb a) .an,.sl (Zb b) .an]=some (.sl (Zb (ofN (val a*val b))) .an):=by
 obtain⟨_,⟨out,rfl,ho,hv⟩,hr⟩:=z39 (T:=T) a b ha hb (0,List.replicate a.length 0) ⟨Yx _,by simp,by simp[zem]⟩;unfold Zlo at hr;simp at hr;have hw1:IntKind.wrap .i64 ((a.length:Int)+b.length)=(a.length:Int)+b.length:=zab _ (by omega);have hw:IntKind.wrap .i64 ((a.length:Int)+b.length+1)=(a.length:Int)+b.length+1:=zab _ (by omega);have hle:(a.length:Int)+b.length+1<=4294967296:=by omega
 have hn:=zbo (T:=T) out (by omega);rw[hv]at hn;have htk:List.take (a.length+b.length+1) out=out:=Yc (by omega);have he:a.length+(b.length+1)=a.length+b.length+1:=by omega
 rw[he]at hr;rw[zaa Zv.h60 rfl,b60];simp[hw,hw1,hle,hr,ho,htk,hn]
end
end Go.Ab