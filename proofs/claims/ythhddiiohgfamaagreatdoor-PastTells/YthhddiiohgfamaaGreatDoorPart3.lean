/-
  A calculus of values, boxes and code, and what functions of the program compute, proved in it.
  Conditions: none beyond those that the theorems state. (Part 3.)
-/
import Derived.Test.YthhddiiohgfamaaGreatDoorPart2

set_option linter.unusedSectionVars false
set_option linter.unusedVariables false
set_option linter.unusedSimpArgs false
set_option linter.unnecessarySimpa false
set_option linter.defProp false
set_option maxRecDepth 100000

namespace Go.Ab
section
open Go.RowKit
theorem zih(l:List AV)(j:Nat):(wkR l)[j]? = (l[j]?).map wkA:=by
 induction l generalizing j with
 | nil=>simp[wkR]
 | cons c l ih=>cases j<;>simp[wkR,ih]
theorem zii(l:List AV):(wkR l).length=l.length:=by
 induction l with
 | nil=>rfl
 | cons c l ih=>simp[wkR,ih]
theorem zij(l:List AV):wkR l=l.map wkA:=by
 induction l with
 | nil=>rfl
 | cons c l ih=>simp[wkR,ih]
theorem zb3(l:List (List AV)):wkL l=l.map wkR:=by
 induction l with
 | nil=>rfl
 | cons c l ih=>simp[wkL,ih]
theorem zwt(l:List (List AV))(j:Nat):(wkL l)[j]? = (l[j]?).map wkR:=by rw[zb3];simp
theorem zlp(l:List (List AV)):(wkL l).length=l.length:=by rw[zb3];simp
section
variable{w:World}{S:Nat->Nat->Prop}{M M':Map}{clk clk':Nat}
def CP.wk{v:Value}{x:AV}(h:CP w S v x):CP w S v (wkA x):=by
 induction h with
 | i k n=>exact .i k n
 | b x=>exact .b x
 | s l=>exact .s l
 | raw v=>exact .raw v
 | dead v=>exact .dead v
 | agg vs cs hl h1 _ ih=>
  refine .agg vs _ (by rw[zii];omega) h1 fun j v c hv hc=>?_
  grind[zih]
 | tup vs cs hl _ ih=>
  refine .tup vs _ (by rw[zii];omega) fun j v c hv hc=>?_
  grind[zih]
 | slnil f hf=>exact .slnil _ (.inr rfl)
 | slz a f hf=>exact .slz a _ (.inr rfl)
 | sl blk off z cap els f u hf hfull hcap hmax hz hSc _ ih=>
  rw[<-zlp els];refine .sl blk off z cap _ _ u (by grind) (by grind) (by rw[zlp];omega) hmax (fun i r hr=>?_) (fun i j hi hj=>hSc i j (by rw[zlp]at hi;omega) hj) fun i r j c hr hc=>?_
  ·grind[zwt,zii]
  grind[zwt,zih]
 | ep blk off cs o u hSc _ ih=>exact .ep blk off cs o u hSc ‹_›
 | fnv f v x _ ih=>exact .fnv f v _ ih
def C.wk{v:Value}{x:AV}(h:C w S M clk v x):C w S M clk v (wkA x):=by
 induction h with
 | p h=>exact .p h.wk
 | bs id g z off n v hg h h1=>exact .bs id g z off n v hg h h1
 | ptr id g z i o v hg h h1=>exact .ptr id g z i o v hg h h1
 | agg vs cs hl h1 _ ih=>
  refine .agg vs _ (by rw[zii];omega) h1 fun j v c hv hc=>?_
  grind[zih]
 | tup vs cs hl _ ih=>
  refine .tup vs _ (by rw[zii];omega) fun j v c hv hc=>?_
  grind[zih]
 | ifc t v x h _=>exact .ifc t v x h
 | fnp f id g z i o v hg h h1=>exact .fnp f id g z i o v hg h h1
theorem CP.wkIf{v:Value}{x:AV}(ex:Bool)(h:CP w S v x):CP w S v (wkIf ex x):=by
 unfold Go.Ab.wkIf;split
 ·exact h
 ·exact h.wk
theorem C.wkIf{v:Value}{x:AV}(ex:Bool)(h:C w S M clk v x):C w S M clk v (wkIf ex x):=by
 unfold Go.Ab.wkIf;split
 ·exact h
 ·exact h.wk
structure Rlb (M M':Map) (clk clk':Nat) (σ:Nat->Nat):Prop where
 fwd:∀g,g<clk->(M' (σ g)=M g\/M' (σ g)=none)/\σ g<clk'
theorem C.rlC{v:Value}{x:AV}{σn:BId->BId}{σg:Nat->Nat}(hr:Rlb M M' clk clk' σg)(h:C w S M clk v x):C w S M' clk' v (rlC σn σg x):=by
 cases h with
 | p h=>
  cases h with
  | i k n=>exact .p (.i k n)
  | b x=>exact .p (.b x)
  | s l=>exact .p (.s l)
  | raw v=>exact .p (.raw v)
  | dead v=>exact .p (.dead v)
  | agg=>exact .p (.dead _)
  | tup=>exact .p (.dead _)
  | slnil f hf=>exact .p (.slnil f hf)
  | slz a f hf=>exact .p (.slz a f hf)
  | sl blk off z cap els f u h1 h2 h3 h4 h5 h6 h7=>exact .p (.sl blk off z cap els f u h1 h2 h3 h4 h5 h6 h7)
  | ep blk off cs o u h1 h2=>exact .p (.ep blk off cs o u h1 h2)
  | fnv f v x h=>exact .p (.fnv f v x h)
 | bs id g z off n v hg h h1=>
  obtain⟨h2,h3⟩:=hr.fwd g hg;refine .bs _ _ _ _ _ _ h3 ?_ h1;rcases h2 with h2 | h2<;>rw[h2]
  ·exact h
  ·trivial
 | ptr id g z i o v hg h h1=>
  obtain⟨h2,h3⟩:=hr.fwd g hg;refine .ptr _ _ _ _ _ _ h3 ?_ h1;rcases h2 with h2 | h2<;>rw[h2]
  ·exact h
  ·trivial
 | fnp f id g z i o v hg h h1=>
  obtain⟨h2,h3⟩:=hr.fwd g hg;refine .fnp _ _ _ _ _ _ _ h3 ?_ h1;rcases h2 with h2 | h2<;>rw[h2]
  ·exact h
  ·trivial
 | agg vs cs=>exact .p (.dead _)
 | tup vs cs=>exact .p (.dead _)
 | ifc t v x=>exact .p (.dead _)
theorem getElem?_mapped{α β:Type}{l:List α}{f:α->β}{j:Nat}{y:β}(h:(l.map f)[j]? = some y):∃x,l[j]? = some x/\y=f x:=by
 grind
theorem C.rl1{v:Value}{x:AV}{σn:BId->BId}{σg:Nat->Nat}(hr:Rlb M M' clk clk' σg)(h:C w S M clk v x):C w S M' clk' v (rl1 σn σg x):=by
 cases x
 case agg cs=>
  obtain⟨vs,rfl,hl,h1,hc⟩:=h.inv_agg;refine .agg vs _ (by grind) h1 fun j v c hv hcj=>?_
  grind[rlC]
 all_goals exact h.rlC (σn:=σn) hr
def C.rlA{v:Value}{x:AV}{σn:BId->BId}{σg:Nat->Nat}(hr:Rlb M M' clk clk' σg)(h:C w S M clk v x):C w S M' clk' v (rlA σn σg x):=by
 cases x
 case tup cs=>
  obtain⟨vs,rfl,hl,hc⟩:=h.inv_tup;refine .tup vs _ (by grind) fun j v c hv hcj=>?_
  grind[rl1]
 all_goals exact h.rl1 (σn:=σn) hr
def Zbx.rl{bx:Box}{ex:Bool}{σn:BId->BId}{σg:Nat->Nat}(hr:Rlb M M' clk clk' σg)(hM:M' (σg bx.gen)=M bx.gen)(h:Zbx w S M clk bx):Zbx w S M' clk' (Zag ex σn σg bx):=by
 obtain⟨h1,h2,m,hm,h3⟩:=h
 -- each row of the new box
 have row:∀(i:Nat) (r:List AV),(Zag ex σn σg bx).els[i]? = some r->∃r0,bx.els[i]? = some r0/\r.length=r0.length/\∀(j:Nat) c,r[j]? = some c->∃c0,r0[j]? = some c0 /\
   ((bx.kind=.str/\c=Go.Ab.rlC σn σg (wkIf ex c0))\/(bx.kind≠.str/\c=wkIf ex c0)):=by
  grind[Zag,getElem?_mapped,wkIf,zb3,zij]
 have hlen:(Zag ex σn σg bx).els.length=bx.els.length:=by
  grind[Zag,zlp]
 refine⟨(hr.fwd _ h1).2,fun r hrm=>?_,m,by rw[<-hm];exact hM,?_⟩
 ·obtain⟨i,hi⟩:=Yal hrm;obtain⟨r0,h4,h5,_⟩:=row i r hi;rw[h5];exact h2 r0 (Yh h4)
 ·cases m with
  | none=>
   grind[Zag]
  | some k=>
   have hkk:(Zag ex σn σg bx).kind=bx.kind:=rfl;by_cases hmp:bx.kind=.mp
   ·obtain⟨es,c,h4,h5,h7⟩:=ckP' hmp h3;refine ckP (hkk.trans hmp) ⟨es,c,h4,?_,h7⟩;have hels:(Zag ex σn σg bx).els=if ex then bx.els else wkL bx.els:=by simp[Zag,hmp]
    rw[hels];cases ex with
    | true=>simpa using h5
    | false=>
     have h8:=Zea.map (f:=wkA) (fun v x hv=>CP.wk hv) h5;simp only[Yac,if_false,zb3]
     rwa [show wkR=fun r:List AV=>r.map wkA from funext zij]
   obtain⟨arr,e,h4,h5,h6,h7,h8⟩:=ck' hmp h3;refine ck (by rw[hkk];exact hmp) ⟨arr,e,h4,by rw[hlen];exact h5,fun i r j c hi hj=>?_,h7,by rw[hlen];exact h8⟩;obtain⟨r0,h9,h10,h11⟩:=row i r hi;obtain⟨c0,h12,h13⟩:=h11 j c hj;obtain⟨u,hu,ho,hC,hP⟩:=h6 i r0 j c0 h9 h12;refine⟨u,hu,ho,?_,fun hk=>?_⟩
   ·rcases h13 with ⟨hk,rfl⟩ | ⟨hk,rfl⟩
    ·exact(hC.wkIf ex).rlC hr
    ·exact .p ((hP hk).wkIf ex)
   ·rcases h13 with ⟨hk',rfl⟩ | ⟨hk',rfl⟩
    ·exact absurd hk' hk
    ·exact(hP hk).wkIf ex
def HeapRel.rl{h h2:Heap}{ex:Bool}{σn:BId->BId}{σg:Nat->Nat}{D:Nat->Prop}(hr:Rlb M M' clk clk' σg)(hh:HeapRel w S M clk h)
  (h1:∀b' bx',h2.lookup b'=some bx'->∃b bx,h.lookup b=some bx/\bx'=Zag ex σn σg bx/\M' (σg bx.gen)=M bx.gen/\b'=σn b/\D bx.gen)
  (h3:∀g' m,M' g'=some m->∃b' bx',h2.lookup b'=some bx'/\bx'.gen=g')
  (h4:∀g1 g2,D g1->D g2->σg g1=σg g2->g1=g2)
  (h5:∀g' m,M' g'=some m->∃g,M g=some m/\σg g=g'):HeapRel w S M' clk' h2:=by
 refine⟨fun b' bx' hb=>?_,h3,fun b1 x1 b2 x2 hb1 hb2 hg=>?_,fun g g' k hg hg'=>?_⟩
 ·obtain⟨b,bx,h6,rfl,h7,_⟩:=h1 b' bx' hb;exact(hh.box b bx h6).rl hr h7
 ·obtain⟨c1,y1,h6,rfl,_,rfl,d1⟩:=h1 b1 x1 hb1;obtain⟨c2,y2,h8,rfl,_,rfl,d2⟩:=h1 b2 x2 hb2;rw[hh.gens _ _ _ _ h6 h8 (h4 _ _ d1 d2 hg)]
 ·obtain⟨g1,h6,rfl⟩:=h5 _ _ hg;obtain⟨g2,h7,rfl⟩:=h5 _ _ hg';rw[hh.inj _ _ _ h6 h7]
def WRel.rl{cx:Cx}{h h2:Heap}{ex:Bool}{σn:BId->BId}{σg:Nat->Nat}{D:Nat->Prop}(hr:Rlb M M' clk clk' σg)(hw:WRel cx S M clk h w)(hc:cx.clk0<=clk')
  (h0:∀g m,g<cx.clk0->M' g=some m->M g=some m)
  (h1:∀b' bx',h2.lookup b'=some bx'->∃b bx,h.lookup b=some bx/\bx'=Zag ex σn σg bx/\M' (σg bx.gen)=M bx.gen/\b'=σn b/\D bx.gen)
  (h3:∀g' m,M' g'=some m->∃b' bx',h2.lookup b'=some bx'/\bx'.gen=g')
  (h4:∀g1 g2,D g1->D g2->σg g1=σg g2->g1=g2)
  (h5:∀g' m,M' g'=some m->∃g,M g=some m/\σg g=g'):WRel cx S M' clk' h2 w:=
 ⟨hw.heap.rl hr h1 h3 h4 h5,⟨hw.ext.hS,hw.ext.hcell,hc,fun g m hg hm=>hw.ext.hM g m hg (h0 g m hg hm),fun g k arr e hg hm hb=>hw.ext.hblk g k arr e hg (h0 g _ hg hm) hb⟩,hw.fr,hw.Snew,hw.Slt,
  fun g k hm=>let ⟨g1,h6,_⟩:=h5 g _ hm;hw.Mnew g1 k h6⟩
end
end
section
open Go.RowKit
section
variable{α β:Type}{P:Program}{K:St->Prop}
@[simp] def zabl(t d:Nat)(x:AV)(e:Env):Env.get ((d,x)::e) t=if t=d then x else e.get t:=by
 simp only[Env.get,Ya2];by_cases h:t=d
 ·subst h;simp
 ·have:(t == d)=false:=by simpa using h
  simp[this,h]
@[simp] def zaep(t:Nat):Env.get [] t=.dead:=rfl
@[simp] def zabm{st:St}:Zdm P [] st K↔K st:=Iff.rfl
@[simp] def z73{o:AO}{l:List AO}{st:St}:Zdm P (o::l) st K↔Zhc P o st fun st'=>Zdm P l st' K:=Iff.rfl
@[simp] def z56{d:Option Nat}{op:AOp}{st:St}:Zhc P ⟨d,none,op⟩ st K↔opK P op d st K:=Iff.rfl
@[simp] def z74(e:Env)(x:AV):Zf e none x=e:=rfl
@[simp] def z77(e:Env)(d:Nat)(x:AV):Zf e (some d) x=(d,x)::e:=rfl
@[simp] def ev_t(e:Nat->AV)(n:Nat):ev e (.t n)=e n:=rfl
@[simp] def ev_c(e:Nat->AV)(x:AV):ev e (.c x)=x:=rfl
@[simp] def z2a{N:St->Prop}{Q:Exit->St->Prop}{st:St}:Zip N Q .normal st↔N st:=Iff.rfl
@[simp] def z57{N:St->Prop}{Q:Exit->St->Prop}{st:St}{id:Nat}:Zip N Q (.exit id) st↔Q (.exit id) st:=Iff.rfl
@[simp] def z78{N:St->Prop}{Q:Exit->St->Prop}{st:St}:Zip N Q .ret st↔Q .ret st:=Iff.rfl
@[simp] def zz1{id:Nat}{Q:Exit->St->Prop}{st:St}:Zee id Q .normal st↔Q .normal st:=Iff.rfl
@[simp] def z58{id:Nat}{Q:Exit->St->Prop}{st:St}:Zee id Q .ret st↔Q .ret st:=Iff.rfl
@[simp] def z3f{id id':Nat}{Q:Exit->St->Prop}{st:St}:Zee id Q (.exit id') st↔if id'=id then Q .normal st else Q (.exit id') st:=Iff.rfl
def gK(P:Program)(x:AV)(want:Bool)(op:AOp)(d:Option Nat)(st:St)(K:St->Prop):Prop:=
 match x with
 | .b v=>if v=want then opK P op d st K else K ⟨Zf st.env d (.tup []),st.heap,st.clk⟩
 | .tup _=>K ⟨Zf st.env d (.tup []),st.heap,st.clk⟩
 | _=>False
@[simp] def z59{d:Option Nat}{op:AOp}{t:Nat}{want:Bool}{st:St}:Zhc P ⟨d,some (t,want),op⟩ st K↔gK P (st.env.get t) want op d st K:=by
 rfl
@[simp] def gK_b{v want:Bool}{op:AOp}{d:Option Nat}{st:St}:gK P (.b v) want op d st K↔if v=want then opK P op d st K else K ⟨Zf st.env d (.tup []),st.heap,st.clk⟩:=Iff.rfl
@[simp] def zajp{vs:List AV}{want:Bool}{op:AOp}{d:Option Nat}{st:St}:gK P (.tup vs) want op d st K↔K ⟨Zf st.env d (.tup []),st.heap,st.clk⟩:=Iff.rfl
@[simp] def zaeq{z n:Nat}{zs:List AV}{ps:List (Nat×Opd)}{d:Option Nat}{st:St}:opK P (.bsl z zs n ps) d st K↔okK (Zd1 z zs n st.heap (ps.map fun p=>(p.1,ev st.env.get p.2))) fun q=>K ⟨Zf st.env d q.1,q.2,st.clk⟩:=Iff.rfl
@[simp] def zaer{x}{d:Option Nat}{st:St}:opK P (.mov x) d st K↔okK (Zj (.mov x) st.env.get st.heap) fun x=>K ⟨Zf st.env d x,st.heap,st.clk⟩:=Iff.rfl
@[simp] def zabn{c a b}{d:Option Nat}{st:St}:opK P (.pick c a b) d st K↔okK (Zj (.pick c a b) st.env.get st.heap) fun x=>K ⟨Zf st.env d x,st.heap,st.clk⟩:=Iff.rfl
@[simp] def z79{zs ps}{d:Option Nat}{st:St}:opK P (.build zs ps) d st K↔okK (Zj (.build zs ps) st.env.get st.heap) fun x=>K ⟨Zf st.env d x,st.heap,st.clk⟩:=Iff.rfl
@[simp] def zabo{n x}{d:Option Nat}{st:St}:opK P (.load n x) d st K↔okK (Zj (.load n x) st.env.get st.heap) fun x=>K ⟨Zf st.env d x,st.heap,st.clk⟩:=Iff.rfl
@[simp] def zaes{o x y}{d:Option Nat}{st:St}:opK P (.bin o x y) d st K↔okK (Zj (.bin o x y) st.env.get st.heap) fun x=>K ⟨Zf st.env d x,st.heap,st.clk⟩:=Iff.rfl
@[simp] def zaet{g ls x y}{d:Option Nat}{st:St}:opK P (.eqs g ls x y) d st K↔okK (Zj (.eqs g ls x y) st.env.get st.heap) fun x=>K ⟨Zf st.env d x,st.heap,st.clk⟩:=Iff.rfl
@[simp] def z8a{g x}{d:Option Nat}{st:St}:opK P (.eqnil g x) d st K↔okK (Zj (.eqnil g x) st.env.get st.heap) fun x=>K ⟨Zf st.env d x,st.heap,st.clk⟩:=Iff.rfl
@[simp] def zaeu{g x y}{d:Option Nat}{st:St}:opK P (.eqb g x y) d st K↔okK (Zj (.eqb g x y) st.env.get st.heap) fun x=>K ⟨Zf st.env d x,st.heap,st.clk⟩:=Iff.rfl
@[simp] def zajq{o x}{d:Option Nat}{st:St}:opK P (.un o x) d st K↔okK (Zj (.un o x) st.env.get st.heap) fun x=>K ⟨Zf st.env d x,st.heap,st.clk⟩:=Iff.rfl
@[simp] def zabp{k x}{d:Option Nat}{st:St}:opK P (.conv k x) d st K↔okK (Zj (.conv k x) st.env.get st.heap) fun x=>K ⟨Zf st.env d x,st.heap,st.clk⟩:=Iff.rfl
@[simp] def zaev{z x lo hi mx}{d:Option Nat}{st:St}:opK P (.slc z x lo hi mx) d st K↔okK (Zj (.slc z x lo hi mx) st.env.get st.heap) fun x=>K ⟨Zf st.env d x,st.heap,st.clk⟩:=Iff.rfl
@[simp] def z8b{x lo hi}{d:Option Nat}{st:St}:opK P (.slstr x lo hi) d st K↔okK (Zj (.slstr x lo hi) st.env.get st.heap) fun x=>K ⟨Zf st.env d x,st.heap,st.clk⟩:=Iff.rfl
@[simp] def zaew{n x}{d:Option Nat}{st:St}:opK P (.fad n x) d st K↔okK (Zj (.fad n x) st.env.get st.heap) fun x=>K ⟨Zf st.env d x,st.heap,st.clk⟩:=Iff.rfl
@[simp] def zaex{o n x}{d:Option Nat}{st:St}:opK P (.fld o n x) d st K↔okK (Zj (.fld o n x) st.env.get st.heap) fun x=>K ⟨Zf st.env d x,st.heap,st.clk⟩:=Iff.rfl
@[simp] def zaey{z x i}{d:Option Nat}{st:St}:opK P (.iad z x i) d st K↔okK (Zj (.iad z x i) st.env.get st.heap) fun x=>K ⟨Zf st.env d x,st.heap,st.clk⟩:=Iff.rfl
@[simp] def zaez{z n x i}{d:Option Nat}{st:St}:opK P (.iaa z n x i) d st K↔okK (Zj (.iaa z n x i) st.env.get st.heap) fun x=>K ⟨Zf st.env d x,st.heap,st.clk⟩:=Iff.rfl
@[simp] def zae0{x i}{d:Option Nat}{st:St}:opK P (.ixs x i) d st K↔okK (Zj (.ixs x i) st.env.get st.heap) fun x=>K ⟨Zf st.env d x,st.heap,st.clk⟩:=Iff.rfl
@[simp] def zae1{z l n x i}{d:Option Nat}{st:St}:opK P (.ixa z l n x i) d st K↔okK (Zj (.ixa z l n x i) st.env.get st.heap) fun x=>K ⟨Zf st.env d x,st.heap,st.clk⟩:=Iff.rfl
@[simp] def zae2{x}{d:Option Nat}{st:St}:opK P (.len x) d st K↔okK (Zj (.len x) st.env.get st.heap) fun x=>K ⟨Zf st.env d x,st.heap,st.clk⟩:=Iff.rfl
@[simp] def zabq{x}{d:Option Nat}{st:St}:opK P (.lens x) d st K↔okK (Zj (.lens x) st.env.get st.heap) fun x=>K ⟨Zf st.env d x,st.heap,st.clk⟩:=Iff.rfl
@[simp] def zabr{n}{d:Option Nat}{st:St}:opK P (.lenc n) d st K↔okK (Zj (.lenc n) st.env.get st.heap) fun x=>K ⟨Zf st.env d x,st.heap,st.clk⟩:=Iff.rfl
@[simp] def zajr{m xs}{d:Option Nat}{st:St}:opK P (.mm m xs) d st K↔okK (Zj (.mm m xs) st.env.get st.heap) fun x=>K ⟨Zf st.env d x,st.heap,st.clk⟩:=Iff.rfl
@[simp] def zae3{x n}{d:Option Nat}{st:St}:opK P (.ext x n) d st K↔okK (Zj (.ext x n) st.env.get st.heap) fun x=>K ⟨Zf st.env d x,st.heap,st.clk⟩:=Iff.rfl
@[simp] def zabs{x}{d:Option Nat}{st:St}:opK P (.nilc x) d st K↔okK (Zj (.nilc x) st.env.get st.heap) fun x=>K ⟨Zf st.env d x,st.heap,st.clk⟩:=Iff.rfl
@[simp] def z8c{zs}{d:Option Nat}{st:St}:opK P (.alloc zs) d st K↔okK (stepW (.alloc zs) d st.env.get st.heap st.clk) fun q=>K ⟨Zf st.env d q.1,q.2.1,q.2.2⟩:=Iff.rfl
@[simp] def z8d{n x v}{d:Option Nat}{st:St}:opK P (.store n x v) d st K↔okK (stepW (.store n x v) d st.env.get st.heap st.clk) fun q=>K ⟨Zf st.env d q.1,q.2.1,q.2.2⟩:=Iff.rfl
@[simp] def zae4{z zs l c}{d:Option Nat}{st:St}:opK P (.mks z zs l c) d st K↔okK (stepW (.mks z zs l c) d st.env.get st.heap st.clk) fun q=>K ⟨Zf st.env d q.1,q.2.1,q.2.2⟩:=Iff.rfl
@[simp] def zae5{z x y}{d:Option Nat}{st:St}:opK P (.app z x y) d st K↔okK (stepW (.app z x y) d st.env.get st.heap st.clk) fun q=>K ⟨Zf st.env d q.1,q.2.1,q.2.2⟩:=Iff.rfl
@[simp] def zabt(k:IntKind)(n:Int):Zg1 .neg (.i k n)=some (.i k (k.wrap (0-n))):=rfl
@[simp] def zabu(t:Bool):Zg1 .not (.b t)=some (.b (!t)):=rfl
attribute [simp] Zj stepW Zg0 Zg5 Zf6 Zkc mmL mm2 Zhy Zhu Zez Zfd Zg3 Zfc Zg2 Zhv Zes Zgk Zht eqL evO Zl8 Zcu resV Zbn Zd1 Zha Zhz Zy Zin Zh7 rowOf Zi6
@[simp] def zqy{k:IntKind}{a b:Int}:Z7 .add (.i k a) (.i k b)=some (.i k (k.wrap (a+b))):=by simp[Z7,Zfo]
@[simp] def zlh{k:IntKind}{a b:Int}:Z7 .sub (.i k a) (.i k b)=some (.i k (k.wrap (a-b))):=by simp[Z7,Zfo]
@[simp] def zqz{k:IntKind}{a b:Int}:Z7 .mul (.i k a) (.i k b)=some (.i k (k.wrap (a*b))):=by simp[Z7,Zfo]
@[simp] def zq0{k:IntKind}{a b:Int}:Z7 .quo (.i k a) (.i k b)=if b=0 then none else some (.i k (k.wrap (a.tdiv b))):=by simp[Z7,Zfo]
@[simp] def zq1{k:IntKind}{a b:Int}:Z7 .rem (.i k a) (.i k b)=if b=0 then none else some (.i k (a.tmod b)):=by simp[Z7,Zfo]
@[simp] def zq2{k:IntKind}{a b:Int}:Z7 .eql (.i k a) (.i k b)=some (.b (a == b)):=by simp[Z7,Zfo]
@[simp] def zq3{k:IntKind}{a b:Int}:Z7 .neq (.i k a) (.i k b)=some (.b (a != b)):=by simp[Z7,Zfo]
@[simp] def zli{k:IntKind}{a b:Int}:Z7 .lss (.i k a) (.i k b)=some (.b (a<b)):=by simp[Z7,Zfo]
@[simp] def zz2{k:IntKind}{a b:Int}:Z7 .leq (.i k a) (.i k b)=some (.b (a<=b)):=by simp[Z7,Zfo]
@[simp] def zq4{k:IntKind}{a b:Int}:Z7 .gtr (.i k a) (.i k b)=some (.b (a > b)):=by simp[Z7,Zfo]
@[simp] def zz3{k:IntKind}{a b:Int}:Z7 .geq (.i k a) (.i k b)=some (.b (a>=b)):=by simp[Z7,Zfo]
@[simp] def z8e{a b:List UInt8}:Z7 .eql (.s a) (.s b)=some (.b (a == b)):=by simp[Z7,Zj0]
@[simp] def z8f{a b:List UInt8}:Z7 .neq (.s a) (.s b)=some (.b (!(a == b))):=by simp[Z7,Zj0]
@[simp] def z8g{a b:List UInt8}:Z7 .add (.s a) (.s b)=if a.length+b.length<=9223372036854775807 then some (.s (a++b)) else none:=by simp[Z7,Zj0]
theorem zab(n:Int)(h:-9223372036854775808<=n/\n<9223372036854775808):IntKind.wrap .i64 n=n:=by
 simp[IntKind.wrap,IntKind.signed,IntKind.bits]<;>(omega)<;>omega
end
end
section
open Go.RowKit
section
variable{cx:Cx}{Q:Exit->St->Prop}{st:St}{c:AC}{P:Program}{K:St->Prop}
@[simp] def z6a{β:Type}(b b':BId)(x:β)(l:List (BId×β)):List.lookup b ((b',x)::l)=if b=b' then some x else List.lookup b l:=by
 grind
attribute [simp] Ze7 Zbl Ze1 Zgn Zl7
attribute [simp] AOp.writes AOp.free Zgl Ze5
@[simp] def zamf(k:IntKind)(n y:Int):bnd (.i k n) y=if 0<=n/\n<=y then some n.toNat else none:=rfl
def WRel.sub{S:Nat->Nat->Prop}{M:Map}{st st':St}{w:World}(hs:Sub st st')(hr:WRel cx S M st.clk st.heap w):∃Mb,WRel cx S Mb st'.clk st'.heap w/\Ext w S M st.clk w S Mb st'.clk:=by
 classical
 generalize hMb:(fun g=>if Live st'.heap g then M g else none:Map)=Mb;have hMb1:∀g m,Mb g=some m->Live st'.heap g/\M g=some m:=by
  grind
 have hMb2:∀g,Live st'.heap g->Mb g=M g:=by grind
 have hx:Ext w S M st.clk w S Mb st'.clk:=⟨fun _ _ hs=>hs,fun _ _ _ _ hc=>hc,hs.clk,fun g m _ hm=>(hMb1 g m hm).2,fun _ _ arr _ _ _ hb=>⟨arr,hb,rfl⟩⟩;refine⟨Mb,⟨⟨fun b bx hb=>?_,fun g m hm=>(hMb1 g m hm).1,fun b bx b' bx' h1 h2 hg=>?_,fun g g' k h1 h2=>hr.heap.inj _ _ _ (hMb1 _ _ h1).2 (hMb1 _ _ h2).2⟩,hr.ext.trans hx,hr.fr,hr.Snew,hr.Slt,fun g k hm=>hr.Mnew g k (hMb1 _ _ hm).2⟩,hx⟩
 ·obtain⟨bx0,h0,h1⟩:=hs.heap b bx hb;have hl:Live st'.heap bx.gen:=⟨b,bx,hb,rfl⟩;have hbox:=hr.heap.box b bx0 h0;rcases h1 with rfl | ⟨hk,rfl⟩
  ·exact hbox.mono hx (hMb2 _ hl) (fun _ _=>rfl) fun _ _ _ hs=>hs
  ·obtain⟨b1,b2,m,hm,b3⟩:=hbox.mono hx (hMb2 bx0.gen hl) (fun _ _=>rfl) fun _ _ _ hs=>hs;refine⟨b1,b2,m,hm,?_⟩;cases m with
   | none=>exact⟨b3.1,by simp,by simp⟩
   | some k=>
    obtain⟨arr,e,c1,c2,c3,c4,c5⟩:=ck' hk.2 b3;exact ck (by simp) ⟨arr,e,c1,c2,fun i r j c hi hj=>let ⟨u,d1,d2,d3,d4⟩:=c3 i r j c hi hj;⟨u,d1,d2,d3,fun _=>d4 hk.1⟩,fun hne=>absurd rfl hne,c5⟩
 ·obtain⟨bx0,h3,h4⟩:=hs.heap b bx h1;obtain⟨bx0',h5,h6⟩:=hs.heap b' bx' h2;have e1:bx.gen=bx0.gen:=by grind
  have e2:bx'.gen=bx0'.gen:=by grind
  exact hr.heap.gens _ _ _ _ h3 h5 (by rw[<-e1,<-e2,hg])
def Zop(rs:List RV)(post:AV->Heap->Nat->Prop):Exit->St->Prop:=
 fun ex st=>(ex=.normal\/ex=.ret)/\∃r,Zcu st rs=some r/\∃h' c',Sub ⟨[],st.heap,st.clk⟩ ⟨[],h',c'⟩/\post r h' c'
end
end
section
open Go.RowKit
theorem zdm:∀(l:Heap) (g j:Nat),j<=Zci l g j/\Zci l g j<=j+l.length
 | [],g,j=>by simp[Zci]
 | p::l,g,j=>by
  have:=zdm l g (j+1);simp only[Zci,Ye];split<;>omega
theorem zhj:∀(l:Heap) (g j:Nat),(∃p∈l,p.2.gen=g)->Zci l g j<j+l.length
 | [],g,j,h=>by grind
 | p::l,g,j,h=>by
  simp only[Zci,Ye];split
  ·omega
  ·obtain⟨q,hq,he⟩:=h;have hq':q∈l:=by
    grind
   have:=zhj l g (j+1) ⟨q,hq',he⟩;omega
theorem zlq:∀(l:Heap) (g j:Nat),(¬ ∃p∈l,p.2.gen=g)->Zci l g j=j+l.length
 | [],g,j,h=>by simp[Zci]
 | p::l,g,j,h=>by
  simp only[Zci,Ye];rw[if_neg (fun he=>h ⟨p,Yl,he⟩),zlq l g (j+1) fun⟨q,hq,he⟩=>h ⟨q,Yj _ hq,he⟩];omega
theorem zik:∀(l:Heap) (g g' j:Nat),(∃p∈l,p.2.gen=g)->(∃p∈l,p.2.gen=g')->Zci l g j=Zci l g' j->g=g'
 | [],g,g',j,h,_,_=>by obtain⟨p,hp,_⟩:=h;simp at hp
 | p::l,g,g',j,h,h',he=>by
  simp only[Zci]at he;have low:=zdm l g (j+1);have low':=zdm l g' (j+1);split at he<;>split at he
  ·rename_i h1 h2;rw[<-h1,<-h2]
  ·omega
  ·omega
  ·rename_i h1 h2;have tl:∀g,p.2.gen≠g->(∃q∈p::l,q.2.gen=g)->∃q∈l,q.2.gen=g:=by
    intro g hne ⟨q,hq,he⟩;rcases Yr.1 hq with rfl | h
    ·exact absurd he hne
    ·exact⟨q,h,he⟩
   exact zik l g g' (j+1) (tl g h1 h) (tl g' h2 h') he
def zf1{h:Heap}{ids:List BId}{p:BId×Box}(hp:p∈Zd6 h ids):h.lookup p.1=some p.2:=by
 obtain⟨b,_,h2⟩:=List.mem_filterMap.1 hp;cases hb:h.lookup b with
 | none=>grind
 | some bx=>grind
def za9{β γ:Type}[BEq β][LawfulBEq β]:∀(l:List (β×γ)) (b:β) (x:γ),l.lookup b=some x->(b,x)∈l:=by
 intro l b x h
 induction l with
 | nil=>cases h
 | cons p l ih=>
  grind
def zgs{γ:Type}:∀(l:List (BId×γ)) (p:BId×γ),p∈l->∃x,l.lookup p.1=some x:=by
 intro l p h
 induction l with
 | nil=>cases h
 | cons q l ih=>
  obtain⟨q1,q2⟩:=q;by_cases hb:p.1=q1
  ·simp_all
  grind
def znk{h:Heap}{ids:List BId}{p:BId×Box}(hp:p∈Zd6 h ids):(Zd6 h ids).lookup p.1=some p.2:=by
 obtain⟨x,hx⟩:=zgs _ _ hp;have h1:=zf1 (za9 _ _ _ hx);rw[zf1 hp]at h1
 grind
def zpq(live:List Nat)(f:Nat->AV)(t:Nat):(live.map fun t=>(t,f t)).lookup t=if t∈live then some (f t) else none:=by
 induction live with
 | nil=>simp
 | cons s l ih=>
  grind
section
variable{cx:Cx}{st:St}{a:Act}{w:World}
def zrb{k:Nat}{hp:Heap}{g g':Nat}(h:∃p∈hp,p.2.gen=g)(h':∃p∈hp,p.2.gen=g')(he:Zcq k hp g=Zcq k hp g'):g=g':=by
 grind[Zcq,zdm,zik]
def Rel.norm{ex:Bool}{k:Nat}{live:List Nat}(hk:cx.clk0=k+1)(hr:Rel cx st a w):Rel cx (Zc4 ex k live st) a w:=by
 obtain⟨S,M,hr⟩:=hr;generalize hids:Zfv st.heap 40 (Zls k++(live.map fun t=>(t,st.env.get t)).flatMap fun p=>rfA p.2) []=ids;generalize hhp:Zd6 st.heap ids=hp;have hn:Zc4 ex k live st=⟨(live.map fun t=>(t,st.env.get t)).map fun p=>(p.1,rlA id (Zcq k hp) (wkIf ex p.2)),hp.map fun p=>(p.1,Zag ex id (Zcq k hp) p.2),k+hp.length+2⟩:=by
  rw[<-hhp,<-hids];rfl
 have hlk:∀b bx,hp.lookup b=some bx->st.heap.lookup b=some bx:=by
  intro b bx hb;have:=za9 _ _ _ hb;rw[<-hhp]at this;exact zf1 this
 have hml:∀p∈hp,hp.lookup p.1=some p.2:=by
  intro p hm;rw[<-hhp]at hm ⊢;exact znk hm
 classical
 generalize hM':(fun g'=>if h:∃g,(∃p∈hp,p.2.gen=g)/\Zcq k hp g=g' then M (Classical.choose h) else none:Map)=M';have hM1:∀g,(∃p∈hp,p.2.gen=g)->M' (Zcq k hp g)=M g:=by
  intro g hg;rw[<-hM'];have h:∃g0,(∃p∈hp,p.2.gen=g0)/\Zcq k hp g0=Zcq k hp g:=⟨g,hg,rfl⟩;simp only[dif_pos h];rw[zrb (Classical.choose_spec h).1 hg (Classical.choose_spec h).2]
 have hM2:∀g' m,M' g'=some m->∃g,(∃p∈hp,p.2.gen=g)/\Zcq k hp g=g'/\M g=some m:=by
  grind
 have hrl:Rlb M M' st.clk (k+hp.length+2) (Zcq k hp):=by
  refine⟨fun g hg=>⟨?_,?_⟩⟩
  ·by_cases hin:∃p∈hp,p.2.gen=g
   ·grind
   ·right;cases hm:M' (Zcq k hp g) with
    | none=>rfl
    | some m=>
     obtain⟨g1,h1,h2,_⟩:=hM2 _ _ hm;have hlt:=zhj hp g1 (k+1) h1
     grind[zlq,zdm,Zcq]
  grind[zdm,Zcq]
 have hw:=hr.wr;refine⟨S,M',?_⟩;rw[hn];refine⟨hr.size,hr.defers,fun t=>?_,?_⟩
 ·rw[Ybt];have e1:Env.get (live.map fun t=>(t,rlA id (Zcq k hp) (wkIf ex (st.env.get t)))) t=(if t∈live then some (rlA id (Zcq k hp) (wkIf ex (st.env.get t))) else none).getD .dead:=by
   rw[<-zpq live (fun t=>rlA id (Zcq k hp) (wkIf ex (st.env.get t)))];rfl
  show C w S M' _ _ (Env.get (live.map fun t=>(t,rlA id (Zcq k hp) (wkIf ex (st.env.get t)))) t);rw[e1];split
  ·exact((hr.env t).wkIf ex).rlA hrl
  ·exact .p (.dead _)
 ·refine hw.rl (ex:=ex) (σn:=id) (σg:=Zcq k hp) (D:=fun g=>∃p∈hp,p.2.gen=g) hrl (by grind) (fun g m hg hm=>?_) (fun b' bx' hb=>?_) (fun g' m hm=>?_) (fun g1 g2 hd1 hd2 hg=>?_) (fun g' m hm=>?_)
  ·grind[zdm,Zcq]
  ·rw[zew (fun _ bx=>Zag ex id (Zcq k hp) bx) b' hp]at hb;obtain⟨bx,h1,rfl⟩:=map_some hb;exact⟨b',bx,hlk _ _ h1,rfl,hM1 _ ⟨_,za9 _ _ _ h1,rfl⟩,rfl,⟨_,za9 _ _ _ h1,rfl⟩⟩
  ·obtain⟨g1,⟨p,h1,h1'⟩,h2,h3⟩:=hM2 _ _ hm;refine⟨p.1,Zag ex id (Zcq k hp) p.2,?_,by show Zcq k hp p.2.gen=g';grind⟩;rw[zew (fun _ bx=>Zag ex id (Zcq k hp) bx) p.1 hp,hml p h1]
   rfl
  ·exact zrb hd1 hd2 hg
  grind
def Rel.nil(t:Nat)(id:BId)(z:Nat)(hx:st.env.get t=.sl [] .nl)(hr0:Rel cx st a w):Rel cx ⟨(t,.bs id st.clk z 0 0)::st.env,(id,⟨st.clk,.own,z,[]⟩)::st.heap,st.clk+1⟩ a w:=by
 obtain⟨S,M,hr⟩:=hr0;refine⟨S,Zcp M ((id,⟨st.clk,.own,z,[]⟩)::st.heap) st.clk none,?_⟩;have h1:=hr.set (id:=id) (bx':=⟨st.clk,.own,z,[]⟩) (k':=none) (touched:=none) (clk':=st.clk+1) (Ybu _) (.inl rfl) (fun hlt=>absurd hlt (Ybj _)) (Touch.of_below (Below.refl _ _)) (fun k hk=>by grind)
  ⟨Y0 _,fun r hr=>by grind,none,zao _ _ _ _,rfl,by simp⟩
 refine⟨h1.size,h1.defers,fun t'=>?_,h1.wr⟩;have e1:Env.get ((t,AV.bs id st.clk z 0 0)::st.env)=upd st.env.get (some t) (.bs id st.clk z 0 0):=zb0 st.env (some t) _;rw[e1];simp only[upd];split
 ·rename_i ht;subst ht;have hv:=hr.env t';rw[hx]at hv;have hv2:a.tmps.getD t' undef=.slice none 0 0:=by
   rcases hv.inv_sl.inv_sl with ⟨_,b0,hv,_,hb2⟩ | ⟨_,_,_,_,_,_,hf,_⟩
   all_goals grind
  rw[hv2];refine .bs _ _ _ _ _ _ (Y0 _) ?_ rfl
  grind[Zfn,zao]
 ·exact h1.env t'
def Rel.shr(t:Nat){y:AV}(hy:frz st.heap (st.env.get t)=some y)(hr0:Rel cx st a w):Rel cx ⟨st.env,Zy (refs (st.env.get t)) st.heap,st.clk⟩ a w:=by
 obtain⟨S,M,hr⟩:=hr0;exact⟨_,M,hr.share (refs (st.env.get t)) (zdl hy)⟩
def Rel.frz(t:Nat){y:AV}(hy:frz st.heap (st.env.get t)=some y)(hr0:Rel cx st a w):Rel cx ⟨(t,y)::st.env,Zy (refs (st.env.get t)) st.heap,st.clk⟩ a w:=by
 obtain⟨S,M,hr⟩:=hr0;have hk:=zdl hy;refine⟨Zbt st.heap M (refs (st.env.get t)) S,M,?_⟩;have h1:=hr.share (refs (st.env.get t)) hk;refine⟨h1.size,h1.defers,fun t'=>?_,h1.wr⟩;have e1:Env.get ((t,y)::st.env)=upd st.env.get (some t) y:=zb0 st.env (some t) _;rw[e1];simp only[upd];split
 ·rename_i ht;subst ht;exact .p (zvc hr.wr.heap (hr.env t') hy fun id hid=>hid)
 ·exact h1.env t'
def Rel.fld(b id:BId)(z i o:Nat){bx:Box}{r:List AV}(hb:st.heap.lookup b=some bx)(hk:bx.kind=.str)(hi:bx.els[i]? = some r)(ho:r[o]? = some (.sl [] .nl))(hid:st.heap.lookup id=none)(hr0:Rel cx st a w):Rel cx ⟨st.env,(b,{ bx with els:=bx.els.set i (r.set o (.bs id st.clk z 0 0)) })::(id,⟨st.clk,.own,z,[]⟩)::st.heap,st.clk+1⟩ a w:=by
 obtain⟨S,M,hr⟩:=hr0;refine⟨S,Zcp M ((id,⟨st.clk,.own,z,[]⟩)::st.heap) st.clk none,?_⟩;have h1:=hr.set (id:=id) (bx':=⟨st.clk,.own,z,[]⟩) (k':=none) (touched:=none) (clk':=st.clk+1) (Ybu _) (.inl rfl) (fun hlt=>absurd hlt (Ybj _)) (Touch.of_below (Below.refl _ _)) (fun k hk=>by grind)
  ⟨Y0 _,fun r hr=>by grind,none,zao _ _ _ _,rfl,by simp⟩
 have hb1:List.lookup b ((id,(⟨st.clk,.own,z,[]⟩:Box))::st.heap)=some bx:=by grind
 have hw:=h1.wr;generalize hM':Zcp M ((id,⟨st.clk,.own,z,[]⟩)::st.heap) st.clk none=M' at *
 have hself:M' st.clk=some none:=by rw[<-hM'];exact zao _ _ _ _
 generalize hbx':({ bx with els:=bx.els.set i (r.set o (.bs id st.clk z 0 0)) }:Box)=bx' at *
 have hgen:bx'.gen=bx.gen:=by grind
 have hz:bx'.z=bx.z:=by grind
 have hkk:bx'.kind=bx.kind:=by grind
 have hbox:Zbx w S M' (st.clk+1) bx':=by
  obtain⟨b1,b2,m,hm1,b3⟩:=hw.heap.box b bx hb1;refine⟨by omega,fun r' hr'=>?_,m,by grind,?_⟩
  ·grind
  ·cases m with
   | none=>
    grind
   | some k=>
    have hmp:bx.kind≠.mp:=by rw[hk];simp
    obtain⟨arr,e,hh,hsz,hcc,hns,hlt⟩:=ck' hmp b3;refine ck (by rw[hkk];exact hmp) ⟨arr,e,hh,by grind,fun i' r' j c' hi' hj=>?_,by grind,by grind⟩;rw[<-hbx']at hi';simp only[List.getElem?_set]at hi';rw[hz,hkk];split at hi'
    ·rename_i hii;subst hii;split at hi'
     ·cases hi';rw[List.getElem?_set]at hj;split at hj
      ·rename_i hjo;subst hjo;split at hj
       ·cases hj;obtain⟨u,hu,hu1,hC,hP⟩:=hcc i r o _ hi ho;refine⟨u,hu,hu1,?_,fun hne'=>absurd hk hne'⟩;have hv2:u=.slice none 0 0:=by
         rcases hC.inv_sl.inv_sl with ⟨_,b0,hv,_,hb2⟩ | ⟨_,_,_,_,_,_,hf,_⟩
         all_goals grind
        rw[hv2];refine .bs _ _ _ _ _ _ (Y0 _) ?_ rfl
        grind[Zfn]
       grind
      grind
     grind
    grind
 have to:∀q x,List.lookup q ((b,bx')::(id,(⟨st.clk,.own,z,[]⟩:Box))::st.heap)=some x->∃x0,List.lookup q ((id,(⟨st.clk,.own,z,[]⟩:Box))::st.heap)=some x0/\x0.gen=x.gen:=by
  grind
 refine⟨h1.size,h1.defers,h1.env,⟨⟨fun q x hq=>?_,fun g m hm=>?_,fun q1 x1 q2 x2 hq1 hq2 hg=>?_,hw.heap.inj⟩,hw.ext,hw.fr,hw.Snew,hw.Slt,hw.Mnew⟩⟩
 ·by_cases hqb:q=b
  ·grind
  ·rw[zbh _ _ hqb]at hq;exact hw.heap.box q x hq
 ·obtain⟨q,x,hq,hg⟩:=hw.heap.live g m hm;by_cases hqb:q=b
  ·grind[zby]
  ·exact⟨q,x,by grind,hg⟩
 ·obtain⟨y1,hy1,e1⟩:=to q1 x1 hq1;obtain⟨y2,hy2,e2⟩:=to q2 x2 hq2;exact hw.heap.gens _ _ _ _ hy1 hy2 (by rw[e1,e2,hg])
def Rel.str(b:BId){bx:Box}{r:List AV}{i:Nat}(hb:st.heap.lookup b=some bx)(hk:bx.kind≠.sh)(hmp:bx.kind≠.mp)(hi:bx.els[i]? = some r)(hr0:Rel cx st a w):Rel cx ⟨st.env,(b,{ bx with kind:=.str })::st.heap,st.clk⟩ a w:=by
 obtain⟨S,M,hr⟩:=hr0;refine⟨S,M,?_⟩;have hw:=hr.wr;generalize hbx':({ bx with kind:=.str }:Box)=bx' at *
 have hgen:bx'.gen=bx.gen:=by grind
 have hbox:Zbx w S M st.clk bx':=by
  obtain⟨b1,b2,m,hm1,b3⟩:=hw.heap.box b bx hb;refine⟨by omega,by grind,m,by grind,?_⟩;cases m with
  | none=>grind
  | some k=>
   obtain⟨arr,e,hh,hsz,hcc,hns,hlt⟩:=ck' hmp b3;refine ck (by rw[<-hbx'];simp) ⟨arr,e,hh,by grind,fun i' r' j c' hi' hj=>?_,by grind,by grind⟩;obtain⟨u,h1,h2,h3,h4⟩:=hcc i' r' j c' (by grind) hj;exact⟨u,by grind,h2,h3,by grind⟩
 have to:∀q x,List.lookup q ((b,bx')::st.heap)=some x->∃x0,List.lookup q st.heap=some x0/\x0.gen=x.gen:=by
  grind
 refine⟨hr.size,hr.defers,hr.env,⟨⟨fun q x hq=>?_,fun g m hm=>?_,fun q1 x1 q2 x2 hq1 hq2 hg=>?_,hw.heap.inj⟩,hw.ext,hw.fr,hw.Snew,hw.Slt,hw.Mnew⟩⟩
 ·by_cases hqb:q=b
  ·grind
  ·rw[zbh _ _ hqb]at hq;exact hw.heap.box q x hq
 ·obtain⟨q,x,hq,hg⟩:=hw.heap.live g m hm;by_cases hqb:q=b
  ·grind[zby]
  ·exact⟨q,x,by grind,hg⟩
 ·obtain⟨y1,hy1,e1⟩:=to q1 x1 hq1;obtain⟨y2,hy2,e2⟩:=to q2 x2 hq2;exact hw.heap.gens _ _ _ _ hy1 hy2 (by rw[e1,e2,hg])
def Rel.gh{k:Nat}{g:Gh}{st':St}(hk:cx.clk0=k+1)(hg:ghS k g st=some st')(hr:Rel cx st a w):Rel cx st' a w:=by
 cases g with
 | nil t z=>
  simp only[ghS]at hg;split at hg<;>cases hg;rename_i hx;exact hr.nil t _ z hx
 | frz t=>
  obtain⟨y,hy,rfl⟩:=map_some hg;exact hr.frz t hy
 | shr t=>
  simp only[ghS]at hg;obtain⟨y,hy,rfl⟩:=map_some hg;exact hr.shr t hy
 | norm ex live=>
  cases hg;exact hr.norm hk
 | trm live=>
  cases hg;have key:∀(l:List Nat) (t:Nat) (x:AV),(l.map fun t=>(t,st.env.get t)).lookup t=some x->st.env.get t=x:=by
   intro l
   induction l with
   | nil=>simp
   | cons a l ih=>grind [List.lookup]
  have hs:Sub st ⟨live.map fun t=>(t,st.env.get t),st.heap,st.clk⟩:=⟨fun t x h=>key _ _ _ h,fun b bx h=>⟨bx,h,.inl rfl⟩,Yd _⟩;exact Rel.sub hs hr
 | opn t j z=>
  simp only[ghS]at hg;split at hg<;>try (cases hg;done)
  split at hg<;>try (cases hg;done)
  rename_i bx hbx;split at hg<;>try (cases hg;done)
  rename_i r hi;split at hg<;>cases hg;rename_i hc;have hb:=(zax hbx).1;have h1:=hr.str _ hb hc.1 (zcx hbx) hi;have hn:∀b o,BId.fld b o≠b:=fun b o h=>by
   have h2:SizeOf.sizeOf (BId.fld b o)=SizeOf.sizeOf b:=by rw[h]
   simp at h2;omega
  have h2:=h1.fld (bx:={ bx with kind:=.str }) _ (.fld _ _) z _ 0 (zby _ _ _) rfl hi rfl (by rw[zbh _ _ (hn _ _)];simpa using hc.2);refine Rel.sub ?_ h2;constructor
  ·intro t x h;show (st.env.lookup t).getD .dead=x;rw[show st.env.lookup t=some x from h]
   rfl
  ·intro b' bx' h;refine⟨bx',?_,.inl rfl⟩;simp only[Ybx]
   grind
  ·exact Yd _
 | shi t j=>
  simp only[ghS]at hg;split at hg<;>try (cases hg;done)
  split at hg<;>try (cases hg;done)
  split at hg<;>try (cases hg;done)
  obtain⟨y,hy,rfl⟩:=map_some hg;obtain⟨S,M,hr⟩:=hr;exact⟨_,M,hr.share (refs _) (zdl hy)⟩
 | shf t i o=>
  simp only[ghS]at hg;split at hg<;>try (cases hg;done)
  split at hg<;>try (cases hg;done)
  split at hg<;>try (cases hg;done)
  split at hg<;>try (cases hg;done)
  obtain⟨y,hy,rfl⟩:=map_some hg;obtain⟨S,M,hr⟩:=hr;exact⟨_,M,hr.share (refs _) (zdl hy)⟩
 | fld t i o z=>
  simp only[ghS]at hg;split at hg<;>try (cases hg;done)
  split at hg<;>try (cases hg;done)
  rename_i bx hbx;split at hg<;>try (cases hg;done)
  rename_i r hi;split at hg<;>try (cases hg;done)
  rename_i ho;split at hg<;>cases hg;rename_i hc;exact hr.fld _ _ z i o (zax hbx).1 hc.1 hi ho (by simpa using hc.2)
end
end
section
open Go.RowKit
theorem znl:∀(l:Heap) (g j:Nat),(∃p∈l,p.2.gen=g)->∃q,l[Zci l g j-j]? = some q/\q.2.gen=g/\j<=Zci l g j
 | [],g,j,h=>by grind
 | p::l,g,j,h=>by
  simp only[Zci];split
  ·grind
  ·obtain⟨q,hq,he⟩:=h;have hq':q∈l:=by
    grind
   obtain⟨q2,h1,h2,h3⟩:=znl l g (j+1) ⟨q,hq',he⟩
   grind
theorem zkf:∀(l:List BId) (b b':BId) (j:Nat),b∈l->b'∈l->Zex l b j=Zex l b' j->b=b'
 | [],b,b',j,h,_,_=>by cases h
 | c::l,b,b',j,h,h',he=>by
  have low:∀(l:List BId) (x:BId) (j:Nat),j<=Zex l x j:=by
   intro l x
   induction l with
   | nil=>intro j;exact Yd _
   | cons y l ih=>intro j;simp only[Zex];split;exact Yd _;exact Yc (Ybu j) (ih (j+1))
  simp only[Zex]at he;have l1:=low l b (j+1);have l2:=low l b' (j+1);split at he<;>split at he
  ·rename_i h1 h2;rw[<-h1,<-h2]
  ·omega
  ·omega
  ·rename_i h1 h2;have tl:∀x,c≠x->x∈c::l->x∈l:=by
    intro x hne hx;rcases Yr.1 hx with rfl | hx
    ·exact absurd rfl hne
    ·exact hx
   exact zkf l b b' (j+1) (tl b h1 h) (tl b' h2 h') he
def zek{γ:Type}:∀(l:List (BId×γ)),(l.map (·.1)).Nodup->∀p∈l,l.lookup p.1=some p.2:=by
 intro l hn p hp
 induction l with
 | nil=>grind
 | cons q l ih=>
  grind
theorem zil{α:Type}:∀(l:List α),l.Nodup->∀(i j:Nat) (x:α),l[i]? = some x->l[j]? = some x->i=j
 | [],_,i,j,x,h,_=>by simp at h
 | y::l,hn,i,j,x,hi,hj=>by
  simp only[Yel]at hn;cases i with
  | zero=>
   cases j with
   | zero=>rfl
   | succ j=>
    simp at hi hj;subst hi;exact absurd (Yh hj) hn.1
  | succ i=>
   cases j with
   | zero=>
    simp at hi hj;subst hj;exact absurd (Yh hi) hn.1
   | succ j=>rw[zil l hn.2 i j x hi hj]
def Zd2.rl{P:Program}{f:FuncId}{ys:List AV}{hp:Heap}{clk d:Nat}{ex:Bool}{l:List BId}{r0:AV}{hb':Heap}{c':Nat}
  (hkeys:hp.map (·.1)=l) (hnd:l.Nodup)
  (hnd2:((hb'.map fun p=>(Za8 l d p.1,Zag true (Za8 l d) (Zbe hp clk) p.2)).map (·.1)).Nodup)
  (hA:Zd2 P f (ys.map fun y=>rlA (inN l) (inG hp) (wkIf ex y)) (hp.map fun p=>(inN l p.1,Zag ex (inN l) (inG hp) p.2)) (hp.length+1) (fun r h c=>r=r0/\h=hb'/\c=c')) :
  Zd2 P f ys hp clk (fun r h c=>r=rlA (Za8 l d) (Zbe hp clk) r0/\h=hb'.map (fun p=>(Za8 l d p.1,Zag true (Za8 l d) (Zbe hp clk) p.2))/\c=clk+(c'-hp.length)):=by
 refine⟨hA.1,fun w S M cargs hl hC hh hS hM=>?_⟩;have hml:∀p∈hp,hp.lookup p.1=some p.2:=zek hp (by grind);have hnd':(hb'.map (·.1)).Nodup:=by
  grind
 classical
 -- the call's own numbering
 generalize hM1:(fun g'=>if h:∃g,(∃p∈hp,p.2.gen=g)/\inG hp g=g' then M (Classical.choose h) else none:Map)=M1;have inj1:∀g1 g2,(∃p∈hp,p.2.gen=g1)->(∃p∈hp,p.2.gen=g2)->inG hp g1=inG hp g2->g1=g2:=fun g1 g2 h1 h2 he=>zik hp g1 g2 0 h1 h2 he;have hM1a:∀g,(∃p∈hp,p.2.gen=g)->M1 (inG hp g)=M g:=by
  intro g hg;rw[<-hM1];have h:∃g0,(∃p∈hp,p.2.gen=g0)/\inG hp g0=inG hp g:=⟨g,hg,rfl⟩;simp only[dif_pos h];rw[inj1 _ _ (Classical.choose_spec h).1 hg (Classical.choose_spec h).2]
 have hM1b:∀g' m,M1 g'=some m->∃g,(∃p∈hp,p.2.gen=g)/\inG hp g=g'/\M g=some m:=by
  grind
 have rl1:Rlb M M1 clk (hp.length+1) (inG hp):=by
  refine⟨fun g _=>⟨?_,?_⟩⟩
  ·by_cases hin:∃p∈hp,p.2.gen=g
   ·grind
   ·right;cases hm:M1 (inG hp g) with
    | none=>rfl
    | some m=>
     obtain⟨g1,h1,h2,_⟩:=hM1b _ _ hm;have hlt:=zhj hp g1 0 h1
     grind[zlq,inG]
  grind[zdm,inG]
 have mem_keys:∀p∈hp,p.1∈l:=fun p hpm=>by grind
 have heap1:HeapRel w S M1 (hp.length+1) (hp.map fun p=>(inN l p.1,Zag ex (inN l) (inG hp) p.2)):=by
  refine hh.rl (ex:=ex) (σn:=inN l) (σg:=inG hp) (D:=fun g=>∃p∈hp,p.2.gen=g) rl1 (fun b' bx' hb=>?_) (fun g' m hm=>?_) inj1 (fun g' m hm=>?_)
  ·obtain⟨p,hpm,he⟩:=Yv.1 (za9 _ _ _ hb)
   grind
  ·obtain⟨g1,⟨p,hpm,h1⟩,h2,h3⟩:=hM1b _ _ hm;obtain⟨x,hx⟩:=zgs (hp.map fun p=>(inN l p.1,Zag ex (inN l) (inG hp) p.2)) (inN l p.1,Zag ex (inN l) (inG hp) p.2) (Yv.2 ⟨p,hpm,rfl⟩);refine⟨_,x,hx,?_⟩;obtain⟨q,hqm,he⟩:=Yv.1 (za9 _ _ _ hx);simp only[Prod.mk.injEq]at he;have hqp:q.1=p.1:=by
    grind[inN,zkf]
   have:q.2=p.2:=by
    grind
   rw[<-he.2,this];show inG hp p.2.gen=g'
   grind
  grind
 have range1:∀g k,M1 g=some (some k)->∃g0,M g0=some (some k):=fun g k hm=>let ⟨g1,_,_,h3⟩:=hM1b g _ hm;⟨g1,h3⟩
 refine(hA.2 w S M1 cargs (by grind) (fun j v c hv hc=>?_) heap1 hS (fun g k hm=>let ⟨g0,h0⟩:=range1 g k hm;hM g0 k h0)).mono ?_
 ·obtain⟨c0,h1,rfl⟩:=getElem?_mapped hc;exact((hC j v c0 hv h1).wkIf ex).rlA rl1
 intro e w' ⟨v,r,h',S',M2,clk2,he,⟨hr0,hh',hc2⟩,hCr,hw⟩;subst hr0;subst hh';subst hc2;have hw:=hw 0
 -- back
 have gens:∀(i:Nat) p,hp[i]? = some p->∀(j:Nat) q,hp[j]? = some q->p.2.gen=q.2.gen->i=j:=by
  intro i p hi j q hj hg;have h1:=hh.gens _ _ _ _ (hml p (Yh hi)) (hml q (Yh hj)) hg;refine zil l hnd i j p.1 ?_ ?_
  all_goals grind
 have low:∀g m,M2 g=some m->g<hp.length\/hp.length+1<=g:=by
  intro g m hm;rcases Yy g (hp.length+1) with h1 | h1
  ·obtain⟨g1,h2,h3,_⟩:=hM1b g m (hw.ext.hM g m h1 hm);have:=zhj hp g1 0 h2;unfold inG at h3;omega
  omega
 have outLt:∀g,g<hp.length->∃p,hp[g]? = some p/\Zbe hp clk g=p.2.gen/\p.2.gen<clk:=by
  intro g hg;have h1:hp[g]? = some (hp[g]'hg):=Ya hg;refine⟨_,h1,by simp[Zbe,h1],(hh.box _ _ (hml _ (Yx hg))).1⟩
 have outGe:∀g,hp.length<=g->Zbe hp clk g=clk+(g-hp.length):=by
  grind[Zbe]
 have inj2:∀g1 g2,(∃m,M2 g1=some m)->Zbe hp clk g1=Zbe hp clk g2->g1=g2:=by
  intro g1 g2 ⟨m,hm⟩ he;rcases Yy g1 hp.length with h1 | h1<;>rcases Yy g2 hp.length with h2 | h2
  all_goals grind
 generalize hM3:(fun g'=>if h:∃g,(∃m,M2 g=some m)/\Zbe hp clk g=g' then M2 (Classical.choose h) else none:Map)=M3;have hM3a:∀g,(∃m,M2 g=some m)->M3 (Zbe hp clk g)=M2 g:=by
  intro g hg;have h:∃g0,(∃m,M2 g0=some m)/\Zbe hp clk g0=Zbe hp clk g:=⟨g,hg,rfl⟩
  grind
 have hM3b:∀g' m,M3 g'=some m->∃g,Zbe hp clk g=g'/\M2 g=some m:=by
  grind
 have rl2:Rlb M2 M3 clk2 (clk+(clk2-hp.length)) (Zbe hp clk):=by
  refine⟨fun g hg=>⟨?_,?_⟩⟩
  ·grind
  ·rcases Yy g hp.length with h1 | h1
   all_goals grind
 have back:∀g m,g<clk->M3 g=some m->∃g1,g1<hp.length/\M2 g1=some m/\M1 g1=some m/\M g=some m:=by
  intro g m hg hm;obtain⟨g1,h1,h2⟩:=hM3b _ _ hm;have hlt:g1<hp.length:=by
   grind
  have h3:=hw.ext.hM g1 m (by grind) h2;obtain⟨g2,h4,h5,h6⟩:=hM1b _ _ h3;obtain⟨p,a1,a2,_⟩:=outLt g1 hlt;obtain⟨q,b1,b2,_⟩:=znl hp g2 0 h4
  grind[inG]
 refine⟨v,_,_,S',M3,_,he,⟨rfl,rfl,rfl⟩,hCr.rlA rl2,fun nt=>⟨?_,?_,?_,fun k o hs=>?_,hw.Slt,fun g k hm=>?_⟩⟩
 ·refine hw.heap.rl (ex:=true) (σn:=Za8 l d) (σg:=Zbe hp clk) (D:=fun g=>∃m,M2 g=some m) rl2 (fun b' bx' hb=>?_) (fun g' m hm=>?_) (fun g1 g2 h1 _ he=>inj2 g1 g2 h1 he) (fun g' m hm=>?_)
  ·obtain⟨p,hpm,he⟩:=Yv.1 (za9 _ _ _ hb);cases he;have h1:=zek h' hnd' p hpm;obtain⟨_,_,m,hm,_⟩:=hw.heap.box _ _ h1
   grind
  ·obtain⟨g1,h1,h2⟩:=hM3b _ _ hm;obtain⟨b,bx,h3,h4⟩:=hw.heap.live g1 m h2;refine⟨Za8 l d b,Zag true (Za8 l d) (Zbe hp clk) bx,?_,by show Zbe hp clk bx.gen=g';grind⟩;exact zek _ hnd2 (Za8 l d b,Zag true (Za8 l d) (Zbe hp clk) bx) (Yv.2 ⟨(b,bx),za9 _ _ _ h3,rfl⟩)
  grind
 ·refine⟨hw.ext.hS,hw.ext.hcell,by grind,fun g m hg hm=>?_,fun g k arr e hg hm hb=>?_⟩
  ·grind
  ·obtain⟨g1,h1,h2,_,_⟩:=back g _ hg hm;exact hw.ext.hblk g1 k arr e (by grind) h2 hb
 ·exact⟨hw.fr.os,hw.fr.tape,hw.fr.output,hw.fr.size,fun k hk hn=>hw.fr.block k hk fun⟨g,hm⟩=>hn (range1 g k hm)⟩
 ·rcases hw.Snew k o hs with h1 | h1 | ⟨g,h1⟩
  ·grind
  ·grind
  ·exact .inr (.inr (range1 g k h1))
 ·obtain⟨g1,h1,h2⟩:=hM3b _ _ hm;obtain⟨h3,h4⟩:=hw.Mnew g1 k h2;refine⟨h3,?_⟩;rcases h4 with h4 | ⟨g,h4⟩
  ·grind
  ·exact .inr (range1 g k h4)
def Zae.wk{P:Program}{f:FuncId}{xs:List AV}{post:AV->Prop}{ex:Bool}(h:Zae P f (xs.map (wkIf ex)) post):Zae P f xs post:=
 ⟨h.1,fun w S cargs hl hC hS=>h.2 w S cargs (by grind) (fun j v c hv hc=>by
  obtain⟨c0,h1,rfl⟩:=getElem?_mapped hc;exact(hC j v c0 hv h1).wkIf ex) hS⟩
end
section
open Go.RowKit
def Zc6(ν:Nat->FuncId)(τ:Nat->Nat):AOp->AOp
 | .call u args=>.call (ν u) args
 | .ifc k x=>.ifc (τ k) x
 | .inv nm _ _ r args=>.inv nm 0 (if nm="()" then 1 else 0) r args
 | .xop (.mkf k) xs=>.xop (.mkf (τ k)) xs
 | .xop (.mkv k) xs=>.xop (.mkv (τ k)) xs
 | op=>op
def Zq(ν:Nat->FuncId)(τ:Nat->Nat)(o:AO):AO:=⟨o.dst,o.guard,Zc6 ν τ o.op⟩
def Zcm(ν:Nat->FuncId)(τ:Nat->Nat)(o:DO):DO:=⟨Zq ν τ o.ao,o.lo,o.hi⟩
def er(ν:Nat->FuncId)(τ:Nat->Nat):AX->AC
 | .skip=>.skip
 | .reg l=>.reg (l.map (Zq ν τ))
 | .draw l=>.draw (l.map (Zcm ν τ))
 | .seq a b=>.seq (er ν τ a) (er ν τ b)
 | .cond c x y=>.cond c (er ν τ x) (er ν τ y)
 | .block id c=>.block id (er ν τ c)
 | .loop c=>.loop (er ν τ c)
 | .exit id=>.exit id
 | .ret=>.ret
 | .note c _=>er ν τ c
 | .pre _ c=>er ν τ c
 | .scope c=>.scope (er ν τ c)
 | .lp id _ c _=>.block id (.loop (er ν τ c))
 | .bad=>.bad
 | .drawT hd tl=>.drawT (hd.map (Zq ν τ)) (tl.map (Zq ν τ))
 | .drawM hd tl=>.drawM (hd.map (Zq ν τ)) (tl.map (Zq ν τ))
 | .drawC l1 o l2 tl=>.drawT (l1.map (Zq ν τ)++Zq ν τ o::l2.map (Zq ν τ)) (tl.map (Zq ν τ))
 | .drawN l1 o l2=>.draw (l1.map (Zcm ν τ) ++ ⟨Zq ν τ o,0,0⟩::l2.map (Zcm ν τ))
 | .drawR hd tl=>.drawT (hd.map (Zq ν τ)) (tl.map (Zq ν τ))
 | .drawP l1 o l2 da cs n xs vs=>.draw (l1.map (Zcm ν τ) ++ ⟨Zq ν τ o,0,1⟩::(l2.map (Zcm ν τ)++[⟨⟨some da,none,.alloc cs⟩,0,1⟩,⟨⟨none,none,.store n xs vs⟩,1,2⟩]))
 | .prim _=>.bad
 | .label l=>.label l
 | .goto l=>.goto l
 | .gsc l c r=>.gsc l (er ν τ c) (er ν τ r)
def erF(ν:Nat->FuncId)(τ:Nat->Nat)(af:AFx):AF:=⟨af.np,af.nt,af.res,er ν τ af.body⟩
def Ex.out:Ex->Exit
 | .n=>.normal
 | .x id=>.exit id
 | .r=>.ret
 | .g l=>.goto l
def LWp(cx:Cx)(c:AC)(Q:Exit->St->Prop)(st:St):Prop:=
 ∀code,Zn cx.P cx.nt code=some c->cx.P.follows .mixedOrders=true->∀a w,Rel cx st a w->∀(b:Frame) (k:List Item) (cs:List Frame),
  ∃e a' w',(∃st',Q e st'/\Rel cx st' a' w')/\Arrives cx.P (lone (b.at a (.code code :: .inLoop code::k)) cs w) b k cs e a' w'
def zz9{cx:Cx}{c:AC}{Q:Exit->St->Prop}{st:St}(h:AWp cx c (Zip (fun s=>LWp cx c Q s) Q) st):LWp cx c Q st:=by
 intro code hc hm a w hr b k cs;obtain⟨ex,a1,w1,⟨st1,hq1,hrel1⟩,harr⟩:=h code hc hm a w hr b (.inLoop code::k) cs;cases ex with
 | normal=>
  obtain⟨e2,a2,w2,hq2,harr2⟩:=hq1 code hc hm a1 w1 hrel1 b k cs;exact⟨e2,a2,w2,hq2,.of_steps (Steps.trans harr (.one step_inLoop)) harr2⟩
 | exit id=>exact⟨_,a1,w1,⟨st1,hq1,hrel1⟩,.pass (x:=.inLoop code) rfl (fun _ _=>.inl (by simp)) harr⟩
 | goto l=>exact⟨_,a1,w1,⟨st1,hq1,hrel1⟩,.pass (x:=.inLoop code) rfl (fun _ _=>.inl (by simp)) harr⟩
 | ret=>exact⟨_,a1,w1,⟨st1,hq1,hrel1⟩,.pass (x:=.inLoop code) rfl (fun _ _=>.inl (by simp)) harr⟩
 | panic ch=>exact⟨_,a1,w1,⟨st1,hq1,hrel1⟩,.pass (x:=.inLoop code) rfl (fun _ _=>.inl (by simp)) harr⟩
 | outgrown=>exact⟨_,a1,w1,⟨st1,hq1,hrel1⟩,.pass (x:=.inLoop code) rfl (fun _ _=>.inl (by simp)) harr⟩
def zim{cx:Cx}{c:AC}{Q:Exit->St->Prop}{st:St}(h:LWp cx c Q st):AWp cx (.loop c) Q st:=by
 intro code hc hm a w hr;have hcode:=hc;cases code<;>simp only[Zn]at hc<;>try cases hc
 case loop c1=>
  obtain⟨x',hx,he⟩:=map_some hc;cases he;intro b k cs;obtain⟨e,a',w',hq,harr⟩:=h c1 hx hm a w hr b k cs;exact⟨e,a',w',hq,.of_steps (.one step_loop) harr⟩
 case region id ops draw=>
  rcases zai hcode with ⟨_,l,_,h1⟩ | ⟨_,l,_,⟨n,_,h1⟩ | ⟨_,h1⟩ | ⟨n,_,h1⟩ | h1⟩<;>cases h1
 all_goals simp[Yk]at hc
def LWp.mono{cx:Cx}{c:AC}{Q Q':Exit->St->Prop}{st:St}(h:LWp cx c Q st)(hq:∀ex st,Q ex st->Q' ex st):LWp cx c Q' st:=
 fun code hc hm a w hr b k cs=>let ⟨e,a',w',⟨st',h1,h2⟩,h3⟩:=h code hc hm a w hr b k cs;⟨e,a',w',⟨st',hq _ _ h1,h2⟩,h3⟩
def Is(e:Ex)(st':St):Exit->St->Prop:=fun ex s=>ex=e.out/\s=st'
def zbm{ν:Nat->FuncId}{τ:Nat->Nat}(op:AOp):(Zc6 ν τ op).writes=op.writes:=by
 cases op<;>first | rfl | (rename_i k xs;cases k<;>rfl)
theorem z0a(j:Nat):Zkl j≠"()":=by
 unfold Zkl
 grind
def znm{T:Tbl}{k:Nat}{nm:String}{u:Nat}(h:(nm,u)∈Zcb T k):nm≠"()":=by
 grind[Zcb,Zif,z0a]
structure GoodO (P:Program) (ν:Nat->FuncId) (T:Tbl) (O:Orc):Prop where
 meth:∀k nm u,(nm,u)∈Zcb T k->Zef P (Ze T k) nm=some (ν u)
 fnn:∀k u,Zgu T k=some u->Ze T k=ν u
 pure:∀u af xs r h,T u=some af->af.lent=none->O.call u xs []=some (r,h)->Zae P (ν u) xs (·=r)
 lent:∀u af ms xs hb r hb',T u=some af->af.lent=some ms->O.call u xs hb=some (r,hb')->Zd2 P (ν u) xs hb (hb.length+1) (fun r1 h1 c1=>r1=r/\h1=hb'/\c1=hb.length+hb'.length+2)
 loop:∀k c st e st',O.loop k c st=some (e,st')->∀cx:Cx,cx.P=P->cx.clk0=k+1->LWp cx (er ν (Ze T) c) (Is e st') st
section
variable{P:Program}{ν:Nat->FuncId}{T:Tbl}{O:Orc}
def zju(q:BId->Bool)(h:Heap)(b:BId):(h.filter fun p=>!q p.1).lookup b=if q b=true then none else h.lookup b:=by
 induction h with
 | nil=>simp
 | cons p h ih=>
  grind
def zdf(hO:GoodO P ν T O){u:Nat}{xs:List AV}{d:Option Nat}{st st':St}{K:St->Prop}(h:Zah O T u xs d st=some st')(hK:K st') :
  Zfr P (ν u) xs st.heap (fun r h=>K ⟨Zf st.env d r,h,st.clk⟩)\/Zfs P (ν u) xs st.heap st.clk (fun r h c=>K ⟨Zf st.env d r,h,c⟩):=by
 unfold Zah at h;split at h
 ·cases h
 rename_i af hT;split at h
 ·rename_i hl;obtain⟨ys,h1,h2⟩:=bind_some h;obtain⟨r,h3,h4⟩:=bind_some h2;refine .inl ⟨ys,(·=r.1),h1,(hO.pure u af _ r.1 r.2 hT hl h3).wk,?_⟩
  grind
 ·rename_i ms hl;obtain⟨ys,h1,h2⟩:=bind_some h;simp only at h2;generalize hh1:Zy (Zdd ms xs) st.heap=h1' at *
  generalize hll:Zfv h1' 40 (Zf9 ms xs) []=l at *
  generalize hhp:Zd6 h1' l=hp at *
  split at h2
  ·rename_i hc;obtain⟨r,h3,h4⟩:=bind_some h2;generalize hhb:(r.2.map fun p=>(Za8 l (d.getD 0) p.1,Zag true (Za8 l (d.getD 0)) (Zbe hp st.clk) p.2))=hb' at *
   split at h4
   ·rename_i hchk;cases h4;simp only[Ym,decide_eq_true_eq]at hchk;obtain⟨⟨k2,k3⟩,k4⟩:=hchk;have hmem:∀b bx,hp.lookup b=some bx->h1'.lookup b=some bx:=by
     intro b bx hb;have:=za9 _ _ _ hb;rw[<-hhp]at this;exact zf1 this
    have hin:∀b,(hp.lookup b).isSome=true↔b∈l:=by
     intro b;constructor
     ·intro hb;obtain⟨bx,hb⟩:=Ycl.1 hb;rw[<-hc.1];exact Yv.2 ⟨_,za9 _ _ _ hb,rfl⟩
     ·intro hb;rw[<-hc.1]at hb;obtain⟨p,hp1,rfl⟩:=Yv.1 hb;obtain⟨x,hx⟩:=zgs _ _ hp1
      grind
    have hlk:∀id,(h1'.filter fun p=>!(l.contains p.1 || (hb'.map (·.1)).contains p.1)).lookup id=if (l.contains id || (hb'.map (·.1)).contains id)=true then none else h1'.lookup id:=
     fun id=>zju (fun b=>l.contains b || (hb'.map (·.1)).contains b) h1' id
    refine .inr ⟨ms,ys,h1,hp,h1'.filter (fun p=>!(l.contains p.1 || (hb'.map (·.1)).contains p.1)),_,⟨fun id bx hid=>?_,fun id bx hid=>?_⟩,fun id hid=>?_,Zd2.rl hc.1 hc.2 (by rw[hhb];omega) (by
     have:=hO.lent u af ms _ _ r.1 r.2 hT hl h3;rw[Y1]at this;exact this),?_⟩
    ·grind
    ·grind
    ·rw[hlk,if_pos (by grind)]
    ·rintro r' h' c' hle ⟨rfl,rfl,rfl⟩
     rw[hhb]
     grind
   grind
  grind
theorem zwu(hO:GoodO P ν T O){op:AOp}{d:Option Nat}{st st':St}{K:St->Prop}(h:opX O T op d st=some st')(hK:K st'):opK P (Zc6 ν (Ze T) op) d st K:=by
 cases op<;>simp only[opX]at h
 case call u args=>exact zdf hO h hK
 case ifc k x=>
  cases h;exact⟨_,rfl,hK⟩
 case inv nm k u r args=>
  split at h
  ·rename_i t y hy;split at h
   ·rename_i hc;obtain⟨rfl,hm⟩:=hc;exact .inl ⟨if_neg (znm hm),_,y,_,hy,hO.meth k nm u hm,zdf hO h hK⟩
   grind
  ·rename_i f x hy;split at h
   ·rename_i hc;obtain⟨rfl,rfl,hm⟩:=hc;have hc:=zdf hO h hK;rw[<-hO.fnn k u hm]at hc;exact .inr (.inl ⟨rfl,_,x,hy,hc⟩)
   grind
  ·rename_i f id g z i o hy;split at h
   ·rename_i hc;obtain⟨rfl,rfl,hm⟩:=hc;have hc:=zdf hO h hK;rw[<-hO.fnn k u hm]at hc;exact .inr (.inr ⟨rfl,_,id,g,z,i,o,hy,z3g hm,hc⟩)
   grind
  grind
 case xop k xs=>
  cases k
  all_goals
   obtain⟨q,h1,rfl⟩:=map_some h;exact⟨q,h1,hK⟩
 all_goals
  obtain⟨q,h1,rfl⟩:=map_some h;exact⟨q,h1,hK⟩
def znn(hO:GoodO P ν T O){o:AO}{st st':St}{K:St->Prop}(h:Zgo O T o st=some st')(hK:K st'):Zhc P (Zq ν (Ze T) o) st K:=by
 grind[Zgo,Zhc,Zq,zwu,gX]
theorem zc3(hO:GoodO P ν T O):∀(l:List AO) (st st':St) (K:St->Prop),Zdo O T l st=some st'->K st'->Zdm P (l.map (Zq ν (Ze T))) st K
 | [],st,st',K,h,hK=>by cases h;exact hK
 | o::l,st,st',K,h,hK=>by
  obtain⟨s1,h1,h2⟩:=bind_some h;exact znn hO h1 (zc3 hO l s1 st' K h2 hK)
theorem zno(hO:GoodO P ν T O){op:AOp}{e:Env}{h:Heap}{older:List Heap}{x:AV}{K:AV->Prop}(hx:opD O T op e h older=some x)(hK:K x):opQ P (Zc6 ν (Ze T) op) e h older K:=by
 by_cases hap:∃z x0 y,op=.app z x0 y
 ·obtain⟨z,x0,y,rfl⟩:=hap;by_cases hc:x0=.c (.sl [] .nl)
  ·subst hc;exact⟨x,hx,hK⟩
  ·exfalso;cases x0 with
   | t n=>simp[opD,Zj]at hx
   | c a=>
    cases a
    case sl els f=>
     cases els with
     | nil=>cases f<;>first | exact hc rfl | simp[opD,Zj]at hx
     | cons r l=>simp[opD,Zj]at hx
    all_goals simp[opD,Zj]at hx
 cases op<;>(try exact absurd ⟨_,_,_,rfl⟩ hap)<;>simp only[opD]at hx
 case call u args=>
  split at hx
  ·grind
  rename_i af hT;split at hx
  ·rename_i hc;simp only[Ym]at hc;obtain⟨r,h1,rfl⟩:=map_some hx;exact⟨_,⟨zd6 hc.2,fun hf=>by grind⟩,r.1,(hO.pure u af _ r.1 r.2 hT (by simp_all) h1).wk,hK⟩
  grind
 case ifc k x=>
  cases hx;exact⟨_,rfl,trivial,hK⟩
 case inv nm k u r args=>
  split at hx
  ·rename_i t y hy;split at hx
   ·rename_i hc0;obtain⟨rfl,hm⟩:=hc0;split at hx
    ·grind
    rename_i af hT;split at hx
    ·rename_i hc;simp only[Ym]at hc;obtain⟨r,h1,rfl⟩:=map_some hx;exact⟨if_neg (znm hm),_,y,_,hy,hO.meth k nm u hm,hc.2,r.1,(hO.pure u af _ r.1 r.2 hT (by simp_all) h1).wk,hK⟩
    grind
   grind
  grind
 case bsl z zs len ps=>
  split at hx
  ·rename_i hc;obtain⟨q,h1,rfl⟩:=map_some hx;exact⟨hc,q,h1,hK⟩
  grind
 case xop k xs=>
  simp_all
 all_goals
  obtain⟨q,h1,h2⟩:=bind_some hx;split at h2
  ·rename_i hc;cases h2;refine⟨_,h1,?_,hK⟩;rcases zs2 hc with hc | hc
   ·simp only[Zc6];rw[hc]
    trivial
   ·simp only[Zc6];split
    ·trivial
    ·exact hc
  ·cases h2
def zrc{o:AO}{e:Env}{h':Heap}{x:AV}(hf:o.op.free=false)(hw:o.op.writes=false)(hg:o.guard=none\/∃t want,o.guard=some (t,want)/\e.get t=.b want)(hs:Zgp o.op e.get h'=some x):QF P h' (Zq ν (Ze T) o) e.get x:=by
 have hq:QOp P (Zc6 ν (Ze T) o.op) e.get h' x:=by
  obtain⟨d,g,op⟩:=o;by_cases hap:∃z x0 y,op=.app z x0 y
  ·obtain⟨z,x0,y,rfl⟩:=hap;by_cases hc:x0=.c (.sl [] .nl)
   all_goals simp_all
  cases op<;>first | exact absurd ⟨_,_,_,rfl⟩ hap | exact hs | (cases hf;done) | (cases hw;done) | (cases hs)
 grind[QF,Zq]
def zwv{o:AO}{e:Env}{h':Heap}(hg:∃t want,o.guard=some (t,want)/\(e.get t=.b (!want)\/e.get t=.tup [])):QF P h' (Zq ν (Ze T) o) e.get (.tup []):=by
 grind[QF,Zq]
def zrd{o:AO}{e:Env}{h h':Heap}{x:AV}(hf:o.op.freeE e.get=true)(hq:QF P h (Zq ν (Ze T) o) e.get x):QF P h' (Zq ν (Ze T) o) e.get x:=
 zlg (o:=Zq ν (Ze T) o) (by show (Zc6 ν (Ze T) o.op).freeE e.get=true;cases hop:o.op<;>rw[hop]at hf<;>first | rfl | exact hf | cases hf) h h' hq
def zre{o:AO}{e:Env}{h:Heap}{older:List Heap}{r:AV×Bool}(hx:qX O T o e h older=some r)(hr:r.2=true)(hf:o.op.free=true):o.op.freeE e.get=true:=by
 cases hop:o.op
 case call u args=>
  have key:∀x,opD O T (.call u args) e h older=some x->(args.map (ev e.get)).all noRef=true:=by
   grind[opD]
  unfold qX at hx;rw[hop]at hx;split at hx
  ·obtain⟨x,h1,_⟩:=map_some hx;exact key x h1
  ·split at hx
   ·split at hx
    ·obtain⟨x,h1,_⟩:=map_some hx;exact key x h1
    grind
   all_goals grind
 all_goals (rw[hop]at hf;exact hf)
def ze0(hO:GoodO P ν T O){o:AO}{e:Env}{h:Heap}{older:List Heap}{r:AV×Bool}{K:AV->Prop}(hx:qX O T o e h older=some r)(hK:K r.1) :
  qK P (Zq ν (Ze T) o) e h older K/\(r.2=true->(o.guard=none\/∃t want,o.guard=some (t,want)/\e.get t=.b want))/\(r.2=false->r.1=.tup []/\∃t want,o.guard=some (t,want)/\(e.get t=.b (!want)\/e.get t=.tup [])):=by
 unfold qX at hx;unfold qK;simp only[Zq];cases hg:o.guard with
 | none=>
  rw[hg]at hx;obtain⟨x,h1,rfl⟩:=map_some hx
  grind[zno]
 | some p=>
  obtain⟨t,want⟩:=p;rw[hg]at hx;simp only at hx ⊢;cases hx2:e.get t with
  | b v=>
   rw[hx2]at hx;simp only at hx ⊢;split at hx
   ·rename_i hv;obtain⟨x,h1,rfl⟩:=map_some hx
    grind[zno]
   ·rename_i hv;rw[if_neg hv];cases hx;refine⟨hK,?_,?_⟩
    ·grind
    intro _;refine⟨rfl,t,want,rfl,.inl ?_⟩;cases v<;>cases want<;>simp_all
  | tup l=>
   grind
  | _=>rw[hx2]at hx;simp at hx
def zch{pend:Zal}{h:Heap}(hp:Zaf pend h=true):∀p∈pend,0<p.1->Zgp p.2.1 p.2.2.1.get h=some p.2.2.2:=by
 grind[Zaf]
def Ze3(pendX:Zal)(pend:Zh9):Prop:=∀q∈pend,(∀h',q.2 h')\/q.1=0\/∃p∈pendX,p.1=q.1/\∀h',Zgp p.2.1 p.2.2.1.get h'=some p.2.2.2->q.2 h'
def Ze3.next{pendX:Zal}{pend:Zh9}(h:Ze3 pendX pend):Ze3 (pendX.map fun p=>(p.1-1,p.2)) (pend.map fun p=>(p.1-1,p.2)):=by
 intro q hq;obtain⟨q0,h1,rfl⟩:=Yv.1 hq;rcases h q0 h1 with h2 | h2 | ⟨p,h2,h3,h4⟩
 ·grind
 ·omega
 ·exact .inr (.inr ⟨_,Yv.2 ⟨p,h2,rfl⟩,by omega,h4⟩)
theorem zdg(hO:GoodO P ν T O):∀(l:List DO) (e:Env) (h:Heap) (clk:Nat) (older:List Heap) (pendX:Zal) (pend:Zh9) (st':St) (K:St->Prop),Ze3 pendX pend->Zbr O T l e h clk older pendX=some st'->K st'->Ze8 P (l.map (Zcm ν (Ze T))) e h clk older pend K
 | [],e,h,clk,older,pendX,pend,st',K,hpr,hx,hK=>by cases hx;exact hK
 | o::l,e,h,clk,older,pendX,pend,st',K,hpr,hx,hK=>by
  simp only[Zbr]at hx;simp only[Y3,Ze8];have hw:(Zcm ν (Ze T) o).ao.op.writes=o.ao.op.writes:=by
   exact zbm _
  rw[hw];cases ho:o.ao.op.writes with
  | true=>
   rw[ho]at hx;simp only at hx ⊢;split at hx
   ·rename_i hg;obtain⟨q,h1,h2⟩:=bind_some hx;split at h2
    ·rename_i hpd;have e1:Zc6 ν (Ze T) o.ao.op=o.ao.op:=by
      cases hop:o.ao.op<;>rw[hop]at ho<;>first | rfl | (simp[AOp.writes]at ho;done) | (rename_i k xs;cases k<;>first | rfl | simp_all)
     refine⟨by show o.ao.guard=none;simpa using hg,q,?_,fun p hp h0=>?_,zdg hO l _ _ _ _ _ _ st' K hpr.next h2 hK⟩
     ·show stepW (Zc6 ν (Ze T) o.ao.op) o.ao.dst e.get h clk=some q
      grind
     ·rcases hpr p hp with h3 | h3 | ⟨p',h3,h4,h5⟩
      ·grind
      ·omega
      ·exact h5 _ (zch hpd p' h3 (by omega))
    grind
   grind
  | false=>
   rw[ho]at hx;simp only at hx ⊢;split at hx
   rotate_left
   ·rename_i p hrow;obtain⟨x,h1,h2⟩:=bind_some hx;obtain⟨hg,args,hop,hfr,hold⟩:=zf0 hrow;unfold Zd7 at h1;split at h1
    ·grind
    rename_i af hT;split at h1
    rotate_left
    ·grind
    obtain⟨r,h3,rfl⟩:=map_some h1;have hcall:Zae P (ν p.1) p.2 (·=r.1):=(hO.pure p.1 af _ r.1 r.2 hT (by simp_all) h3).wk;have hao:Zq ν (Ze T) o.ao=⟨o.ao.dst,none,.call (ν p.1) args⟩:=by unfold Zq;rw[hg,hop];rfl
    show qK P (Zq ν (Ze T) o.ao) e h (older.take (older.length-o.lo)) _;rw[hao];refine⟨p.2,⟨hfr,fun _=>hold⟩,r.1,hcall,?_⟩;refine zdg hO l _ _ _ _ _ _ st' K ?_ h2 hK;intro q hq;rcases Yr.1 hq with rfl | hq
    ·by_cases hn:older.length<o.hi
     ·refine .inr (.inr ⟨(o.hi-older.length,o.ao.op,e,.tup p.2),?_,rfl,fun h' hs=>?_⟩)
      ·grind
      ·simp only[hop,Zgp]at hs;obtain⟨zs,h6,h7⟩:=map_some hs;cases h7;show QF P h' (Zq ν (Ze T) o.ao) e.get r.1;rw[hao];exact⟨_,h6,hcall⟩
     ·exact .inr (.inl (by show o.hi-older.length=0;omega))
    ·rcases hpr q hq with h3 | h3 | ⟨p',h3,h4,h5⟩
     all_goals grind
   obtain⟨r,h1,h2⟩:=bind_some hx;have key:=fun(K':AV->Prop) (hk:K' r.1)=>ze0 hO (K:=K') h1 hk;refine(key _ ?_).1;refine zdg hO l _ _ _ _ _ _ st' K ?_ h2 hK;obtain⟨_,k1,k2⟩:=key (fun _=>True) trivial;intro q hq;rcases Yr.1 hq with rfl | hq
   ·cases hr2:r.2 with
    | false=>
     obtain⟨h3,h4⟩:=k2 hr2;exact .inl fun h'=>by
      rw[h3];exact zwv h4
    | true=>
     cases hf:o.ao.op.free with
     | true=>
      obtain⟨hqk,_⟩:=key (fun x=>x=r.1) rfl;obtain⟨x,hq1,_,hxr⟩:=zsl (o:=Zq ν (Ze T) o.ao) (by rw[<-ho];exact hw) hqk;subst hxr;exact .inl fun h'=>zrd (zre h1 hr2 hf) hq1
     | false=>
      by_cases hn:older.length<o.hi
      ·refine .inr (.inr ⟨(o.hi-older.length,o.ao.op,e,r.1),?_,rfl,fun h' hs=>zrc hf ho (k1 hr2) hs⟩)
       grind[Zbo]
      ·exact .inr (.inl (by show o.hi-older.length=0;omega))
   ·rcases hpr q hq with h3 | h3 | ⟨p,h3,h4,h5⟩
    ·grind
    ·omega
    grind[Zbo]
theorem zin(hO:GoodO P ν T O)(tl:List AO):∀(l:List AO) (e:Env) (h:Heap) (clk:Nat) (st':St) (K:St->Prop),Zd8 O T tl l e h clk=some st'->K st'->Zev P (tl.map (Zq ν (Ze T))) (l.map (Zq ν (Ze T))) e h clk K
 | [],e,h,clk,st',K,hx,hK=>zc3 hO tl _ st' K hx hK
 | o::l,e,h,clk,st',K,hx,hK=>by
  obtain⟨r,h1,h2⟩:=bind_some hx;exact(ze0 hO (K:=fun x=>Zev P (tl.map (Zq ν (Ze T))) (l.map (Zq ν (Ze T))) (Zf e o.dst x) h clk K) h1 (zin hO tl l _ h clk st' K h2 hK)).1
theorem zfk(hO:GoodO P ν T O)(tl:List AO):∀(l:List AO) (e:Env) (h:Heap) (clk:Nat) (st':St) (K:St->Prop),Zcl O T tl l e h clk=some st'->K st'->Zev P (tl.map (Zq ν (Ze T))) (l.map (Zq ν (Ze T))) e h clk K
 | [],e,h,clk,st',K,hx,hK=>zc3 hO tl _ st' K hx hK
 | o::l,e,h,clk,st',K,hx,hK=>by
  unfold Zcl at hx;split at hx
  ·obtain⟨r,h1,h2⟩:=bind_some hx;exact(ze0 hO (K:=fun x=>Zev P (tl.map (Zq ν (Ze T))) (l.map (Zq ν (Ze T))) (Zf e o.dst x) h clk K) h1 (zfk hO tl l _ h clk st' K h2 hK)).1
  ·rename_i p hrow;obtain⟨x,h1,h2⟩:=bind_some hx;obtain⟨hg,args,hop,hfr,hold⟩:=zf0 hrow;unfold Zd7 at h1;split at h1
   ·grind
   rename_i af hT;split at h1
   rotate_left
   ·grind
   obtain⟨r,h3,rfl⟩:=map_some h1;have hcall:Zae P (ν p.1) p.2 (·=r.1):=(hO.pure p.1 af _ r.1 r.2 hT (by simp_all) h3).wk;have hao:Zq ν (Ze T) o=⟨o.dst,none,.call (ν p.1) args⟩:=by unfold Zq;rw[hg,hop];rfl
   have ih:=zfk hO tl l _ h clk st' K h2 hK;show qK P (Zq ν (Ze T) o) e h [] _;rw[hao];exact⟨p.2,⟨hfr,fun _=>hold⟩,r.1,hcall,ih⟩
def zgt{c0:Nat}{op:AOp}{e:Env}{l:List Nat}{ν:Nat->FuncId}{τ:Nat->Nat}(h:Zh0 c0 op e l=true):∀g∈l,Zft c0 (Zc6 ν τ op) e.get g:=by
 intro g hg;have h1:=Yn.1 h g hg;simp only[Ycw,decide_eq_true_eq,List.any_eq_true,List.contains_iff_mem]at h1;rcases h1 with h1 | ⟨t,ht,h2⟩
 ·exact .inl h1
 ·refine .inr ⟨t,?_,h2⟩;cases op<;>first | exact ht | (cases ht;done) | (rename_i k xs;cases k<;>first | exact ht | cases ht)
def zpr(hO:GoodO P ν T O){u:Nat}{xs:List AV}{d clk:Nat}{q:AV×Heap×Nat}(h:Ze9 O T u xs d clk=some q):∃m,q.2.2=clk+m/\Zki P (ν u) xs clk q.1 q.2.1 m:=by
 unfold Ze9 at h;split at h
 ·cases h
 rename_i af hT;split at h
 ·cases h
 rename_i ms hl;split at h
 ·rename_i hn;obtain⟨r,h3,h4⟩:=bind_some h;simp only at h4;split at h4
  ·rename_i hc;cases h4;obtain⟨hnd,hg1,hg2⟩:=hc;refine⟨r.2.length+2,rfl,hn,?_,hnd,fun g hg=>?_,fun p hp g hg=>?_⟩
   ·have hA:=hO.lent u af ms _ _ r.1 r.2 hT hl h3;have:=Zd2.rl (ys:=xs) (hp:=[]) (clk:=clk) (d:=d) (ex:=af.exact) (l:=[]) (r0:=r.1) (hb':=r.2) (c':=0+r.2.length+2) rfl List.nodup_nil (by grind) (by simpa using hA)
    grind
   ·have:=Yn.1 hg1 g hg
    grind
   ·obtain⟨hk,rr,hr,y,hy,hgy⟩:=hg;have h5:=Yn.1 hg2 p hp;simp only[hk,if_true]at h5;have h6:=Yn.1 (Yn.1 h5 rr hr) y hy;have:=Yn.1 h6 g hgy
    grind
  grind
 grind
def zkg{op:AOp}{ua:Nat×List Opd}(h:op.lentN=some ua):op=.call ua.1 ua.2:=by
 cases op<;>simp only[AOp.lentN]at h<;>try cases h
 grind
theorem zf2(q:BId->Bool):∀(h:Heap) (id:BId),(h.filter fun p=>q p.1).lookup id=if q id then h.lookup id else none
 | [],id=>by grind
 | (c,x)::h,id=>by
  have ih:=zf2 q h id
  grind
def zfl(ids:List BId)(h:Heap):Zc0 (Ze2 ids h) h:=by
 intro id bx hb;unfold Ze2 at hb;split at hb
 ·omega
 ·rw[zf2 fun b=>!ids.contains b]at hb
  grind
def zww{z d g g' z' off n:Nat}{x' y:Opd}{ρ:Nat->AV}{x:AV}{hp:Heap}{c:Nat}{b:BId}{o:Box}(hv:ev ρ x'=.bs b g' z' off n)(h:stepW (.app z x' y) (some d) ρ [(b,o)] g=some (x,hp,c)) :
  ∃bx,hp=[(b,bx),(b,o)]/\c=g+1/\bx.gen=g:=by
 obtain⟨ys,_,h1⟩:=bind_some h;rw[hv]at h1;obtain⟨b0,_,h2⟩:=bind_some h1
 grind
def Inv(X h:Heap)(c0:Nat):Prop:=∀id o,X.lookup id=some o->h.lookup id=some o\/∃o',h.lookup id=some o'/\c0<=o'.gen
theorem zci(hO:GoodO P ν T O)(tl:List AO)(h0 X:Heap)(c0:Nat)(hX0:Zc0 h0 X):∀(l:List AO) (e:Env) (h:Heap) (clk:Nat) (st':St) (K:St->Prop),Zc0 h0 h->c0<=clk->Inv X h c0->Za5 O T tl h0 c0 X l e h clk=some st'->K st'->Zbu P h0 c0 X (fun e h clk=>Zdm P (tl.map (Zq ν (Ze T))) ⟨e,h,clk⟩ K) (l.map (Zq ν (Ze T))) e h clk
 | [],e,h,clk,st',K,_,_,_,hx,hK=>zc3 hO tl _ st' K hx hK
 | o::l,e,h,clk,st',K,hsb,hck,hinv,hx,hK=>by
  simp only[Za5]at hx;simp only[Y3,Zbu];have hmk:(Zq ν (Ze T) o).op.maker=o.op.maker:=by
   obtain⟨d,g,op⟩:=o;cases op<;>first | rfl | (rename_i k xs;cases k<;>rfl)
  have hsE:(Zq ν (Ze T) o).op.isStore=o.op.isStore:=by
   obtain⟨d,g,op⟩:=o;cases op<;>first | rfl | (rename_i k xs;cases k<;>rfl)
  have hadd:∀(B:Heap),(∀p∈B,h.lookup p.1=none)->Zc0 h0 (B++h):=by
   intro B hB id bx hid;have h1:=hsb id bx hid
   grind
  have hiadd:∀(B:Heap),(∀p∈B,h.lookup p.1=none)->Inv X (B++h) c0:=by
   intro B hB id o ho;have hn:B.lookup id=none:=by
    cases hl:B.lookup id with
    | none=>rfl
    | some y=>
     rcases hinv id o ho with h2 | ⟨o',h2,_⟩<;>(grind)
   rw[zcw,hn];simpa using hinv id o ho
  have hXn:∀id,h.lookup id=none->X.lookup id=none:=by
   intro id hid;cases hl:X.lookup id with
   | none=>rfl
   | some o=>rcases hinv id o hl with h2 | ⟨o',h2,_⟩<;>(grind)
  have h0n:∀id,X.lookup id=none->h0.lookup id=none:=by
   intro id hid;cases hl:h0.lookup id with
   | none=>rfl
   | some o=>have:=hX0 _ _ hl;grind
  rw[hmk,hsE];cases hm:o.op.maker with
  | true=>
   rw[hm]at hx;simp only at hx ⊢;split at hx
   ·rename_i d hg hd;have hop:Zc6 ν (Ze T) o.op=o.op:=by
     obtain⟨d,g,op⟩:=o;cases op<;>first | rfl | (cases hm;done) | (rename_i k xs;cases k<;>first | rfl | cases hm)
    split at hx
    rotate_left
    ·rename_i p how;obtain⟨q,h1,h2⟩:=bind_some hx;split at h2
     ·rename_i hc;obtain⟨x,hp,c'⟩:=q;obtain⟨b,bo⟩:=p;obtain⟨z,x',y,g',z',off,n,hopa,hev⟩:∃z x' y g' z' off n,o.op=.app z x' y/\ev e.get x'=.bs b g' z' off n:=by
       unfold Zhq at how;split at how
       ·rename_i z x' y hoa;cases hv:ev e.get x'<;>rw[hv]at how<;>simp only[Zj3]at how<;>try (cases how;done)
        unfold Zkn at how
        grind
       grind
      obtain⟨hb1,⟨ox,hb2⟩,hb3,hb4⟩:h0.lookup b=none/\(∃ox,X.lookup b=some ox)/\h.lookup b=some bo/\bo.gen<c0:=by
       rw[hopa]at how;simp only[Zhq,hev,Zj3]at how;unfold Zkn at how
       grind
      have hbx:X.lookup b=some bo:=by
       rcases hinv b ox hb2 with h3 | ⟨o',h3,h4⟩
       all_goals grind
      obtain⟨bx,rfl,rfl,hbg⟩:=zww hev (by rw[hopa]at h1;exact h1);simp only[List.take_succ_cons,Yb7]at h2 hc;refine⟨hg,d,x,b,bx,some bo,hd,by rw[show (Zq ν (Ze T) o).op=o.op from hop];exact h1,hb3,hbx,hb1,fun o2 ho2=>by grind,fun g hgb=>?_,zci hO tl h0 X c0 hX0 l _ _ _ st' K (fun id y hy=>?_) (by omega) (fun id o2 ho2=>?_) h2 hK⟩
      ·obtain⟨hk,r,hr,y,hy,hgy⟩:=hgb;simp only[Zig,Ybv,Ycx,Yec,hk,if_true,Yn]at hc;exact zgt (hc r hr y hy) g hgy
      ·have hne:(id == b)=false:=by
        grind
       rw[Ya2,hne];exact hsb id y hy
      ·rw[Ya2];by_cases hi:id=b
       ·grind
       ·have hne:(id == b)=false:=by grind
        rw[hne];exact hinv id o2 ho2
     grind
    obtain⟨q,h1,h2⟩:=bind_some hx;split at h2
    ·rename_i hc;simp only[Ym]at hc;obtain⟨x,hp,c'⟩:=q;obtain⟨bx,rfl,rfl⟩:∃bx,hp=[(.loc d,bx)]/\c'=clk+1:=zpb hm h1;have hln:h.lookup (.loc d)=none:=Yc4.1 hc.1;have hB1:∀p∈[((.loc d:BId),bx)],h.lookup p.1=none:=fun p hp=>by grind
     refine⟨hg,d,x,.loc d,bx,none,hd,by rw[show (Zq ν (Ze T) o).op=o.op from hop];exact h1,hln,hXn _ hln,h0n _ (hXn _ hln),fun o2 ho2=>(by grind),fun g hgb=>?_,zci hO tl h0 X c0 hX0 l _ _ _ st' K (hadd [(.loc d,bx)] hB1) (by omega) (hiadd _ hB1) h2 hK⟩;obtain⟨hk,r,hr,y,hy,hgy⟩:=hgb;have h3:=hc.2;simp only[Zig,Ybv,Ycx,Yec,hk,if_true,Yn]at h3;exact zgt (h3 r hr y hy) g hgy
    grind
   grind
  | false=>
   rw[hm]at hx;cases hst:o.op.isStore with
   | true=>
    rw[hst]at hx;simp only at hx ⊢;split at hx
    ·rename_i hg hd;obtain⟨q,h1,h2⟩:=bind_some hx;split at h2
     ·rename_i hfr;obtain⟨dd,gg,op⟩:=o;subst hg hd;cases op<;>try (cases hst;done)
      rename_i n x v;obtain⟨h',e1,rfl⟩:=map_some h1;refine⟨rfl,rfl,h',?_,?_,zci hO tl h0 X c0 hX0 l e h' clk st' K ?_ hck ?_ h2 hK⟩
      ·show stepW (.store n x v) none e.get h clk=_;simp only[stepW,e1]
       rfl
      rotate_left 2
      ·intro id bx hid;simp only[Zga]at hfr;unfold Zbl at e1;split at e1
       ·rename_i id2 g z i o hx2;rw[hx2]at hfr;obtain⟨bx2,_,e2⟩:=bind_some e1;obtain⟨r2,_,e3⟩:=bind_some e2;obtain⟨cs,_,e4⟩:=bind_some e3;split at e4
        ·cases e4;have hne:(id == id2)=false:=by
          grind
         simp only[Ya2,hne];exact hinv id bx hid
        grind
       grind
      all_goals
       intro id bx hid;have h3:=hsb id bx hid;replace hid:=hX0 id bx hid;simp only[Zga]at hfr;unfold Zbl at e1;split at e1
       ·rename_i id2 g z i o hx2;rw[hx2]at hfr;simp only[Yc4]at hfr;obtain⟨bx2,_,e2⟩:=bind_some e1;obtain⟨r2,_,e3⟩:=bind_some e2;obtain⟨cs,_,e4⟩:=bind_some e3
        grind
       grind
     grind
    grind
   | false=>
   rw[hst]at hx;cases hlN:o.op.lentN with
   | some ua=>
    rw[hlN]at hx;simp only at hx;split at hx
    ·rename_i d hg hd;obtain⟨q,h1,h2⟩:=bind_some hx;split at h2
     ·rename_i hfr;obtain⟨m,hm2,hcb⟩:=zpr hO h1;obtain⟨dd,gg,op⟩:=o;subst hg hd;have hop:=zkg hlN;subst hop;rw[hm2]at h2;exact .inr ⟨rfl,ν ua.1,ua.2,d,q.1,q.2.1,m,rfl,rfl,hcb,fun p hp=>by simpa using Yn.1 hfr p hp,zci hO tl h0 X c0 hX0 l _ _ _ st' K (hadd _ fun p hp=>by simpa using Yn.1 hfr p hp) (by omega) (hiadd _ fun p hp=>by simpa using Yn.1 hfr p hp) h2 hK⟩
     grind
    grind
   | none=>
   rw[hlN]at hx;obtain⟨x,h1,h2⟩:=bind_some hx;split at h2
   ·rename_i hc;refine .inl ?_;exact(ze0 hO (K:=fun x=>(∀g∈gnA x,Zft c0 (Zq ν (Ze T) o).op e.get g)/\Zbu P h0 c0 X (fun e h clk=>Zdm P (tl.map (Zq ν (Ze T))) ⟨e,h,clk⟩ K) (l.map (Zq ν (Ze T))) (Zf e o.dst x) h clk) h1 ⟨zgt hc,zci hO tl h0 X c0 hX0 l _ h clk st' K hsb hck hinv h2 hK⟩).1
   grind
def zwx{O:Orc}{u:Nat}{xs:List AV}{d:Option Nat}{st s:St}(h:Zah O T u xs d st=some s):∃r,s.env=Zf st.env d r:=by
 unfold Zah at h;split at h
 ·cases h
 split at h
 ·obtain⟨ys,h1,h2⟩:=bind_some h;obtain⟨r,h3,h4⟩:=bind_some h2;cases h4;exact⟨_,rfl⟩
 ·obtain⟨ys,h1,h2⟩:=bind_some h;simp only at h2;split at h2
  ·obtain⟨r,h3,h4⟩:=bind_some h2;split at h4
   ·cases h4;exact⟨_,rfl⟩
   ·cases h4
  ·cases h2
def zs4{f:FuncId}{xs:List AV}{h:Heap}{K K':AV->Heap->Prop}(hk:∀r h,K r h->K' r h)(hc:Zfr P f xs h K):Zfr P f xs h K':=by
 obtain⟨ys,post,h1,h2,h3⟩:=hc;exact⟨ys,post,h1,h2,fun r hr=>hk _ _ (h3 r hr)⟩
def zs5{f:FuncId}{xs:List AV}{h:Heap}{clk:Nat}{K K':AV->Heap->Nat->Prop}(hk:∀r h c,K r h c->K' r h c)(hc:Zfs P f xs h clk K):Zfs P f xs h clk K':=by
 obtain⟨ms,ys,h1,hb,hr,post,h2,h3,h4,h5⟩:=hc;refine⟨ms,ys,h1,hb,hr,post,h2,h3,h4,fun r hb' c' h6 h7=>?_⟩;obtain⟨e1,e2,e3,e4⟩:=h5 r hb' c' h6 h7;exact⟨e1,e2,e3,hk _ _ _ e4⟩
def zrf{op:AOp}{e:Env}{h:Heap}{older:List Heap}{K K':AV->Prop}(hk:∀x,K x->K' x)(hc:opQ P op e h older K):opQ P op e h older K':=by
 by_cases hap:∃z x0 y,op=.app z x0 y
 ·obtain⟨z,x0,y,rfl⟩:=hap;by_cases hx:x0=.c (.sl [] .nl)
  ·subst hx;obtain⟨x,h1,h2⟩:=hc;exact⟨x,h1,hk _ h2⟩
  ·cases x0 with
   | t n=>
    obtain⟨x,h1,h2,h3⟩:=hc;exact⟨x,h1,h2,hk _ h3⟩
   | c a=>
    cases a
    case sl els f=>
     cases els with
     | nil=>
      cases f
      case nl=>exact absurd rfl hx
      all_goals
       obtain⟨x,h1,h2,h3⟩:=hc;exact⟨x,h1,h2,hk _ h3⟩
     | cons r l=>
      obtain⟨x,h1,h2,h3⟩:=hc;exact⟨x,h1,h2,hk _ h3⟩
    all_goals
     obtain⟨x,h1,h2,h3⟩:=hc;exact⟨x,h1,h2,hk _ h3⟩
 cases op<;>(try exact absurd ⟨_,_,_,rfl⟩ hap)
 case call f args=>
  obtain⟨ys,h1,r,h3,h4⟩:=hc;exact⟨ys,h1,r,h3,hk _ h4⟩
 case inv=>
  obtain⟨h0,t,y,f,h1,h2,h3,r,h4,h5⟩:=hc;exact⟨h0,t,y,f,h1,h2,h3,r,h4,hk _ h5⟩
 case bsl=>
  obtain⟨h1,q,h2,h3⟩:=hc;exact⟨h1,q,h2,hk _ h3⟩
 all_goals
  obtain⟨x,h1,h2,h3⟩:=hc;exact⟨x,h1,h2,hk _ h3⟩
def z3k{o:AO}{e:Env}{h:Heap}{older:List Heap}{K K':AV->Prop}(hk:∀x,K x->K' x)(hc:qK P o e h older K):qK P o e h older K':=by
 unfold qK at hc ⊢;split at hc
 ·exact zrf hk hc
 ·split at hc
  ·split at hc
   ·rename_i hv;simp only[hv,if_true];exact zrf hk hc
   ·rename_i hv;simp only[hv,if_false];exact hk _ hc
  ·exact hk _ hc
  ·exact hc
def zd9(hO:GoodO P ν T O){o:AO}{e:Env}{h:Heap}{clk:Nat}{s:St}(hx:Zeo O T o ⟨e,h,clk⟩=some s):∃x,Zd4 P (Zq ν (Ze T) o) e.get h clk x s.heap s.clk/\s.env=Zf e o.dst x:=by
 obtain⟨dst,g,op⟩:=o;unfold Zeo at hx;simp only at hx;split at hx
 ·rename_i d u args;obtain⟨x,hx2⟩:=zwx hx;have hc:=zdf hO (K:=fun s'=>s'=s) hx rfl;refine⟨x,⟨rfl,ν u,args,rfl,?_⟩,hx2⟩;have key:∀r (h':Heap) (c:Nat),(⟨Zf e (some d) r,h',c⟩:St)=s->r=x/\h'=s.heap/\c=s.clk:=by
   intro r h' c he;subst he;simp only[Zf]at hx2
   simp_all
  rcases hc with hc | hc
  ·exact .inl (zs4 (fun r h' hk=>key r h' clk hk) hc)
  ·exact .inr (zs5 (fun r h' c hk=>key r h' c hk) hc)
 ·cases hx
def QS(P:Program)(h0 h1:Heap):List AO->Env->Env->Prop
 | [],e,e'=>e=e'
 | o::r,e,e'=>∃x,QF P h0 o e.get x/\QF P h1 o e.get x/\QS P h0 h1 r (Zf e o.dst x) e'
def zf3(hO:GoodO P ν T O){o:DO}{e:Env}{h:Heap}{older:List Heap}{r:AV×Bool}(hw:o.ao.op.writes=false)(hx:qX O T o.ao e h older=some r) :
  QF P h (Zq ν (Ze T) o.ao) e.get r.1/\(∀h'∈older,QF P h' (Zq ν (Ze T) o.ao) e.get r.1)/\((∀h',QF P h' (Zq ν (Ze T) o.ao) e.get r.1)\/(r.2=true/\o.ao.op.free=false/\∀h',Zgp o.ao.op e.get h'=some r.1->QF P h' (Zq ν (Ze T) o.ao) e.get r.1)):=by
 have hw':(Zq ν (Ze T) o.ao).op.writes=false:=by
  rw[<-hw];exact zbm _
 obtain⟨hqk,k1,k2⟩:=ze0 hO (K:=fun x=>x=r.1) hx rfl;obtain⟨x,hq1,hq2,hxr⟩:=zsl hw' hqk;subst hxr;refine⟨hq1,fun h' hh=>?_,?_⟩
 ·cases hf:(Zq ν (Ze T) o.ao).op.freeE e.get with
  | true=>exact zlg hf h _ hq1
  | false=>exact hq2 hf h' hh
 ·cases hr2:r.2 with
  | false=>
   obtain⟨h3,h4⟩:=k2 hr2;exact .inl fun h'=>by
    rw[h3];exact zwv h4
  | true=>
   cases hf:o.ao.op.free with
   | true=>exact .inl fun h'=>zrd (zre hx hr2 hf) hq1
   | false=>exact .inr ⟨rfl,rfl,fun h' hs=>zrc hf hw (k1 hr2) hs⟩
theorem zkh(hO:GoodO P ν T O){K:Env->Zal->Option St}{h:Heap}:∀(l:List DO) (e:Env) (pend:Zal) (st':St),(∀o∈l,0<o.hi)->Zdf O T K h l e pend=some st' ->
  ∃e' pend',K e' pend'=some st'/\∀h1,Zaf pend' h1=true->Zaf pend h1=true/\QS P h h1 (l.map fun o=>Zq ν (Ze T) o.ao) e e'
 | [],e,pend,st',_,hx=>⟨e,pend,hx,fun h1 hp=>⟨hp,rfl⟩⟩
 | o::l,e,pend,st',hhi,hx=>by
  unfold Zdf at hx;split at hx
  ·cases hx
  rename_i hw;obtain⟨r,h1,h2⟩:=bind_some hx;obtain⟨e',pend',h3,h4⟩:=zkh hO l _ _ st' (fun o ho=>hhi o (Yj _ ho)) h2;obtain⟨q1,_,q2⟩:=zf3 hO hw h1;refine⟨e',pend',h3,fun hp1 hp=>?_⟩;obtain⟨h5,h6⟩:=h4 hp1 hp;have hpn:=hhi o Yl;have hold:Zaf pend hp1=true:=by
   classical
   unfold Zaf;refine decide_eq_true fun p hp h0=>zch h5 p ?_ h0;unfold Zbo;split
   ·exact Yj _ hp
   ·exact hp
  refine⟨hold,r.1,q1,?_,h6⟩;rcases q2 with q2 | ⟨e1,e2,q2⟩
  ·exact q2 hp1
  ·refine q2 hp1 (zch h5 (o.hi-0,o.ao.op,e,r.1) ?_ (by simpa using hpn));unfold Zbo;rw[e1,e2];simp[hpn]
theorem znp{h0 h1:Heap}{c0 c1:Nat}{K:St->Prop}{tl:List AO}:∀(l r:List AO) (e e':Env),QS P h0 h1 l e e'->Zde P tl h0 c0 h1 c1 K false r e'->Zde P tl h0 c0 h1 c1 K false (l++r) e
 | [],r,e,e',hq,hk=>by cases hq;exact hk
 | o::l,r,e,e',⟨x,h2,h3,h4⟩,hk=>.inl ⟨x,h2,h3,znp l r _ e' h4 hk⟩
theorem zio(hO:GoodO P ν T O){K:Env->Option St}{h0 h1:Heap}{c0 c1:Nat}{Q:St->Prop}{tl:List AO}{st':St}(hK:∀e,K e=some st'->Zdm P tl ⟨e,h1,c1⟩ Q):∀(l:List AO) (e:Env),Zdg O T K h0 h1 l e=some st' ->
  Zde P tl h0 c0 h1 c1 Q true (l.map (Zq ν (Ze T))) e
 | [],e,hx=>⟨rfl,hK e hx⟩
 | o::l,e,hx=>by
  unfold Zdg at hx;split at hx
  ·cases hx
  rename_i hw;obtain⟨r,e1,e2⟩:=bind_some hx;obtain⟨q1,q2,_⟩:=zf3 hO (o:=⟨o,0,0⟩) hw e1;exact .inl ⟨r.1,q2 h0 Yl,q1,zio hO hK l _ e2⟩
def zps(hO:GoodO P ν T O){l1 l2 tl:List AO}{o:AO}{st st':St}{K:St->Prop}(hx:Zgq O T l1 o l2 tl st=some st')(hK:K st') :
  ∃h1 c1,Zde P (tl.map (Zq ν (Ze T))) st.heap st.clk h1 c1 K false (l1.map (Zq ν (Ze T))++Zq ν (Ze T) o::l2.map (Zq ν (Ze T))) st.env:=by
 unfold Zgq at hx;obtain⟨e',pend',h1,h2⟩:=zkh hO _ _ _ st' (fun o ho=>by
  obtain⟨o',_,rfl⟩:=Yv.1 ho;exact Nat.one_pos) hx
 obtain⟨s,h3,h4⟩:=bind_some h1;split at h4
 ·rename_i hpd;obtain⟨x,hcd,henv⟩:=zd9 hO h3;obtain⟨_,hqs⟩:=h2 s.heap hpd;refine⟨s.heap,s.clk,znp _ _ _ e' (by simpa[Ybt,Function.comp_def]using hqs) (.inr ⟨rfl,x,hcd,?_⟩)⟩;show Zde P _ st.heap st.clk s.heap s.clk K true _ (Zf e' o.dst x);rw[<-henv];exact zio hO (fun e he=>zc3 hO tl _ st' K he hK) l2 _ h4
 ·cases h4
theorem zel{K:St->Prop}:∀(l:List DO) (e:Env) (h:Heap) (clk:Nat) (older:List Heap) (pend:Zh9),Ze8 P l e h clk older pend K->Zbv P (l.map fun o=>(false,o)) e h clk older pend K
 | [],_,_,_,_,_,h=>h
 | o::l,e,h,clk,older,pend,hk=>by
  simp only[Y3,Zbv];simp only[Ze8]at hk;cases hw:o.ao.op.writes with
  | true=>
   rw[hw]at hk;obtain⟨h1,q,h2,h3,h4⟩:=hk;exact⟨h1,q,h2,h3,zel l _ _ _ _ _ h4⟩
  | false=>
   rw[hw]at hk;simp only at hk ⊢;exact z3k (fun x hx=>zel l _ _ _ _ _ hx) hk
theorem zki(hO:GoodO P ν T O){K:Env->Zal->Option St}{h:Heap}{clk:Nat}{rest:List (Bool×DO)}{Q:St->Prop}{st':St}(hK:∀e pendX pend,Ze3 pendX pend->K e pendX=some st'->Zbv P rest e h clk [] pend Q) :
  ∀(l:List DO) (e:Env) (pendX:Zal) (pend:Zh9),Ze3 pendX pend->Zdf O T K h l e pendX=some st'->Zbv P ((l.map fun o=>(false,Zcm ν (Ze T) o))++rest) e h clk [] pend Q
 | [],e,pendX,pend,hpr,hx=>hK e pendX pend hpr hx
 | o::l,e,pendX,pend,hpr,hx=>by
  unfold Zdf at hx;split at hx
  ·cases hx
  rename_i hw;have hw':(Zcm ν (Ze T) o).ao.op.writes=false:=by
   rw[<-hw];exact zbm _
  obtain⟨r,h1,h2⟩:=bind_some hx;simp only[Y3,Ycd,Zbv,hw',List.take_nil];have hk2:Zbv P ((l.map fun o=>(false,Zcm ν (Ze T) o))++rest) (Zf e o.ao.dst r.1) h clk [] ((o.hi,fun h'=>QF P h' (Zq ν (Ze T) o.ao) e.get r.1)::pend) Q:=by
   refine zki hO hK l _ _ _ ?_ h2;obtain⟨_,_,q2⟩:=zf3 hO hw h1;intro q hq;rcases Yr.1 hq with rfl | hq
   ·rcases q2 with q2 | ⟨e1,e2,q2⟩
    ·exact .inl q2
    ·by_cases hn:0<o.hi
     ·refine .inr (.inr ⟨(o.hi-0,o.ao.op,e,r.1),?_,rfl,q2⟩);unfold Zbo;rw[e1,e2];simp[hn]
     ·exact .inr (.inl (by show o.hi=0;omega))
   ·rcases hpr q hq with h3 | h3 | ⟨p,h3,h4,h5⟩
    ·exact .inl h3
    ·exact .inr (.inl h3)
    ·refine .inr (.inr ⟨p,?_,h4,h5⟩);unfold Zbo;split
     ·exact Yj _ h3
     ·exact h3
  exact(ze0 hO (K:=fun x=>Zbv P ((l.map fun o=>(false,Zcm ν (Ze T) o))++rest) (Zf e o.ao.dst x) h clk [] ((o.hi,fun h'=>QF P h' (Zq ν (Ze T) o.ao) e.get x)::pend) Q) h1 hk2).1
def zpt(hO:GoodO P ν T O){l1 l2:List DO}{o:AO}{st st':St}{K:St->Prop}(hx:Zgr O T l1 o l2 st=some st')(hK:K st') :
  Zbv P ((l1.map (Zcm ν (Ze T))).map (fun o=>(false,Zer 0 o))++(true,⟨Zq ν (Ze T) o,0,0⟩)::(l2.map (Zcm ν (Ze T))).map (fun o=>(false,Zer 0 o))) st.env st.heap st.clk [] [] K/\o.op.writes=false:=by
 unfold Zgr at hx;split at hx
 ·cases hx
 rename_i hwn;refine⟨?_,by simpa using hwn⟩;have hadj:∀l:List DO,(l.map (Zcm ν (Ze T))).map (fun o=>(false,Zer 0 o))=(l.map (Zer 0)).map (fun o=>(false,Zcm ν (Ze T) o)):=fun l=>by
  simp only[Ybt]
  rfl
 rw[hadj l1,hadj l2];refine zki hO (fun e pendX pend hpr h1=>?_) _ _ _ _ (fun q hq=>by cases hq) hx;obtain⟨s,h3,h4⟩:=bind_some h1;split at h4
 ·rename_i hpd;obtain⟨x,hcd,henv⟩:=zd9 hO h3;refine⟨x,s.heap,s.clk,hcd,fun p hp h0=>?_,?_⟩
  ·rcases hpr p hp with h5 | h5 | ⟨p',h5,h6,h7⟩
   ·exact h5 _
   ·omega
   ·exact h7 _ (zch hpd p' h5 (by omega))
  ·show Zbv P _ (Zf e o.dst x) s.heap s.clk [st.heap] _ K;rw[<-henv];have:=zdg hO (l2.map (Zer 0)) s.env s.heap s.clk [st.heap] _ (pend.map fun p=>(p.1-1,p.2)) st' K hpr.next h4 hK;have h8:=zel _ _ _ _ _ _ this;rw[Ybt]at h8;exact h8
 ·cases h4
theorem zwy{hs hs':List Heap}(h:∀x∈hs',x∈hs):∀(l:List AO) (e e':Env),QL P hs l e e'->QL P hs' l e e'
 | [],e,e',hq=>hq
 | o::l,e,e',⟨x,h1,h2⟩=>⟨x,fun y hy=>h1 y (h y hy),zwy h l _ _ h2⟩
theorem zkj(hO:GoodO P ν T O){K:Env->Zal->Option St}{h:Heap}:∀(l:List DO) (e:Env) (pend:Zal) (st':St),(∀o∈l,0<o.hi)->Zdf O T K h l e pend=some st' ->
  (∀o∈l,o.ao.op.writes=false)/\∃e' pend',K e' pend'=some st'/\∀hs:List Heap,(∀h1∈hs,Zaf pend' h1=true)->(∀h1∈hs,Zaf pend h1=true)/\QL P (h::hs) (l.map fun o=>Zq ν (Ze T) o.ao) e e'
 | [],e,pend,st',_,hx=>⟨(fun o ho=>by cases ho),e,pend,hx,fun hs hp=>⟨hp,rfl⟩⟩
 | o::l,e,pend,st',hhi,hx=>by
  unfold Zdf at hx;split at hx
  ·cases hx
  rename_i hw;obtain⟨r,h1,h2⟩:=bind_some hx;obtain⟨hwl,e',pend',h3,h4⟩:=zkj hO l _ _ st' (fun o ho=>hhi o (Yj _ ho)) h2;obtain⟨q1,_,q2⟩:=zf3 hO hw h1;refine⟨fun o' ho=>?_,e',pend',h3,fun hs hp=>?_⟩
  ·rcases Yr.1 ho with rfl | ho
   ·exact hw
   ·exact hwl o' ho
  obtain⟨h5,h6⟩:=h4 hs hp;have hpn:=hhi o Yl;refine⟨fun hp1 hm=>?_,r.1,fun hp1 hm=>?_,h6⟩
  ·classical
   unfold Zaf;refine decide_eq_true fun p hp h0=>zch (h5 hp1 hm) p ?_ h0;unfold Zbo;split
   ·exact Yj _ hp
   ·exact hp
  ·rcases Yr.1 hm with rfl | hm
   ·exact q1
   ·rcases q2 with q2 | ⟨e1,e2,q2⟩
    ·exact q2 hp1
    ·refine q2 hp1 (zch (h5 hp1 hm) (o.hi-0,o.ao.op,e,r.1) ?_ (by simpa using hpn));unfold Zbo;rw[e1,e2];simp[hpn]
theorem ziq(hO:GoodO P ν T O){K:Env->Option St}{hs:List Heap}{h1:Heap}{st':St}:∀(l:List AO) (e:Env),Zdh O T K hs h1 l e=some st' ->
  (∀o∈l,o.op.writes=false)/\∃e',K e'=some st'/\QL P (h1::hs) (l.map (Zq ν (Ze T))) e e'
 | [],e,hx=>⟨(fun o ho=>by cases ho),e,hx,rfl⟩
 | o::l,e,hx=>by
  unfold Zdh at hx;split at hx
  ·cases hx
  rename_i hw;obtain⟨r,e1,e2⟩:=bind_some hx;obtain⟨q1,q2,_⟩:=zf3 hO (o:=⟨o,0,0⟩) hw e1;obtain⟨hwl,e',h3,h4⟩:=ziq hO l _ e2;refine⟨fun o' ho=>?_,e',h3,r.1,fun hp hm=>?_,h4⟩
  ·rcases Yr.1 ho with rfl | ho
   ·exact hw
   ·exact hwl o' ho
  ·rcases Yr.1 hm with rfl | hm
   ·exact q1
   ·exact q2 hp hm
def zwz{h h':Heap}(hs:Zlt h h'=true):Zj2 h h':=by
 classical
 unfold Zlt at hs;intro b bx hb;exact of_decide_eq_true hs (b,bx) (za9 _ _ _ hb)
def zpu(hO:GoodO P ν T O){cx:Cx}(hP:cx.P=P){l1 l2:List DO}{o:AO}{da n:Nat}{cs:List AV}{xs vs:Opd}{st st':St}{Q:Exit->St->Prop}(hx:Zfa O T l1 o l2 da cs n xs vs st=some st')(hK:Q .normal st') :
  AWp cx (.draw (l1.map (Zcm ν (Ze T)) ++ ⟨Zq ν (Ze T) o,0,1⟩::(l2.map (Zcm ν (Ze T))++[⟨⟨some da,none,.alloc cs⟩,0,1⟩,⟨⟨none,none,.store n xs vs⟩,1,2⟩]))) Q st:=by
 subst hP;unfold Zfa at hx;split at hx
 case isFalse=>cases hx
 rename_i hlow;simp only[Ym,Bool.not_eq_true']at hlow;obtain⟨⟨hl1,hl2⟩,how⟩:=hlow;obtain⟨hw1,e',pend',h1,h2⟩:=zkj hO _ _ _ st' (fun o ho=>by
  obtain⟨o',_,rfl⟩:=Yv.1 ho;exact Nat.one_pos) hx
 obtain⟨s1,h3,h4⟩:=bind_some h1;obtain⟨s2,h5,h6⟩:=bind_some h4;split at h6
 case isFalse=>cases h6
 rename_i hc;simp only[Ym]at hc;obtain⟨⟨⟨p1,p2⟩,p3⟩,hsame,hsub⟩:=hc;obtain⟨i1,i2,i3⟩:s2.env=s1.env/\st.clk<=s1.clk/\s1.clk+1<=s2.clk:=by
  classical
  unfold Zko at hsame;exact of_decide_eq_true hsame
 obtain⟨x,hcd,henv⟩:=zd9 hO h3;obtain⟨x2,hcd2,henv2⟩:=zd9 hO h5;have hxx:x2=x:=by
  rw[henv,henv2]at i1;obtain⟨dst,g,op⟩:=o;unfold Zeo at h3;simp only at h3 i1;split at h3
  ·simp only[Zf,List.cons.injEq,Prod.mk.injEq,and_true,true_and]at i1;exact i1
  ·cases h3
 subst hxx;obtain⟨hw2,e2,h7,h8⟩:=ziq hO _ _ h6;obtain⟨h9,hst,hq2⟩:=map_some h7;subst hq2;obtain⟨_,hq1⟩:=h2 [s1.heap,(.loc da,⟨s1.clk,.str,cs.length,[cs]⟩)::st.heap,s2.heap] (fun y hy=>by
  simp only[Yr,Ya6,or_false]at hy;rcases hy with rfl | rfl | rfl
  ·exact p1
  ·exact p2
  ·exact p3)
 refine zwk (h1:=s1.heap) (hb:=s2.heap) (hm:=s2.heap) (c1:=s1.clk) (cb:=s2.clk) (cm:=s2.clk) (e1:=e') (e2:=e2) (x:=x2) (fun d hd=>?_) (by show (Zc6 ν (Ze T) o.op).writes=false;rw[zbm];exact how) ?_ hcd hcd2 (fun _ _ h=>h) (Yd _) ?_ (zwz hsub) hst hK i2 i3
 ·unfold Ziq at hl1 hl2;rw[Yn]at hl1 hl2;rcases Yao.1 hd with hd | hd
  ·obtain⟨d',hd',rfl⟩:=Yv.1 hd;refine⟨of_decide_eq_true (hl1 d' hd'),?_⟩;show (Zc6 ν (Ze T) d'.ao.op).writes=false;rw[zbm];exact hw1 ⟨d'.ao,0,1⟩ (Yv.2 ⟨d',hd',rfl⟩)
  ·obtain⟨d',hd',rfl⟩:=Yv.1 hd;refine⟨of_decide_eq_true (hl2 d' hd'),?_⟩;show (Zc6 ν (Ze T) d'.ao.op).writes=false;rw[zbm];exact hw2 d'.ao (Yv.2 ⟨d',hd',rfl⟩)
 ·have:=zwy (hs':=[st.heap,s1.heap,(.loc da,⟨s1.clk,.str,cs.length,[cs]⟩)::st.heap,s2.heap]) (fun y hy=>hy) _ _ _ hq1;simpa[Ybt,Function.comp_def,Zcm]using this
 ·have:=zwy (hs':=[st.heap,s1.heap,(.loc da,⟨s1.clk,.str,cs.length,[cs]⟩)::st.heap,s2.heap]) (fun y hy=>by
   simp only[Yr,Ya6,or_false]at hy ⊢;rcases hy with h | h | h | h
   ·exact .inr (.inl h)
   ·exact .inr (.inr (.inl h))
   ·exact .inr (.inr (.inr h))
   ·exact .inl h) _ _ _ h8
  rw[henv]at this;rw[Ybt]at this ⊢;exact this
def zw0{cx:Cx}{c:AC}{st:St}{id:Nat}{o:Option (Ex×St)}{e:Ex}{st':St}(h0:∀e1 s1,o=some (e1,s1)->AWp cx c (Is e1 s1) st)
  (h:(o.bind fun r=>match r.1 with | .x j=>if j=id then some (Ex.n,r.2) else some r | _=>some r)=some (e,st')):AWp cx (.block id c) (Is e st') st:=by
 obtain⟨⟨e1,s1⟩,h1,h2⟩:=bind_some h;refine zmy ((h0 e1 s1 h1).mono ?_)
 rintro ex s ⟨rfl,rfl⟩
 cases e1 with
 | n=>cases h2;exact⟨rfl,rfl⟩
 | x j=>
  simp only at h2;show Zee id _ (.exit j) _;simp only[Zee];split at h2
  ·rename_i hj;rw[if_pos hj];cases h2;exact⟨rfl,rfl⟩
  ·rename_i hj;rw[if_neg hj];cases h2;exact⟨rfl,rfl⟩
 | r=>cases h2;exact⟨rfl,rfl⟩
 | g l=>cases h2;exact⟨rfl,rfl⟩
def z0b{k:Nat}{cx:Cx}(hk:cx.clk0=k+1){c:AC}{st:St}{g:Gh}{o:Option (Ex×St)}{e:Ex}{st':St}(h0:∀e1 s1,o=some (e1,s1)->AWp cx c (Is e1 s1) st)
  (h:(o.bind fun r=>match r.1 with | .n=>(ghS k g r.2).map fun s=>(Ex.n,s) | _=>some r)=some (e,st')):AWp cx c (Is e st') st:=by
 obtain⟨⟨e1,s1⟩,h1,h2⟩:=bind_some h;intro code hc hm a w hr;refine wp_mono (h0 e1 s1 h1 code hc hm a w hr) ?_
 rintro ex a' w' ⟨s,⟨rfl,rfl⟩,hr'⟩
 cases e1 with
 | n=>
  obtain⟨s2,h3,h4⟩:=map_some h2;cases h4;exact⟨_,⟨rfl,rfl⟩,hr'.gh hk h3⟩
 | x id=>cases h2;exact⟨_,⟨rfl,rfl⟩,hr'⟩
 | r=>cases h2;exact⟨_,⟨rfl,rfl⟩,hr'⟩
 | g l=>cases h2;exact⟨_,⟨rfl,rfl⟩,hr'⟩
theorem za5(hO:GoodO P ν T O){k:Nat}{cx:Cx}(hP:cx.P=P)(hk:cx.clk0=k+1):∀(c:AX) (st:St) (e:Ex) (st':St),evX O T k c st=some (e,st')->AWp cx (er ν (Ze T) c) (Is e st') st
 | .skip,st,e,st',h=>by cases h;exact zzw ⟨rfl,rfl⟩
 | .reg l,st,e,st',h=>by
  obtain⟨s,h1,h2⟩:=map_some h;cases h2;refine z3a ?_;rw[hP];exact zc3 hO l st st' _ h1 ⟨rfl,rfl⟩
 | .draw l,st,e,st',h=>by
  obtain⟨s,h1,h2⟩:=map_some h;cases h2;refine zzx ?_;rw[hP];exact zdg hO l _ _ _ _ _ _ st' _ (fun q hq=>by simp at hq) h1 ⟨rfl,rfl⟩
 | .drawT hd tl,st,e,st',h=>by
  obtain⟨s,h1,h2⟩:=map_some h;cases h2;refine zmx ?_;rw[hP];exact zin hO tl hd _ _ _ st' _ h1 ⟨rfl,rfl⟩
 | .drawM hd tl,st,e,st',h=>by
  obtain⟨s,h1,h2⟩:=map_some h;cases h2;refine zvu (zfl (Zey hd st.env) st.heap) ?_;rw[hP];exact zci hO tl _ _ _ (zfl _ _) hd _ _ _ st' _ (zfl _ _) (Yd _) (fun _ _ h=>.inl h) h1 ⟨rfl,rfl⟩
 | .drawC l1 o l2 tl,st,e,st',h=>by
  obtain⟨s,h1,h2⟩:=map_some h;cases h2;obtain⟨hp1,c1,h3⟩:=zps hO (K:=fun s=>Is .n st' .normal s) h1 ⟨rfl,rfl⟩;rw[<-hP]at h3;exact zwg h3
 | .drawN l1 o l2,st,e,st',h=>by
  obtain⟨s,h1,h2⟩:=map_some h;cases h2;obtain⟨h3,h4⟩:=zpt hO (K:=fun s=>Is .n st' .normal s) h1 ⟨rfl,rfl⟩;rw[<-hP]at h3;refine zwh ?_ h3;show (Zc6 ν (Ze T) o.op).writes=false;rw[zbm];exact h4
 | .drawR hd tl,st,e,st',h=>by
  obtain⟨s,h1,h2⟩:=map_some h;cases h2;refine zmx ?_;rw[hP];exact zfk hO tl hd _ _ _ st' _ h1 ⟨rfl,rfl⟩
 | .drawP l1 o l2 da cs n xs vs,st,e,st',h=>by
  obtain⟨s,h1,h2⟩:=map_some h;cases h2;exact zpu hO hP h1 ⟨rfl,rfl⟩
 | .bad,st,e,st',h=>by cases h
 | .prim f,st,e,st',h=>by cases h
 | .seq a b,st,e,st',h=>by
  obtain⟨⟨e1,s1⟩,h1,h2⟩:=bind_some h;refine z3b ((za5 hO hP hk a st e1 s1 h1).mono ?_)
  rintro ex s ⟨rfl,rfl⟩
  cases e1 with
  | n=>exact za5 hO hP hk b _ e st' h2
  | x id=>cases h2;exact⟨rfl,rfl⟩
  | r=>cases h2;exact⟨rfl,rfl⟩
  | g l=>cases h2;exact⟨rfl,rfl⟩
 | .cond c x y,st,e,st',h=>by
  simp only[evX]at h;split at h
  ·rename_i t ht;refine zzy ht (fun h1=>?_) (fun h1=>?_)
   ·subst h1;exact za5 hO hP hk x st e st' (by simpa using h)
   ·subst h1;exact za5 hO hP hk y st e st' (by simpa using h)
  ·cases h
 | .block id c,st,e,st',h=>by
  obtain⟨⟨e1,s1⟩,h1,h2⟩:=bind_some h;refine zmy ((za5 hO hP hk c st e1 s1 h1).mono ?_)
  rintro ex s ⟨rfl,rfl⟩
  cases e1 with
  | n=>cases h2;exact⟨rfl,rfl⟩
  | x j=>
   simp only at h2;show Zee id _ (.exit j) _;simp only[Zee];split at h2
   ·rename_i hj;rw[if_pos hj];cases h2;exact⟨rfl,rfl⟩
   ·rename_i hj;rw[if_neg hj];cases h2;exact⟨rfl,rfl⟩
  | r=>cases h2;exact⟨rfl,rfl⟩
  | g l=>cases h2;exact⟨rfl,rfl⟩
 | .loop c,st,e,st',h=>zim (hO.loop k c st e st' (by simpa only[evX]using h) cx hP hk)
 | .exit id,st,e,st',h=>by cases h;exact zzz ⟨rfl,rfl⟩
 | .ret,st,e,st',h=>by cases h;exact z3c ⟨rfl,rfl⟩
 | .note c g,st,e,st',h=>by
  obtain⟨⟨e1,s1⟩,h1,h2⟩:=bind_some h;intro code hc hm a w hr;refine wp_mono (za5 hO hP hk c st e1 s1 h1 code hc hm a w hr) ?_
  rintro ex a' w' ⟨s,⟨rfl,rfl⟩,hr'⟩
  cases e1 with
  | n=>
   obtain⟨s2,h3,h4⟩:=map_some h2;cases h4;exact⟨_,⟨rfl,rfl⟩,hr'.gh hk h3⟩
  | x id=>cases h2;exact⟨_,⟨rfl,rfl⟩,hr'⟩
  | r=>cases h2;exact⟨_,⟨rfl,rfl⟩,hr'⟩
  | g l=>cases h2;exact⟨_,⟨rfl,rfl⟩,hr'⟩
 | .lp id g c g2,st,e,st',h=>by
  obtain⟨s,h1,h2⟩:=bind_some h;have h3:((O.loop k c s).bind fun r=>match r.1 with | .x j=>if j=id then some (Ex.n,r.2) else some r | _=>some r).bind (fun r=>match r.1 with | .n=>(ghS k g2 r.2).map fun s=>(Ex.n,s) | _=>some r)=some (e,st'):=by
   rw[<-h2];cases O.loop k c s with
   | none=>rfl
   | some r=>
    obtain⟨e1,s1⟩:=r;cases e1 with
    | n=>rfl
    | r=>rfl
    | g l=>rfl
    | x j=>
     simp only[Yab];split<;>rfl
  have h4:AWp cx (.block id (.loop (er ν (Ze T) c))) (Is e st') s:=
   z0b hk (fun e1 s1 he=>zw0 (fun e2 s2 he2=>zim (hO.loop k c s e2 s2 he2 cx hP hk)) he) h3
  intro code hc hm a w hr;exact h4 code hc hm a w (hr.gh hk h1)
 | .scope c,st,e,st',h=>by
  obtain⟨⟨e1,s1⟩,h1,h2⟩:=bind_some h;refine zvv ((za5 hO hP hk c st e1 s1 h1).mono ?_)
  rintro ex s ⟨rfl,rfl⟩
  cases e1 with
  | g l=>cases h2
  | n=>cases h2;exact⟨fun l he=>(by cases he),rfl,rfl⟩
  | x j=>cases h2;exact⟨fun l he=>(by cases he),rfl,rfl⟩
  | r=>cases h2;exact⟨fun l he=>(by cases he),rfl,rfl⟩
 | .label l,st,e,st',h=>by cases h;exact zvw ⟨rfl,rfl⟩
 | .goto l,st,e,st',h=>by cases h;exact zz0 ⟨rfl,rfl⟩
 | .gsc l c r,st,e,st',h=>by
  have key:∀n o,Zkp (fun s=>evX O T k r s) l n o=some (e,st')->∃e1 s1,o=some (e1,s1)/\GQ cx l (er ν (Ze T) r) (Is e st') n e1.out s1:=by
   intro n
   induction n with
   | zero=>intro o h;cases h
   | succ n ih=>
    intro o h;simp only[Zkp]at h;obtain⟨⟨e1,s1⟩,h1,h2⟩:=bind_some h;refine⟨e1,s1,h1,?_⟩;cases e1 with
    | g j=>
     simp only at h2;split at h2
     ·rename_i hj;obtain⟨e2,s2,h3,h4⟩:=ih _ h2;refine⟨hj,(za5 hO hP hk r s1 e2 s2 h3).mono ?_⟩
      rintro ex s ⟨rfl,rfl⟩
      exact h4
     ·cases h2
    | n=>cases h2;exact⟨rfl,rfl⟩
    | x j=>cases h2;exact⟨rfl,rfl⟩
    | r=>cases h2;exact⟨rfl,rfl⟩
  obtain⟨e1,s1,h1,h2⟩:=key _ _ h;refine z3d 100 ((za5 hO hP hk c st e1 s1 h1).mono ?_)
  rintro ex s ⟨rfl,rfl⟩
  exact h2
 | .pre g c,st,e,st',h=>by
  obtain⟨s,h1,h2⟩:=bind_some h;intro code hc hm a w hr;exact za5 hO hP hk c s e st' h2 code hc hm a w (hr.gh hk h1)
def zs6{f:FuncId}{xs:List AV}{hb:Heap}{k:Nat}{ex:Bool}{x:AV}{hh:Heap}{cc:Nat}(h:Zd2 P f xs hb (k+1) (fun r h c=>r=x/\h=hh/\c=cc)) :
  Zd2 P f xs hb (k+1) (fun r h c=>r=(Zc4 ex k [0] ⟨[(0,x)],hh,cc⟩).env.get 0/\h=(Zc4 ex k [0] ⟨[(0,x)],hh,cc⟩).heap/\c=(Zc4 ex k [0] ⟨[(0,x)],hh,cc⟩).clk):=by
 refine⟨h.1,fun w S M cargs hl hC hheap hS hM=>(h.2 w S M cargs hl hC hheap hS hM).mono ?_⟩;intro e w' ⟨v,r,h',S',M',clk',he,⟨h1,h2,h3⟩,hCr,hw⟩;subst h1;subst h2;subst h3;have hrel:Rel ⟨P,1,w,S,M,k+1⟩ ⟨[(0,r)],h',clk'⟩ { tmps:=#[v],defers:=[] } w':=by
  refine⟨S',M',rfl,rfl,fun t=>?_,hw 1⟩;cases t with
  | zero=>simp_all
  | succ t=>exact .p (.dead _)
 obtain⟨S2,M2,hr2⟩:=hrel.norm (ex:=ex) (k:=k) (live:=[0]) rfl;refine⟨v,_,_,S2,M2,_,he,⟨rfl,rfl,rfl⟩,by simpa using hr2.env 0,fun nt=>?_⟩;have:=hr2.wr;exact⟨this.heap,this.ext,this.fr,this.Snew,this.Slt,this.Mnew⟩
def Zae.res{f:FuncId}{xs:List AV}{y:AV}{ex:Bool}(h:Zae P f xs (·=y)):Zae P f xs (·=wkIf ex y):=
 ⟨h.1,fun w S cargs hl hC hS=>(h.2 w S cargs hl hC hS).mono fun _ _ ⟨v,r,he,hr,hb,hC⟩=>⟨v,_,he,rfl,hb,by rw[<-hr];exact hC.wkIf ex⟩⟩
def TOk(P:Program)(ν:Nat->FuncId)(T:Tbl):Prop:=∀u af,T u=some af ->
 match af.body.isPrim with
 | some f=>∀xs r,f xs=some r->Zae P (ν u) xs (·=r)
 | none=>if af.body.isBad=true then (∀m∈Zif af,Zef P af.np m.1=some (ν m.2))/\(af.res.isEmpty=true->af.np=ν af.nt) else Z1 P (ν u)=some (erF ν (Ze T) af)
def GoodO.next(hT:TOk P ν T)(hm:P.follows .mixedOrders=true)(hO:GoodO P ν T O):GoodO P ν T (Zc5 T O):=by
 have bad_no:∀(af:AFx) (k:Nat) (s:St) (r:Ex×St),af.body.isBad=true->evX O T k af.body s=some r->False:=by
  intro af k s r hb he;cases hbd:af.body<;>rw[hbd]at hb he<;>first | (cases hb;done) | (simp only[evX]at he;grind)
 refine⟨hO.meth,hO.fnn,fun u af xs r h hu hl hc=>?_,fun u af ms xs hb r hb' hu hl hc=>?_,fun k c st e st' h cx hP hk=>?_⟩
 ·have hTu:=hT u af hu;simp only[Zc5,hu]at hc;split at hc
  ·rename_i f hf;split at hc
   ·obtain⟨x,h1,h2⟩:=map_some hc
    grind
   grind
  rename_i hf;rw[hf]at hTu;split at hc
  ·rename_i hcond;obtain⟨⟨e,s⟩,h1,h2⟩:=bind_some hc;rw[if_neg (fun hb=>bad_no af _ _ _ hb h1)]at hTu;have key:∃x y,(e=.n\/e=.r)/\Zcu s af.res=some x/\frz s.heap x=some y/\r=wkIf af.exact y:=by
    unfold Zkq at h2;cases e with
    | x id=>grind
    | g id=>grind
    | n=>
     obtain⟨x,h3,h4⟩:=bind_some h2;rw[hl]at h4;obtain⟨y,h5,h6⟩:=map_some h4
     grind
    | r=>
     obtain⟨x,h3,h4⟩:=bind_some h2;rw[hl]at h4;obtain⟨y,h5,h6⟩:=map_some h4
     grind
   obtain⟨x,y,he,h3,h5,rfl⟩:=key;refine Zae.res (zvx hTu hm hcond.1 fun cx hP hnt hclk=>((za5 hO hP hclk af.body _ e s h1).mono ?_))
   rintro ex s' ⟨rfl,rfl⟩
   exact⟨by rcases he with rfl | rfl;exact .inl rfl;exact .inr rfl,x,y,h3,h5,rfl⟩
  grind
 ·have hTu:=hT u af hu;simp only[Zc5,hu]at hc;split at hc
  ·grind
  rename_i hf;rw[hf]at hTu;split at hc
  ·rename_i hcond;obtain⟨⟨e,s⟩,h1,h2⟩:=bind_some hc;rw[if_neg (fun hb=>bad_no af _ _ _ hb h1)]at hTu;have key:∃x,(e=.n\/e=.r)/\Zcu s af.res=some x/\r=(Zc4 af.exact hb.length [0] ⟨[(0,x)],s.heap,s.clk⟩).env.get 0/\hb'=(Zc4 af.exact hb.length [0] ⟨[(0,x)],s.heap,s.clk⟩).heap:=by
    unfold Zkq at h2;cases e with
    | x id=>grind
    | g id=>grind
    | n=>
     obtain⟨x,h3,h4⟩:=bind_some h2
     grind
    | r=>
     obtain⟨x,h3,h4⟩:=bind_some h2
     grind
   obtain⟨x,he,h3,rfl,rfl⟩:=key;have hA:Zd2 P (ν u) xs hb (hb.length+1) (fun r h c=>r=x/\h=s.heap/\c=s.clk):=by
    refine zmz hTu hm hcond.1 fun cx hP hnt hclk=>((za5 hO hP hclk af.body _ e s h1).mono ?_)
    rintro ex s' ⟨rfl,rfl⟩
    exact⟨by rcases he with rfl | rfl;exact .inl rfl;exact .inr rfl,x,h3,rfl,rfl,rfl⟩
   have hB:=zs6 (ex:=af.exact) hA;refine⟨hB.1,fun w S M cargs hl hC hheap hS hM=>(hB.2 w S M cargs hl hC hheap hS hM).mono ?_⟩;intro e w' ⟨v,r,h',S',M',clk',he,⟨a1,a2,a3⟩,hCr,hw⟩;refine⟨v,r,h',S',M',clk',he,⟨a1,a2,?_⟩,hCr,hw⟩;rw[a3];simp only[Zc4,Y1]
  grind
 ·obtain⟨⟨e1,s1⟩,h1,h2⟩:=bind_some h;refine zz9 ((za5 hO hP hk c st e1 s1 h1).mono ?_)
  rintro ex s ⟨rfl,rfl⟩
  cases e1 with
  | n=>exact hO.loop k c _ e st' h2 cx hP hk
  | x id=>cases h2;exact⟨rfl,rfl⟩
  | r=>cases h2;exact⟨rfl,rfl⟩
  | g l=>cases h2;exact⟨rfl,rfl⟩
def zae6(hT:TOk P ν T):∀k nm u,(nm,u)∈Zcb T k->Zef P (Ze T k) nm=some (ν u):=by
 intro k nm u hm;unfold Zcb at hm;unfold Ze;cases hT':T (1000000+k) with
 | none=>grind
 | some af=>
  rw[hT']at hm;simp only at hm ⊢;split at hm
  ·rename_i hb;have:=hT _ af hT';have hp:af.body.isPrim=none:=by cases hbd:af.body<;>rw[hbd]at hb<;>first | rfl | cases hb
   grind
  grind
def fnn0(hT:TOk P ν T):∀k u,Zgu T k=some u->Ze T k=ν u:=by
 intro k u hm;unfold Zgu at hm;unfold Ze;cases hT':T (1000000+k) with
 | none=>grind
 | some af=>
  rw[hT']at hm;simp only at hm ⊢;split at hm
  ·rename_i hb;simp only[Ym]at hb;have:=hT _ af hT';have hp:af.body.isPrim=none:=by cases hbd:af.body<;>rw[hbd]at hb<;>first | rfl | cases hb.1.1
   grind
  grind
theorem GoodO.orcN(hT:TOk P ν T)(hm:P.follows .mixedOrders=true):∀n,GoodO P ν T (orcN T n)
 | 0=>⟨zae6 hT,fnn0 hT,fun _ _ _ _ _ _ _ h=>(by cases h),fun _ _ _ _ _ _ _ _ _ h=>(by cases h),fun _ _ _ _ _ h=>(by cases h)⟩
 | n+1=>(GoodO.orcN hT hm n).next hT hm
end
end
section
open Go.RowKit
inductive Qy where
 | call (u:Nat) (xs:List AV) (hb:Heap) (r:AV×Heap)
 | loop (k:Nat) (c:AX) (st:St) (r:Ex×St)
def Holds(O:Orc):Qy->Prop
 | .call u xs hb r=>O.call u xs hb=some r
 | .loop k c st r=>O.loop k c st=some r
def Zar{α:Type}(f:Orc->Option α):Prop:=∀O r,f O=some r->∃L:List Qy,(∀q∈L,Holds O q)/\∀O',(∀q∈L,Holds O' q)->f O'=some r
def Zar.const{α:Type}(a:Option α):Zar fun _=>a:=fun _ _ h=>⟨[],by simp,fun _ _=>h⟩
def Zar.bind{α β:Type}{g:Orc->Option α}{h:Orc->α->Option β}(hg:Zar g)(hh:∀x,Zar fun O=>h O x):Zar fun O=>(g O).bind (h O):=by
 intro O r he;obtain⟨x,h1,h2⟩:=bind_some he;obtain⟨L1,a1,a2⟩:=hg O x h1;obtain⟨L2,b1,b2⟩:=hh x O r h2;refine⟨L1++L2,fun q hq=>?_,fun O' hO'=>?_⟩
 all_goals grind
def Zar.map{α β:Type}{g:Orc->Option α}(hg:Zar g)(f:α->β):Zar fun O=>(g O).map f:=by
 have:=hg.bind (h:=fun _ x=>some (f x)) fun x=>.const _
 grind[Option.map_eq_bind,Function.comp_def]
def Zar.call(u:Nat)(xs:List AV)(hb:Heap):Zar fun O=>O.call u xs hb:=fun O r h=>⟨[.call u xs hb r],by simpa[Holds]using h,fun O' h'=>by simpa[Holds]using h'⟩
def Zar.loop(k:Nat)(c:AX)(st:St):Zar fun O=>O.loop k c st:=fun O r h=>⟨[.loop k c st r],by simpa[Holds]using h,fun O' h'=>by simpa[Holds]using h'⟩
section
variable(T:Tbl)
def zir(u:Nat)(xs:List AV)(d:Option Nat)(st:St):Zar fun O=>Zah O T u xs d st:=by
 unfold Zah;split
 ·exact .const _
 ·split
  ·refine Zar.bind (.const _) fun ys=>Zar.bind (.call _ _ _) fun r=>.const _
  ·refine Zar.bind (.const _) fun ys=>?_;simp only;split
   ·refine Zar.bind (.call _ _ _) fun r=>.const _
   ·exact .const _
def zw1(op:AOp)(d:Option Nat)(st:St):Zar fun O=>opX O T op d st:=by
 by_cases hx:∃k xs,op=.xop k xs
 ·obtain⟨k,xs,rfl⟩:=hx;cases k<;>exact .const _
 cases op<;>(try exact absurd ⟨_,_,rfl⟩ hx)<;>simp only[opX]<;>first | exact .const _ | exact zir T _ _ _ _ | (split<;>first | exact .const _ | (split<;>first | exact .const _ | exact zir T _ _ _ _))
def zw2(o:AO)(st:St):Zar fun O=>Zgo O T o st:=by
 unfold Zgo;split
 ·exact zw1 T _ _ _
 ·unfold gX;split
  ·split
   ·exact zw1 T _ _ _
   ·exact .const _
  ·exact .const _
  ·exact .const _
theorem ze1:∀(l:List AO) (st:St),Zar fun O=>Zdo O T l st
 | [],st=>.const _
 | o::l,st=>by
  exact(zw2 T o st).bind fun s=>ze1 l s
def zw3(op:AOp)(e:Env)(h:Heap)(older:List Heap):Zar fun O=>opD O T op e h older:=by
 by_cases hap:∃z x0 y,op=.app z x0 y
 ·obtain⟨z,x0,y,rfl⟩:=hap;by_cases hc:x0=.c (.sl [] .nl)
  ·subst hc;exact .const _
  ·simp only[zpp hc];exact .const _
 cases op<;>(try exact absurd ⟨_,_,_,rfl⟩ hap)<;>simp only[opD]<;>try exact .const _
 case call=>
  split
  ·exact .const _
  ·split
   ·exact(Zar.call _ _ _).map _
   ·exact .const _
 case inv=>
  split
  ·split
   ·split
    ·exact .const _
    ·split
     ·exact(Zar.call _ _ _).map _
     ·exact .const _
   ·exact .const _
  ·exact .const _
def zis(o:AO)(e:Env)(h:Heap)(older:List Heap):Zar fun O=>qX O T o e h older:=by
 unfold qX;split
 ·exact(zw3 T _ _ _ _).map _
 ·split
  ·split
   ·exact(zw3 T _ _ _ _).map _
   ·exact .const _
  ·exact .const _
  ·exact .const _
def znq(u:Nat)(ys:List AV):Zar fun O=>Zd7 O T u ys:=by
 unfold Zd7;split
 ·exact .const _
 ·split
  ·exact(Zar.call _ _ _).map _
  ·exact .const _
theorem zem:∀(l:List DO) (e:Env) (h:Heap) (clk:Nat) (older:List Heap) (pend:Zal),Zar fun O=>Zbr O T l e h clk older pend
 | [],e,h,clk,older,pend=>.const _
 | o::l,e,h,clk,older,pend=>by
  simp only[Zbr];split
  ·split
   ·refine Zar.bind (.const _) fun q=>?_;split
    ·exact zem l _ _ _ _ _
    ·exact .const _
   ·exact .const _
  ·split
   ·exact(zis T _ _ _ _).bind fun x=>zem l _ _ _ _ _
   ·exact(znq T _ _).bind fun x=>zem l _ _ _ _ _
theorem zit(tl:List AO):∀(l:List AO) (e:Env) (h:Heap) (clk:Nat),Zar fun O=>Zcl O T tl l e h clk
 | [],e,h,clk=>ze1 T tl _
 | o::l,e,h,clk=>by
  simp only[Zcl];split
  ·exact(zis T _ _ _ _).bind fun x=>zit tl l _ _ _
  ·exact(znq T _ _).bind fun x=>zit tl l _ _ _
theorem znr(tl:List AO):∀(l:List AO) (e:Env) (h:Heap) (clk:Nat),Zar fun O=>Zd8 O T tl l e h clk
 | [],e,h,clk=>ze1 T tl _
 | o::l,e,h,clk=>by
  exact(zis T _ _ _ _).bind fun x=>znr tl l _ _ _
def zw4(u:Nat)(xs:List AV)(d clk:Nat):Zar fun O=>Ze9 O T u xs d clk:=by
 unfold Ze9;split
 ·exact .const _
 ·split
  ·exact .const _
  ·split
   ·refine(Zar.call _ _ _).bind fun r=>?_;exact .const _
   ·exact .const _
theorem zen(tl:List AO)(h0:Heap)(c0:Nat)(X:Heap):∀(l:List AO) (e:Env) (h:Heap) (clk:Nat),Zar fun O=>Za5 O T tl h0 c0 X l e h clk
 | [],e,h,clk=>ze1 T tl _
 | o::l,e,h,clk=>by
  simp only[Za5];split
  ·split
   ·split
    all_goals
     refine Zar.bind (.const _) fun q=>?_;split
     ·exact zen tl h0 c0 X l _ _ _
     ·exact .const _
   ·exact .const _
  ·split
   ·split
    ·refine Zar.bind (.const _) fun q=>?_;split
     ·exact zen tl h0 c0 X l _ _ _
     ·exact .const _
    ·exact .const _
   split
   ·split
    ·refine(zw4 T _ _ _ _).bind fun q=>?_;split
     ·exact zen tl h0 c0 X l _ _ _
     ·exact .const _
    ·exact .const _
   ·refine(zis T _ _ _ _).bind fun x=>?_;split
    ·exact zen tl h0 c0 X l _ _ _
    ·exact .const _
theorem zhk{K:Orc->Env->Zal->Option St}(hK:∀e pend,Zar fun O=>K O e pend)(h:Heap):∀(l:List DO) (e:Env) (pend:Zal),Zar fun O=>Zdf O T (K O) h l e pend
 | [],e,pend=>hK e pend
 | o::l,e,pend=>by
  simp only[Zdf];split
  ·exact .const _
  ·exact(zis T _ _ _ _).bind fun x=>zhk hK h l _ _
theorem zns{K:Orc->Env->Option St}(hK:∀e,Zar fun O=>K O e)(h0 h1:Heap):∀(l:List AO) (e:Env),Zar fun O=>Zdg O T (K O) h0 h1 l e
 | [],e=>hK e
 | o::l,e=>by
  simp only[Zdg];split
  ·exact .const _
  ·exact(zis T _ _ _ _).bind fun x=>zns hK h0 h1 l _
def zf4(o:AO)(st:St):Zar fun O=>Zeo O T o st:=by
 unfold Zeo;split
 ·exact zir T _ _ _ _
 ·exact .const _
def zw5(l1:List AO)(o:AO)(l2 tl:List AO)(st:St):Zar fun O=>Zgq O T l1 o l2 tl st:=by
 unfold Zgq;refine zhk T (fun e pend=>(zf4 T _ _).bind fun s=>?_) _ _ _ _;split
 ·exact zns T (fun e=>ze1 T _ _) _ _ _ _
 ·exact .const _
def zw6(l1:List DO)(o:AO)(l2:List DO)(st:St):Zar fun O=>Zgr O T l1 o l2 st:=by
 unfold Zgr;split
 ·exact .const _
 refine zhk T (fun e pend=>(zf4 T _ _).bind fun s=>?_) _ _ _ _;split
 ·exact zem T _ _ _ _ _ _
 ·exact .const _
theorem znt{K:Orc->Env->Option St}(hK:∀e,Zar fun O=>K O e)(hs:List Heap)(h1:Heap):∀(l:List AO) (e:Env),Zar fun O=>Zdh O T (K O) hs h1 l e
 | [],e=>hK e
 | o::l,e=>by
  simp only[Zdh];split
  ·exact .const _
  ·exact(zis T _ _ _ _).bind fun x=>znt hK hs h1 l _
def zw7(l1:List DO)(o:AO)(l2:List DO)(da:Nat)(cs:List AV)(n:Nat)(xs vs:Opd)(st:St):Zar fun O=>Zfa O T l1 o l2 da cs n xs vs st:=by
 unfold Zfa;split
 case isFalse=>exact .const _
 refine zhk T (fun e pend=>(zf4 T _ _).bind fun s1=>(zf4 T _ _).bind fun s2=>?_) _ _ _ _;split
 ·exact znt T (K:=fun _ e2=>(Zbl n s2.heap (ev (Zf e2 (some da) (.ptr (.loc da) s1.clk cs.length 0 0)).get xs) (ev (Zf e2 (some da) (.ptr (.loc da) s1.clk cs.length 0 0)).get vs)).map fun h2=>⟨Zf e2 (some da) (.ptr (.loc da) s1.clk cs.length 0 0),h2,s2.clk⟩) (fun e=>.const _) _ _ _ _
 ·exact .const _
theorem zcj(k:Nat):∀(c:AX) (st:St),Zar fun O=>evX O T k c st
 | .skip,st=>.const _
 | .reg l,st=>by exact(ze1 T l st).map _
 | .draw l,st=>by exact(zem T l _ _ _ _ _).map _
 | .drawT hd tl,st=>by exact(znr T tl hd _ _ _).map _
 | .drawM hd tl,st=>by exact(zen T tl _ _ _ hd _ _ _).map _
 | .drawC l1 o l2 tl,st=>by exact(zw5 T l1 o l2 tl st).map _
 | .drawN l1 o l2,st=>by exact(zw6 T l1 o l2 st).map _
 | .drawR hd tl,st=>by exact(zit T tl hd _ _ _).map _
 | .drawP l1 o l2 da cs n xs vs,st=>by exact(zw7 T l1 o l2 da cs n xs vs st).map _
 | .bad,st=>.const _
 | .prim f,st=>.const _
 | .seq a b,st=>by
  refine(zcj k a st).bind fun r=>?_;obtain⟨e,s⟩:=r;cases e
  ·exact zcj k b s
  ·exact .const _
  ·exact .const _
  ·exact .const _
 | .cond c x y,st=>by
  simp only[evX];split
  ·split
   ·exact zcj k x st
   ·exact zcj k y st
  ·exact .const _
 | .block id c,st=>by exact(zcj k c st).bind fun r=>.const _
 | .loop c,st=>by exact .loop _ _ _
 | .exit id,st=>.const _
 | .ret,st=>.const _
 | .note c g,st=>by exact(zcj k c st).bind fun r=>.const _
 | .pre g c,st=>by exact Zar.bind (.const _) fun s=>zcj k c s
 | .scope c,st=>by exact(zcj k c st).bind fun r=>.const _
 | .label l,st=>.const _
 | .goto l,st=>.const _
 | .gsc l c r,st=>by
  have key:∀n (f:Orc->Option (Ex×St)),Zar f->Zar fun O=>Zkp (fun s=>evX O T k r s) l n (f O):=by
   intro n
   induction n with
   | zero=>intro f _;exact .const _
   | succ n ih=>
    intro f hf;refine hf.bind fun x=>?_;obtain⟨e,s⟩:=x;cases e
    ·exact .const _
    ·exact .const _
    ·exact .const _
    ·simp only;split
     ·exact ih _ (zcj k r s)
     ·exact .const _
  exact key _ _ (zcj k c st)
 | .lp id g c g2,st=>by exact Zar.bind (.const _) fun s=>(Zar.loop _ _ _).bind fun r=>.const _
def zdv(u:Nat)(xs:List AV)(hb:Heap):Zar fun O=>(Zc5 T O).call u xs hb:=by
 simp only[Zc5];split
 ·exact .const _
 ·split
  ·exact .const _
  ·split
   ·exact(zcj T _ _ _).bind fun r=>.const _
   ·exact .const _
def zdw(k:Nat)(c:AX)(st:St):Zar fun O=>(Zc5 T O).loop k c st:=by
 refine(zcj T k c st).bind fun r=>?_;obtain⟨e,s⟩:=r;cases e
 ·exact .loop _ _ _
 ·exact .const _
 ·exact .const _
 ·exact .const _
theorem ziu:∀(n:Nat) (q:Qy),Holds (orcN T n) q->Holds (orcN T (n+1)) q
 | 0,q,h=>by cases q<;>cases h
 | n+1,.call u xs hb r,h=>by
  obtain⟨L,h1,h2⟩:=zdv T u xs hb _ r h;exact h2 _ fun q hq=>ziu n q (h1 q hq)
 | n+1,.loop k c st r,h=>by
  obtain⟨L,h1,h2⟩:=zdw T k c st _ r h;exact h2 _ fun q hq=>ziu n q (h1 q hq)
theorem zpv{n m:Nat}(h:n<=m)(q:Qy)(hq:Holds (orcN T n) q):Holds (orcN T m) q:=by
 induction h with
 | refl=>omega
 | step _ ih=>exact ziu T _ q ih
open Classical in
noncomputable def lim{α:Type}(f:Nat->Option α):Option α:=if h:∃n a,f n=some a then f (Classical.choose h) else none
def zrg{α:Type}{f:Nat->Option α}(hm:∀n m a,n<=m->f n=some a->f m=some a)(a:α):lim f=some a↔∃n,f n=some a:=by
 unfold lim;constructor
 ·intro h;split at h
  all_goals grind
 ·intro ⟨n,h⟩;have hex:∃n a,f n=some a:=⟨n,a,h⟩
  grind
noncomputable def orc:Orc:=⟨fun u xs hb=>lim fun n=>(orcN T n).call u xs hb,fun k c st=>lim fun n=>(orcN T n).loop k c st⟩
theorem zct(q:Qy):Holds (orc T) q↔∃n,Holds (orcN T n) q:=by
 cases q with
 | call u xs hb r=>exact zrg (fun n m a hnm h=>zpv T hnm (.call u xs hb a) h) r
 | loop k c st r=>exact zrg (fun n m a hnm h=>zpv T hnm (.loop k c st a) h) r
def zpw{L:List Qy}(h:∀q∈L,Holds (orc T) q):∃n,∀q∈L,Holds (orcN T n) q:=by
 induction L with
 | nil=>simp_all
 | cons q L ih=>
  obtain⟨n,hn⟩:=ih fun q hq=>h q (Yj _ hq);obtain⟨m,hm⟩:=(zct T q).1 (h q Yl);refine⟨max n m,fun x hx=>?_⟩
  grind[zpv,Nat.le_max_right]
def zlr(u:Nat)(xs:List AV)(hb:Heap):(orc T).call u xs hb=(Zc5 T (orc T)).call u xs hb:=by
 apply Option.ext;intro r;constructor
 ·intro h;obtain⟨n,hn⟩:=(zct T (.call u xs hb r)).1 h;cases n with
  | zero=>cases hn
  | succ n=>
   obtain⟨L,h1,h2⟩:=zdv T u xs hb _ r hn
   grind[zct]
 ·intro h;obtain⟨L,h1,h2⟩:=zdv T u xs hb _ r h;obtain⟨n,hn⟩:=zpw T h1;exact(zct T (.call u xs hb r)).2 ⟨n+1,h2 _ hn⟩
def z0c(k:Nat)(c:AX)(st:St):(orc T).loop k c st=(Zc5 T (orc T)).loop k c st:=by
 apply Option.ext;intro r;constructor
 ·intro h;obtain⟨n,hn⟩:=(zct T (.loop k c st r)).1 h;cases n with
  | zero=>cases hn
  | succ n=>
   obtain⟨L,h1,h2⟩:=zdw T k c st _ r hn
   grind[zct]
 ·intro h;obtain⟨L,h1,h2⟩:=zdw T k c st _ r h;obtain⟨n,hn⟩:=zpw T h1;exact(zct T (.loop k c st r)).2 ⟨n+1,h2 _ hn⟩
end
noncomputable def Zb(T:Tbl)(u:Nat)(xs:List AV):Option AV:=((orc T).call u xs []).map (·.1)
noncomputable def Zb6(T:Tbl)(u:Nat)(xs:List AV)(hb:Heap):Option (AV×Heap):=(orc T).call u xs hb
noncomputable def Zir(T:Tbl)(k:Nat)(c:AX)(st:St):Option (Ex×St):=(orc T).loop k c st
def zea{P:Program}{ν:Nat->FuncId}{T:Tbl}(hT:TOk P ν T)(hm:P.follows .mixedOrders=true){u:Nat}{af:AFx}{xs:List AV}{r:AV}(hu:T u=some af)(hl:af.lent=none)(h:Zb T u xs=some r):Zae P (ν u) xs (·=r):=by
 obtain⟨⟨r',h'⟩,h1,rfl⟩:=map_some h;obtain⟨n,hn⟩:=(zct T (.call u xs [] (r',h'))).1 h1;exact(GoodO.orcN hT hm n).pure u af xs r' h' hu hl hn
end
section
open Go.RowKit
def Tr(T:Tbl)(u:Nat):Option AFx:=T u
def u8(n:Nat):AV:=.i .u8 (n:Int)
def u32(n:Nat):AV:=.i .u32 (n:Int)
def u64(n:Nat):AV:=.i .u64 (n:Int)
@[simp] def zamg(k:IntKind)(n:Int):wkA (.i k n)=.i k n/\Zay (.i k n)=true/\Zaz (.i k n)=true/\scalar (.i k n)=true/\pureC (.i k n)=true/\noRef (.i k n)=true/\refs (.i k n)=[]/\rfC (.i k n)=[]/\rf1 (.i k n)=[]/\rfA (.i k n)=[]/\cellsOf (.i k n)=some [.i k n]:=by and_intros<;>rfl
@[simp] def zajs{h:Heap}(k:IntKind)(n:Int):Za7 h (.i k n)=some (.i k n)/\Zb2 h (.i k n)=some (.i k n)/\frz h (.i k n)=some (.i k n)/\Zbc h (.i k n)=true/\Zbm h (.i k n)=true/\Zca h (.i k n)=true:=by and_intros<;>rfl
@[simp] def zaml{σn:BId->BId}{σg:Nat->Nat}(k:IntKind)(n:Int):rlC σn σg (.i k n)=(.i k n)/\rl1 σn σg (.i k n)=(.i k n)/\rlA σn σg (.i k n)=(.i k n):=by and_intros<;>rfl
@[simp] def zamo(t:Bool):wkA (.b t)=.b t/\Zay (.b t)=true/\Zaz (.b t)=true/\scalar (.b t)=true/\pureC (.b t)=true/\noRef (.b t)=true/\refs (.b t)=[]/\rfC (.b t)=[]/\rf1 (.b t)=[]/\rfA (.b t)=[]/\cellsOf (.b t)=some [.b t]:=by and_intros<;>rfl
@[simp] def zajv{h:Heap}(t:Bool):Za7 h (.b t)=some (.b t)/\Zb2 h (.b t)=some (.b t)/\frz h (.b t)=some (.b t)/\Zbc h (.b t)=true/\Zbm h (.b t)=true/\Zca h (.b t)=true:=by and_intros<;>rfl
@[simp] def zamt{σn:BId->BId}{σg:Nat->Nat}(t:Bool):rlC σn σg (.b t)=(.b t)/\rl1 σn σg (.b t)=(.b t)/\rlA σn σg (.b t)=(.b t):=by and_intros<;>rfl
@[simp] def zamw(l:List UInt8):wkA (.s l)=.s l/\Zay (.s l)=true/\Zaz (.s l)=true/\scalar (.s l)=true/\pureC (.s l)=true/\noRef (.s l)=true/\refs (.s l)=[]/\rfC (.s l)=[]/\rf1 (.s l)=[]/\rfA (.s l)=[]/\cellsOf (.s l)=some [.s l]:=by and_intros<;>rfl
@[simp] def zajy{h:Heap}(l:List UInt8):Za7 h (.s l)=some (.s l)/\Zb2 h (.s l)=some (.s l)/\frz h (.s l)=some (.s l)/\Zbc h (.s l)=true/\Zbm h (.s l)=true/\Zca h (.s l)=true:=by and_intros<;>rfl
@[simp] def zam1{σn:BId->BId}{σg:Nat->Nat}(l:List UInt8):rlC σn σg (.s l)=(.s l)/\rl1 σn σg (.s l)=(.s l)/\rlA σn σg (.s l)=(.s l):=by and_intros<;>rfl
@[simp] def zafg(v:Value):wkA (.raw v)=.raw v/\Zay (.raw v)=false/\Zaz (.raw v)=false/\scalar (.raw v)=false/\pureC (.raw v)=true/\noRef (.raw v)=true/\refs (.raw v)=[]/\rfC (.raw v)=[]/\rf1 (.raw v)=[]/\rfA (.raw v)=[]:=by and_intros<;>rfl
@[simp] def zab4{h:Heap}(v:Value):Za7 h (.raw v)=some (.raw v)/\Zb2 h (.raw v)=some (.raw v)/\frz h (.raw v)=some (.raw v)/\Zbc h (.raw v)=true/\Zbm h (.raw v)=true/\Zca h (.raw v)=true:=by and_intros<;>rfl
@[simp] def zafl{σn:BId->BId}{σg:Nat->Nat}(v:Value):rlC σn σg (.raw v)=(.raw v)/\rl1 σn σg (.raw v)=(.raw v)/\rlA σn σg (.raw v)=(.raw v):=by and_intros<;>rfl
@[simp] def zafo{h:Heap}(els:List (List AV))(f:Fl):Za7 h (.sl els f)=some (.sl els f):=rfl
@[simp] def zafp{h:Heap}(els:List (List AV))(f:Fl):Zb2 h (.sl els f)=some (.sl els f):=rfl
@[simp] def zaj1{h:Heap}(els:List (List AV))(f:Fl):frz h (.sl els f)=some (.sl els f):=rfl
@[simp] def z6e(els:List (List AV))(f:Fl):Zay (.sl els f)=false:=rfl
@[simp] def z6f(els:List (List AV))(f:Fl):Zaz (.sl els f)=false:=rfl
@[simp] def z8t(els:List (List AV))(f:Fl):scalar (.sl els f)=false:=rfl
@[simp] def zab7(els:List (List AV))(f:Fl):pureC (.sl els f)=true:=rfl
@[simp] def zab8(els:List (List AV))(f:Fl):noRef (.sl els f)=true:=rfl
@[simp] def zafq(els:List (List AV))(f:Fl):refs (.sl els f)=[]:=rfl
@[simp] def zaj2(els:List (List AV))(f:Fl):rfC (.sl els f)=[]:=rfl
@[simp] def zaj3(els:List (List AV))(f:Fl):rf1 (.sl els f)=[]:=rfl
@[simp] def zaj4(els:List (List AV))(f:Fl):rfA (.sl els f)=[]:=rfl
@[simp] def zaj5{σn:BId->BId}{σg:Nat->Nat}(els:List (List AV))(f:Fl):rlC σn σg (.sl els f)=(.sl els f):=rfl
@[simp] def zaj6{σn:BId->BId}{σg:Nat->Nat}(els:List (List AV))(f:Fl):rl1 σn σg (.sl els f)=(.sl els f):=rfl
@[simp] def zaj7{σn:BId->BId}{σg:Nat->Nat}(els:List (List AV))(f:Fl):rlA σn σg (.sl els f)=(.sl els f):=rfl
@[simp] def z8u{h:Heap}(els:List (List AV))(f:Fl):Zbc h (.sl els f)=true:=rfl
@[simp] def z8v{h:Heap}(els:List (List AV))(f:Fl):Zbm h (.sl els f)=true:=rfl
@[simp] def zab9{h:Heap}(els:List (List AV))(f:Fl):Zca h (.sl els f)=true:=rfl
@[simp] def z6g(els:List (List AV))(f:Fl):cellsOf (.sl els f)=some [.sl els f]:=rfl
@[simp] def zaj8(cs:List AV)(o:Nat):wkA (.ep cs o)=.ep cs o/\Zay (.ep cs o)=false/\Zaz (.ep cs o)=false/\scalar (.ep cs o)=false/\pureC (.ep cs o)=true/\noRef (.ep cs o)=true/\refs (.ep cs o)=[]/\rfC (.ep cs o)=[]/\rf1 (.ep cs o)=[]/\rfA (.ep cs o)=[]/\cellsOf (.ep cs o)=some [.ep cs o]:=by and_intros<;>rfl
@[simp] def zafr{h:Heap}(cs:List AV)(o:Nat):Za7 h (.ep cs o)=some (.ep cs o)/\Zb2 h (.ep cs o)=some (.ep cs o)/\frz h (.ep cs o)=some (.ep cs o)/\Zbc h (.ep cs o)=true/\Zbm h (.ep cs o)=true/\Zca h (.ep cs o)=true:=by and_intros<;>rfl
@[simp] def zakd{σn:BId->BId}{σg:Nat->Nat}(cs:List AV)(o:Nat):rlC σn σg (.ep cs o)=(.ep cs o)/\rl1 σn σg (.ep cs o)=(.ep cs o)/\rlA σn σg (.ep cs o)=(.ep cs o):=by and_intros<;>rfl
@[simp] def zakg(n:Nat):wkA (u8 n)=u8 n/\Zay (u8 n)=true/\Zaz (u8 n)=true/\scalar (u8 n)=true/\pureC (u8 n)=true/\noRef (u8 n)=true/\refs (u8 n)=[]/\rfC (u8 n)=[]/\rf1 (u8 n)=[]/\rfA (u8 n)=[]/\cellsOf (u8 n)=some [u8 n]/\wkA (u32 n)=u32 n/\Zay (u32 n)=true/\Zaz (u32 n)=true/\scalar (u32 n)=true/\pureC (u32 n)=true/\noRef (u32 n)=true/\refs (u32 n)=[]/\rfC (u32 n)=[]/\rf1 (u32 n)=[]/\rfA (u32 n)=[]/\cellsOf (u32 n)=some [u32 n]/\wkA (u64 n)=u64 n/\Zay (u64 n)=true/\Zaz (u64 n)=true/\scalar (u64 n)=true/\pureC (u64 n)=true/\noRef (u64 n)=true/\refs (u64 n)=[]/\rfC (u64 n)=[]/\rf1 (u64 n)=[]/\rfA (u64 n)=[]/\cellsOf (u64 n)=some [u64 n]:=by and_intros<;>rfl
@[simp] def zafu{h:Heap}(n:Nat):Za7 h (u8 n)=some (u8 n)/\Zb2 h (u8 n)=some (u8 n)/\frz h (u8 n)=some (u8 n)/\Zbc h (u8 n)=true/\Zbm h (u8 n)=true/\Zca h (u8 n)=true/\Za7 h (u32 n)=some (u32 n)/\Zb2 h (u32 n)=some (u32 n)/\frz h (u32 n)=some (u32 n)/\Zbc h (u32 n)=true/\Zbm h (u32 n)=true/\Zca h (u32 n)=true/\Za7 h (u64 n)=some (u64 n)/\Zb2 h (u64 n)=some (u64 n)/\frz h (u64 n)=some (u64 n)/\Zbc h (u64 n)=true/\Zbm h (u64 n)=true/\Zca h (u64 n)=true:=by and_intros<;>rfl
@[simp] def zakl{σn:BId->BId}{σg:Nat->Nat}(n:Nat):rlC σn σg (u8 n)=(u8 n)/\rl1 σn σg (u8 n)=(u8 n)/\rlA σn σg (u8 n)=(u8 n)/\rlC σn σg (u32 n)=(u32 n)/\rl1 σn σg (u32 n)=(u32 n)/\rlA σn σg (u32 n)=(u32 n)/\rlC σn σg (u64 n)=(u64 n)/\rl1 σn σg (u64 n)=(u64 n)/\rlA σn σg (u64 n)=(u64 n):=by and_intros<;>rfl
@[simp] def zacm:wkA .dead=.dead/\Zay .dead=false/\Zaz .dead=false/\scalar .dead=false/\pureC .dead=true/\noRef .dead=true/\refs .dead=[]/\rfC .dead=[]/\rf1 .dead=[]/\rfA .dead=[]:=by and_intros<;>rfl
@[simp] def z88{h:Heap}:Za7 h .dead=some .dead/\Zb2 h .dead=some .dead/\frz h .dead=some .dead/\Zbc h .dead=true/\Zbm h .dead=true/\Zca h .dead=true:=by and_intros<;>rfl
@[simp] def zacr{σn:BId->BId}{σg:Nat->Nat}:rlC σn σg .dead=.dead/\rl1 σn σg .dead=.dead/\rlA σn σg .dead=.dead:=by and_intros<;>rfl
@[simp] def zako(els:List (List AV))(f:Fl):wkA (.sl els f)=.sl (wkL els) .an:=rfl
@[simp] def zagd(cs:List AV):wkA (.agg cs)=.agg (wkR cs)/\wkA (.tup cs)=.tup (wkR cs):=by and_intros<;>rfl
@[simp] def zakp(id:BId)(g z off n:Nat):wkA (.bs id g z off n)=.bs id g z off n:=rfl
@[simp] def zagf(id:BId)(g z i o:Nat):wkA (.ptr id g z i o)=.ptr id g z i o:=rfl
@[simp] def zagg(f:Nat)(id:BId)(g z i o:Nat):wkA (.fnp f id g z i o)=.fnp f id g z i o:=rfl
@[simp] def zagh(f:Nat)(x:AV):wkA (.fnv f x)=.fnv f (wkA x):=rfl
@[simp] def zagi:wkR []=[]/\wkL []=[]:=by and_intros<;>rfl
@[simp] def zacu(c:AV)(r:List AV):wkR (c::r)=wkA c::wkR r:=rfl
@[simp] def zacv(c:List AV)(r:List (List AV)):wkL (c::r)=wkR c::wkL r:=rfl
def Zfg:AV->List BId
 | .bs id .. => [id]
 | _=>[]
@[simp] def zagk{h:Heap}(id:BId)(g z off n:Nat):(Zb2 h (.bs id g z off n)=(Zaj h id g z).bind fun bx=>if bx.kind≠.str/\off+n<=bx.els.length then some (.sl ((bx.els.drop off).take n) .an) else none)/\(Za7 h (.bs id g z off n)=(Zaj h id g z).bind fun bx=>if bx.kind≠.str/\off+n<=bx.els.length then some (.sl ((bx.els.drop off).take n) .an) else none)/\(frz h (.bs id g z off n)=(Zaj h id g z).bind fun bx=>if bx.kind≠.str/\off+n<=bx.els.length then some (.sl ((bx.els.drop off).take n) .an) else none)/\Zbc h (.bs id g z off n)=(Zaj h id g z).isSome/\Zbm h (.bs id g z off n)=(Zaj h id g z).isSome/\Zca h (.bs id g z off n)=(Zaj h id g z).isSome:=by and_intros<;>rfl
@[simp] def zacw{h:Heap}(id:BId)(g z i o:Nat):Zb2 h (.ptr id g z i o)=some .dead/\Za7 h (.ptr id g z i o)=some .dead/\frz h (.ptr id g z i o)=some .dead/\Zbc h (.ptr id g z i o)=(Zaj h id g z).isSome/\Zbm h (.ptr id g z i o)=(Zaj h id g z).isSome/\Zca h (.ptr id g z i o)=(Zaj h id g z).isSome:=by and_intros<;>rfl
@[simp] def zacx{h:Heap}(f:Nat)(id:BId)(g z i o:Nat):Zb2 h (.fnp f id g z i o)=some .dead/\Za7 h (.fnp f id g z i o)=some .dead/\frz h (.fnp f id g z i o)=some .dead/\Zbc h (.fnp f id g z i o)=Zio h id g/\Zbm h (.fnp f id g z i o)=Zio h id g/\Zca h (.fnp f id g z i o)=Zio h id g:=by and_intros<;>rfl
@[simp] def zacy{h:Heap}(f:Nat)(x:AV):Zb2 h (.fnv f x)=some (.fnv f x)/\Za7 h (.fnv f x)=some (.fnv f x)/\frz h (.fnv f x)=some (.fnv f x)/\Zbc h (.fnv f x)=true/\Zbm h (.fnv f x)=true/\Zca h (.fnv f x)=true:=by and_intros<;>rfl
@[simp] def zac2{h:Heap}(cs:List AV):Za7 h (.agg cs)=(cs.mapM (Zb2 h)).map .agg/\frz h (.agg cs)=(cs.mapM (Zb2 h)).map .agg/\frz h (.tup cs)=(cs.mapM (Za7 h)).map .tup/\Zbm h (.agg cs)=cs.all (Zbc h)/\Zca h (.agg cs)=cs.all (Zbc h)/\Zca h (.tup cs)=cs.all (Zbm h):=by and_intros<;>rfl
@[simp] def z6w(id:BId)(g z off n:Nat):Zay (.bs id g z off n)=false/\Zaz (.bs id g z off n)=false/\scalar (.bs id g z off n)=false/\pureC (.bs id g z off n)=false/\noRef (.bs id g z off n)=false/\refs (.bs id g z off n)=[id]/\rfC (.bs id g z off n)=[id]/\rf1 (.bs id g z off n)=[id]/\rfA (.bs id g z off n)=[id]/\cellsOf (.bs id g z off n)=some [.bs id g z off n]:=by and_intros<;>rfl
@[simp] def z3w(id:BId)(g z i o:Nat):Zay (.ptr id g z i o)=false/\Zaz (.ptr id g z i o)=false/\scalar (.ptr id g z i o)=false/\pureC (.ptr id g z i o)=false/\noRef (.ptr id g z i o)=false/\refs (.ptr id g z i o)=[]/\rfC (.ptr id g z i o)=[id]/\rf1 (.ptr id g z i o)=[id]/\rfA (.ptr id g z i o)=[id]/\cellsOf (.ptr id g z i o)=some [.ptr id g z i o]:=by and_intros<;>rfl
@[simp] def z3x(f:Nat)(id:BId)(g z i o:Nat):Zay (.fnp f id g z i o)=false/\Zaz (.fnp f id g z i o)=false/\scalar (.fnp f id g z i o)=false/\pureC (.fnp f id g z i o)=false/\noRef (.fnp f id g z i o)=false/\refs (.fnp f id g z i o)=[]/\rfC (.fnp f id g z i o)=[id]/\rf1 (.fnp f id g z i o)=[id]/\rfA (.fnp f id g z i o)=[id]/\cellsOf (.fnp f id g z i o)=some [.fnp f id g z i o]:=by and_intros<;>rfl
@[simp] def z3y(f:Nat)(x:AV):Zay (.fnv f x)=false/\Zaz (.fnv f x)=false/\scalar (.fnv f x)=false/\pureC (.fnv f x)=true/\noRef (.fnv f x)=true/\refs (.fnv f x)=[]/\rfC (.fnv f x)=[]/\rf1 (.fnv f x)=[]/\rfA (.fnv f x)=[]/\cellsOf (.fnv f x)=some [.fnv f x]:=by and_intros<;>rfl
@[simp] def z33(cs:List AV):Zaz (.agg cs)=cs.all Zay/\scalar (.agg cs)=cs.all Zay/\scalar (.tup cs)=cs.all Zaz/\pureC (.agg cs)=false/\pureC (.tup cs)=false/\noRef (.agg cs)=cs.all pureC/\noRef (.tup cs)=false/\rf1 (.agg cs)=cs.flatMap rfC/\rfA (.agg cs)=cs.flatMap rfC/\rfA (.tup cs)=cs.flatMap rf1/\cellsOf (.agg cs)=some cs:=by and_intros<;>rfl
@[simp] def zaku{σn:BId->BId}{σg:Nat->Nat}(id:BId)(g z off n:Nat):rlC σn σg (.bs id g z off n)=.bs (σn id) (σg g) z off n/\rl1 σn σg (.bs id g z off n)=.bs (σn id) (σg g) z off n/\rlA σn σg (.bs id g z off n)=.bs (σn id) (σg g) z off n:=by and_intros<;>rfl
@[simp] def zag4{σn:BId->BId}{σg:Nat->Nat}(id:BId)(g z i o:Nat):rlC σn σg (.ptr id g z i o)=.ptr (σn id) (σg g) z i o/\rl1 σn σg (.ptr id g z i o)=.ptr (σn id) (σg g) z i o/\rlA σn σg (.ptr id g z i o)=.ptr (σn id) (σg g) z i o:=by and_intros<;>rfl
@[simp] def zag5{σn:BId->BId}{σg:Nat->Nat}(f:Nat)(id:BId)(g z i o:Nat):rlC σn σg (.fnp f id g z i o)=.fnp f (σn id) (σg g) z i o/\rl1 σn σg (.fnp f id g z i o)=.fnp f (σn id) (σg g) z i o/\rlA σn σg (.fnp f id g z i o)=.fnp f (σn id) (σg g) z i o:=by and_intros<;>rfl
@[simp] def zag6{σn:BId->BId}{σg:Nat->Nat}(f:Nat)(x:AV):rlC σn σg (.fnv f x)=.fnv f x/\rl1 σn σg (.fnv f x)=.fnv f x/\rlA σn σg (.fnv f x)=.fnv f x:=by and_intros<;>rfl
@[simp] def zahd{σn:BId->BId}{σg:Nat->Nat}(cs:List AV):rl1 σn σg (.agg cs)=.agg (cs.map (rlC σn σg))/\rlA σn σg (.agg cs)=.agg (cs.map (rlC σn σg))/\rlA σn σg (.tup cs)=.tup (cs.map (rl1 σn σg)):=by and_intros<;>rfl
@[simp] def zakx(k:IntKind)(n:Int):Zfg (.i k n)=[]:=rfl
@[simp] def zaky(t:Bool):Zfg (.b t)=[]:=rfl
@[simp] def zakz(l:List UInt8):Zfg (.s l)=[]:=rfl
@[simp] def zac9(v:Value):Zfg (.raw v)=[]:=rfl
@[simp] def zahg(els:List (List AV))(f:Fl):Zfg (.sl els f)=[]:=rfl
@[simp] def zahh(cs:List AV)(o:Nat):Zfg (.ep cs o)=[]:=rfl
@[simp] def zahi(n:Nat):Zfg (u8 n)=[]/\Zfg (u32 n)=[]/\Zfg (u64 n)=[]:=by and_intros<;>rfl
@[simp] def z9t:Zfg .dead=[]/\refs (.tup [])=[]:=by and_intros<;>rfl
@[simp] def zahj(id:BId)(g z off n:Nat):Zfg (.bs id g z off n)=[id]:=rfl
@[simp] def zadc(id:BId)(g z i o:Nat):Zfg (.ptr id g z i o)=[]:=rfl
@[simp] def zadd(f:Nat)(id:BId)(g z i o:Nat):Zfg (.fnp f id g z i o)=[]:=rfl
@[simp] def zade(f:Nat)(x:AV):Zfg (.fnv f x)=[]:=rfl
@[simp] def zadf(cs:List AV):refs (.agg cs)=cs.flatMap Zfg:=rfl
@[simp] def zadg(h:Heap)(id:BId)(g z:Nat):Zaj h id g z=(match h.lookup id with | some bx=>if bx.gen=g/\bx.z=z/\bx.kind≠.mp then some bx else none | none=>none):=rfl
@[simp] def z9u(x:AV):wkIf true x=x/\wkIf false x=wkA x:=by and_intros<;>rfl
def zdn(n:Nat):IntKind.wrap .u32 (n:Int)=((n%4294967296:Nat):Int):=by
 simp[IntKind.wrap,IntKind.signed,IntKind.bits]
def ze2(n:Nat):IntKind.wrap .u64 (n:Int)=((n%18446744073709551616:Nat):Int):=by
 simp[IntKind.wrap,IntKind.signed,IntKind.bits]
def z39(n:Nat):IntKind.wrap .u8 (n:Int)=((n%256:Nat):Int):=by
 simp[IntKind.wrap,IntKind.signed,IntKind.bits]
def bX(o:Option (Ex×St))(f:St->Option (Ex×St)):Option (Ex×St):=o.bind fun r=>match r.1 with | .n=>f r.2 | _=>some r
def Zhf(id:Nat)(o:Option (Ex×St)):Option (Ex×St):=o.bind fun r=>match r.1 with | .x j=>if j=id then some (.n,r.2) else some r | _=>some r
def stX(o:Option St):Option (Ex×St):=o.map fun s=>(.n,s)
def bS(o:Option St)(f:St->Option St):Option St:=o.bind f
def cnX(v:AV)(x y:Option (Ex×St)):Option (Ex×St):=match v with | .b t=>if t then x else y | _=>none
def pS(o:Option AV)(d:Option Nat)(st:St):Option St:=o.map fun x=>⟨Zf st.env d x,st.heap,st.clk⟩
def pW(o:Option (AV×Heap×Nat))(d:Option Nat)(st:St):Option St:=o.map fun q=>⟨Zf st.env d q.1,q.2.1,q.2.2⟩
def pB(o:Option (AV×Heap))(d:Option Nat)(st:St):Option St:=o.map fun q=>⟨Zf st.env d q.1,q.2,st.clk⟩
def Zgv(res:List RV)(ex:Bool)(o:Option (Ex×St)):Option AV:=
 o.bind fun r=>match r.1 with | .x _=>none | .g _=>none | _=>(Zcu r.2 res).bind fun x=>(frz r.2.heap x).map (wkIf ex)
def Zih(res:List RV)(ex:Bool)(k:Nat)(o:Option (Ex×St)):Option (AV×Heap):=
 o.bind fun r=>match r.1 with | .x _=>none | .g _=>none | _=>(Zcu r.2 res).map fun x=>let s:=Zc4 ex k [0] ⟨[(0,x)],r.2.heap,r.2.clk⟩;(s.env.get 0,s.heap)
section
variable{o o':Option (Ex×St)}{f:St->Option (Ex×St)}{s:St}
@[congr] def zadh(h:o=o'):bX o f=bX o' f:=by rw[h]
@[congr] def zadi{o o':Option St}{f:St->Option St}(h:o=o'):bS o f=bS o' f:=by rw[h]
@[congr] def z9v{v v':AV}{x y:Option (Ex×St)}(h:v=v'):cnX v x y=cnX v' x y:=by rw[h]
@[simp] def bX_n:bX (some (.n,s)) f=f s:=rfl
@[simp] def bX_x(id:Nat):bX (some (.x id,s)) f=some (.x id,s):=rfl
@[simp] def bX_r:bX (some (.r,s)) f=some (.r,s):=rfl
@[simp] def zahk:bX none f=none:=rfl
@[simp] def zak0{c:Prop}[Decidable c]{a b:Option (Ex×St)}:bX (if c then a else b) f=if c then bX a f else bX b f:=by split<;>rfl
@[simp] def zadj(id:Nat){c:Prop}[Decidable c]{a b:Option (Ex×St)}:Zhf id (if c then a else b)=if c then Zhf id a else Zhf id b:=by split<;>rfl
@[simp] def zadk{res:List RV}{ex:Bool}{c:Prop}[Decidable c]{a b:Option (Ex×St)}:Zgv res ex (if c then a else b)=if c then Zgv res ex a else Zgv res ex b:=by split<;>rfl
@[simp] def zadl{res:List RV}{ex:Bool}{k:Nat}{c:Prop}[Decidable c]{a b:Option (Ex×St)}:Zih res ex k (if c then a else b)=if c then Zih res ex k a else Zih res ex k b:=by split<;>rfl
@[simp] def zak1(id:Nat):Zhf id (some (.n,s))=some (.n,s):=rfl
@[simp] def z9w(id j:Nat):Zhf id (some (.x j,s))=if j=id then some (.n,s) else some (.x j,s):=rfl
@[simp] def zak2(id:Nat):Zhf id (some (.r,s))=some (.r,s):=rfl
@[simp] def z9x(id:Nat):Zhf id none=none:=rfl
@[simp] def zadm:stX (some s)=some (.n,s):=rfl
@[simp] def zadn:stX none=none:=rfl
@[simp] def zahl{f:St->Option St}:bS (some s) f=f s:=rfl
@[simp] def zahm{f:St->Option St}:bS none f=none:=rfl
@[simp] def zam4{t:Bool}{x y:Option (Ex×St)}:cnX (.b t) x y=if t then x else y:=rfl
@[simp] def zahn{x:AV}{d:Option Nat}:pS (some x) d s=some ⟨Zf s.env d x,s.heap,s.clk⟩:=rfl
@[simp] def zaho{d:Option Nat}:pS none d s=none/\pW none d s=none/\pB none d s=none:=by and_intros<;>rfl
@[simp] def zahp{x:AV}{h:Heap}{c:Nat}{d:Option Nat}:pW (some (x,h,c)) d s=some ⟨Zf s.env d x,h,c⟩:=rfl
@[simp] def zahr{x:AV}{h:Heap}{d:Option Nat}:pB (some (x,h)) d s=some ⟨Zf s.env d x,h,s.clk⟩:=rfl
@[simp] def zak3{res:List RV}{ex:Bool}:(Zgv res ex (some (.r,s))=(Zcu s res).bind fun x=>(frz s.heap x).map (wkIf ex))/\(Zgv res ex (some (.n,s))=(Zcu s res).bind fun x=>(frz s.heap x).map (wkIf ex)):=by and_intros<;>rfl
@[simp] def zak5{res:List RV}{ex:Bool}{k:Nat}:(Zih res ex k (some (.r,s))=(Zcu s res).map fun x=>((Zc4 ex k [0] ⟨[(0,x)],s.heap,s.clk⟩).env.get 0,(Zc4 ex k [0] ⟨[(0,x)],s.heap,s.clk⟩).heap))/\(Zih res ex k (some (.n,s))=(Zcu s res).map fun x=>((Zc4 ex k [0] ⟨[(0,x)],s.heap,s.clk⟩).env.get 0,(Zc4 ex k [0] ⟨[(0,x)],s.heap,s.clk⟩).heap)):=by and_intros<;>rfl
end
section
variable{T:Tbl}{k:Nat}{st:St}{d:Option Nat}
noncomputable abbrev X(T:Tbl)(k:Nat)(c:AX)(st:St):Option (Ex×St):=evX (orc T) T k c st
noncomputable abbrev R(T:Tbl)(l:List AO)(st:St):Option St:=Zdo (orc T) T l st
@[congr] def z9y{O:Orc}{c:AX}{st st':St}(h:st=st'):evX O T k c st=evX O T k c st':=by rw[h]
@[congr] def z9z{O:Orc}{op:AOp}{d:Option Nat}{st st':St}(h:st=st'):opX O T op d st=opX O T op d st':=by rw[h]
def scX(o:Option (Ex×St)):Option (Ex×St):=o.bind fun r=>match r.1 with | .g _=>none | _=>some r
@[simp] def zak7:evX (orc T) T k .skip st=some (.n,st):=rfl
@[simp] def zam5{l:List AO}:evX (orc T) T k (.reg l) st=stX (Zdo (orc T) T l st):=rfl
@[simp] def zak8{l:List DO}:evX (orc T) T k (.draw l) st=stX (Zbr (orc T) T l st.env st.heap st.clk [] []):=rfl
@[simp] def zam6{a b:AX}:evX (orc T) T k (.seq a b) st=bX (evX (orc T) T k a st) fun s=>evX (orc T) T k b s:=rfl
@[simp] def zak9{c:Opd}{x y:AX}:evX (orc T) T k (.cond c x y) st=cnX (ev st.env.get c) (evX (orc T) T k x st) (evX (orc T) T k y st):=rfl
@[simp] def zaht{id:Nat}{c:AX}:evX (orc T) T k (.block id c) st=Zhf id (evX (orc T) T k c st):=rfl
@[simp] def zala{c:AX}:evX (orc T) T k (.loop c) st=Zir T k c st:=rfl
@[congr] def z90{o o':Option (Ex×St)}(h:o=o'):scX o=scX o':=by rw[h]
@[simp] def zam7{s:St}:scX (some (.n,s))=some (.n,s)/\scX (some (.r,s))=some (.r,s):=by and_intros<;>rfl
@[simp] def zam8{j:Nat}{s:St}:scX (some (.x j,s))=some (.x j,s):=rfl
@[simp] def zahu{c:Prop}[Decidable c]{a b:Option (Ex×St)}:scX (if c then a else b)=if c then scX a else scX b:=by split<;>rfl
@[simp] def zahv{c:AX}:evX (orc T) T k (.scope c) st=scX (evX (orc T) T k c st):=rfl
@[simp] def zahw{l:Nat}:evX (orc T) T k (.label l) st=some (.n,st)/\evX (orc T) T k (.goto l) st=some (.g l,st):=by and_intros<;>rfl
@[simp] def bX_g{l:Nat}{s:St}{f:St->Option (Ex×St)}:bX (some (.g l,s)) f=some (.g l,s):=rfl
def prX(o:Option St)(f:St->Option (Ex×St)):Option (Ex×St):=o.bind f
@[simp] def zalc{id l:Nat}{s:St}:Zhf id (some (.g l,s))=some (.g l,s):=rfl
@[simp] def zald{id:Nat}:evX (orc T) T k (.exit id) st=some (.x id,st):=rfl
@[simp] def zana:evX (orc T) T k .ret st=some (.r,st):=rfl
@[simp] def zale{c:AX}{g:Gh}:evX (orc T) T k (.note c g) st=bX (evX (orc T) T k c st) fun s=>stX (ghS k g s):=rfl
@[simp] def zado{s:St}{f:St->Option (Ex×St)}:prX (some s) f=f s:=rfl
noncomputable def Zfw(k id:Nat)(g2:Gh)(o:Option (Ex×St)):Option (Ex×St):=bX (Zhf id o) fun s=>stX (ghS k g2 s)
noncomputable def Zl(T:Tbl)(k id:Nat)(g2:Gh)(c:AX)(st:St):Option (Ex×St):=Zfw k id g2 (Zir T k c st)
@[simp] def zanb{c:AX}{g:Gh}:evX (orc T) T k (.pre g c) st=prX (ghS k g st) fun s=>evX (orc T) T k c s:=rfl
@[congr] def z4a{id:Nat}{g2:Gh}{c:AX}{st st':St}(h:st=st'):Zl T k id g2 c st=Zl T k id g2 c st':=by rw[h]
@[congr] def z7c{id:Nat}{g2:Gh}{o o':Option (Ex×St)}(h:o=o'):Zfw k id g2 o=Zfw k id g2 o':=by rw[h]
@[simp] def zalf{id j:Nat}{g2:Gh}{s:St}:Zfw k id g2 (some (.x j,s))=if j=id then stX (ghS k g2 s) else some (.x j,s):=by
 unfold Zfw;rw[z9w];split<;>simp
@[simp] def zalg{id:Nat}{g2:Gh}{s:St}:Zfw k id g2 (some (.r,s))=some (.r,s):=rfl
@[simp] def X_lp{id:Nat}{g g2:Gh}{c:AX}:evX (orc T) T k (.lp id g c g2) st=prX (ghS k g st) fun s=>Zl T k id g2 c s:=by
 simp only[evX,prX,Zl,Zfw,bX,Zhf,stX,Zir];cases ghS k g st with
 | none=>rfl
 | some s=>
  simp only[Yab];cases (orc T).loop k c s with
  | none=>rfl
  | some r=>
   obtain⟨e,s'⟩:=r;cases e with
   | n=>rfl
   | r=>rfl
   | g l=>rfl
   | x j=>
    simp only[Yab];split<;>rfl
def Zfx:Option (Ex×St)->Bool
 | some (.x _,_)=>true
 | some (.r,_)=>true
 | _=>false
@[simp] def zalh{j:Nat}{s:St}:Zfx (some (.x j,s))=true:=rfl
@[simp] def zali{s:St}:Zfx (some (.r,s))=true:=rfl
@[simp] def zadp{c:Prop}[Decidable c]{a b:Option (Ex×St)}:Zfx (if c then a else b)=if c then Zfx a else Zfx b:=by split<;>rfl
@[congr] def z7d{o o':Option (Ex×St)}(h:o=o'):Zfx o=Zfx o':=by rw[h]
def zrh{c:AX}:Zir T k c st=bX (evX (orc T) T k c st) fun s=>Zir T k c s:=z0c T k c st
def zaq{α:Type}{id:Nat}{g2:Gh}{c:AX}(F:α->St)(I:α->Prop)(μ:α->Nat)(Q:Ex×St->Prop)
  (step:∀x,I x->(∃y,I y/\μ y<μ x/\evX (orc T) T k c (F x)=some (.n,F y))\/(∃r,Q r/\Zfx (evX (orc T) T k c (F x))=true/\Zfw k id g2 (evX (orc T) T k c (F x))=some r)) :
  ∀x,I x->∃r,Q r/\Zl T k id g2 c (F x)=some r:=by
 have key:∀n x,μ x=n->I x->∃r,Q r/\Zl T k id g2 c (F x)=some r:=by
  intro n
  induction n using Nat.strongRecOn with
  | _ n ih=>
   intro x hn hI;unfold Zl;rw[zrh];rcases step x hI with ⟨y,h1,h2,h3⟩ | ⟨r,h1,h2,h3⟩
   ·rw[h3,bX_n];exact ih (μ y) (hn▸h2) y rfl h1
   ·refine⟨r,h1,?_⟩;rw[<-h3];generalize evX (orc T) T k c (F x)=o at h2 ⊢;cases o with
    | none=>cases h2
    | some q=>
     obtain⟨e,s⟩:=q;cases e
     ·cases h2
     ·rfl
     ·rfl
     ·cases h2
 exact fun x hI=>key _ x rfl hI
def zat{α:Type}{id:Nat}{g2:Gh}{c:AX}(F:α->St)(I:α->Prop)(μ:α->Nat)(G:α->Option (Ex×St))
  (step:∀x,I x->(∃y,I y/\μ y<μ x/\evX (orc T) T k c (F x)=some (.n,F y)/\G y=G x)\/(Zfx (evX (orc T) T k c (F x))=true/\Zfw k id g2 (evX (orc T) T k c (F x))=G x)) :
  ∀x,I x->Zl T k id g2 c (F x)=G x:=by
 have key:∀n x,μ x=n->I x->Zl T k id g2 c (F x)=G x:=by
  intro n
  induction n using Nat.strongRecOn with
  | _ n ih=>
   intro x hn hI;unfold Zl;rw[zrh];rcases step x hI with ⟨y,h1,h2,h3,h4⟩ | ⟨h2,h3⟩
   ·rw[h3,bX_n,<-h4];exact ih (μ y) (hn▸h2) y rfl h1
   ·rw[<-h3];generalize evX (orc T) T k c (F x)=o at h2 ⊢;cases o with
    | none=>cases h2
    | some q=>
     obtain⟨e,s⟩:=q;cases e
     ·cases h2
     ·rfl
     ·rfl
     ·cases h2
 exact fun x hI=>key _ x rfl hI
noncomputable def gS(T:Tbl)(x:AV)(want:Bool)(op:AOp)(d:Option Nat)(st:St):Option St:=gX (orc T) T x want op d st
@[simp] def zanc:Zdo (orc T) T [] st=some st:=rfl
@[simp] def zalj{d:Option Nat}{op:AOp}{l:List AO}:Zdo (orc T) T (⟨d,none,op⟩::l) st=bS (opX (orc T) T op d st) fun s=>Zdo (orc T) T l s:=rfl
@[congr] def zadq{x x':AV}{want:Bool}{op:AOp}(h:x=x'):gS T x want op d st=gS T x' want op d st:=by rw[h]
@[simp] def zahx{d:Option Nat}{op:AOp}{l:List AO}{t:Nat}{w:Bool}:Zdo (orc T) T (⟨d,some (t,w),op⟩::l) st=bS (gS T (st.env.get t) w op d st) fun s=>Zdo (orc T) T l s:=rfl
@[simp] def gS_b{v want:Bool}{op:AOp}:gS T (.b v) want op d st=if v=want then opX (orc T) T op d st else some ⟨Zf st.env d (.tup []),st.heap,st.clk⟩:=rfl
@[simp] def zalk{vs:List AV}{want:Bool}{op:AOp}:gS T (.tup vs) want op d st=some ⟨Zf st.env d (.tup []),st.heap,st.clk⟩:=rfl
@[simp] def zand{x}:opX (orc T) T (.mov x) d st=some ⟨Zf st.env d (ev st.env.get x),st.heap,st.clk⟩:=rfl
@[simp] def zall{c a b}:opX (orc T) T (.pick c a b) d st=pS (Zg0 (ev st.env.get c) (ev st.env.get a) (ev st.env.get b)) d st:=rfl
@[simp] def zahy{zs ps}:opX (orc T) T (.build zs ps) d st=pS ((Zgk zs (ps.map fun p=>(p.1,p.2.1,ev st.env.get p.2.2))).map .agg) d st:=rfl
@[simp] def zalm{n x}:opX (orc T) T (.load n x) d st=pS (Zfc n st.heap (ev st.env.get x)) d st:=rfl
@[simp] def zane{o x y}:opX (orc T) T (.bin o x y) d st=pS (Z7 o (ev st.env.get x) (ev st.env.get y)) d st:=rfl
@[simp] def zanf{g ls x y}:opX (orc T) T (.eqs g ls x y) d st=pS (Zht g ls (ev st.env.get x) (ev st.env.get y)) d st:=rfl
@[simp] def zahz{g x}:opX (orc T) T (.eqnil g x) d st=pS (Zez g (ev st.env.get x)) d st:=rfl
@[simp] def zang{g x y}:opX (orc T) T (.eqb g x y) d st=pS (Zhu g (ev st.env.get x) (ev st.env.get y)) d st:=rfl
@[simp] def O_un{o x}:opX (orc T) T (.un o x) d st=pS (Zg1 o (ev st.env.get x)) d st:=rfl
@[simp] def zaln{n x}:opX (orc T) T (.conv n x) d st=pS (Zbj n (ev st.env.get x)) d st:=rfl
@[simp] def zanh{z x lo hi mx}:opX (orc T) T (.slc z x lo hi mx) d st=pS (Zgl z st.heap (ev st.env.get x) (evO st.env.get lo) (evO st.env.get hi) (evO st.env.get mx)) d st:=rfl
@[simp] def zah0{x lo hi}:opX (orc T) T (.slstr x lo hi) d st=pS (Ze0 (ev st.env.get x) (evO st.env.get lo) (evO st.env.get hi)) d st:=rfl
@[simp] def zani{o x}:opX (orc T) T (.fad o x) d st=pS (Zg2 o st.heap (ev st.env.get x)) d st:=rfl
@[simp] def zanj{o n x}:opX (orc T) T (.fld o n x) d st=pS (Zhv o n (ev st.env.get x)) d st:=rfl
@[simp] def zank{z x i}:opX (orc T) T (.iad z x i) d st=pS (Zg3 z st.heap (ev st.env.get x) (ev st.env.get i)) d st:=rfl
@[simp] def zanl{z n x i}:opX (orc T) T (.iaa z n x i) d st=pS (Zg4 z n st.heap (ev st.env.get x) (ev st.env.get i)) d st:=rfl
@[simp] def zanm{x i}:opX (orc T) T (.ixs x i) d st=pS (Zhw (ev st.env.get x) (ev st.env.get i)) d st:=rfl
@[simp] def zann{z l n x i}:opX (orc T) T (.ixa z l n x i) d st=pS (Zhx z l n (ev st.env.get x) (ev st.env.get i)) d st:=rfl
@[simp] def zano{x}:opX (orc T) T (.len x) d st=pS (Zg5 st.heap (ev st.env.get x)) d st:=rfl
@[simp] def zalo{x}:opX (orc T) T (.lens x) d st=pS (Zf6 (ev st.env.get x)) d st:=rfl
@[simp] def zalp{n}:opX (orc T) T (.lenc n) d st=some ⟨Zf st.env d (.i .i64 n),st.heap,st.clk⟩:=rfl
@[simp] def O_mm{m xs}:opX (orc T) T (.mm m xs) d st=pS (Zkc m (xs.map (ev st.env.get))) d st:=rfl
@[simp] def zanp{x n}:opX (orc T) T (.ext x n) d st=pS (Zhy n (ev st.env.get x)) d st:=rfl
@[simp] def zalq{x}:opX (orc T) T (.nilc x) d st=pS (Zfd st.heap (ev st.env.get x)) d st:=rfl
@[simp] def zah1{zs}:opX (orc T) T (.alloc zs) d st=pW (Ze1 zs d st.heap st.clk) d st:=rfl
@[simp] def zah2{n x v}:opX (orc T) T (.store n x v) d st=pW ((Zbl n st.heap (ev st.env.get x) (ev st.env.get v)).map fun h'=>(.tup [],h',st.clk)) d st:=rfl
@[simp] def zanq{z zs l c}:opX (orc T) T (.mks z zs l c) d st=pW (Zgn z zs d st.heap st.clk (ev st.env.get l) (ev st.env.get c)) d st:=rfl
@[simp] def zanr{z x y}:opX (orc T) T (.app z x y) d st=pW (Zin z d st.heap st.clk (ev st.env.get x) (ev st.env.get y)) d st:=rfl
@[simp] def zalr{n xs}:opX (orc T) T (.xop (.box n) xs) d st=pW (Za0 (.box n) (xs.map (ev st.env.get)) d st.heap st.clk) d st:=rfl
@[simp] def zals{xs}:opX (orc T) T (.xop .cpy xs) d st=pW (Za0 .cpy (xs.map (ev st.env.get)) d st.heap st.clk) d st:=rfl
@[simp] def zah3{xs}:opX (orc T) T (.xop .bstr xs) d st=pW (Za0 .bstr (xs.map (ev st.env.get)) d st.heap st.clk) d st:=rfl
@[simp] def zah4{n xs}:opX (orc T) T (.xop (.arsl n) xs) d st=pW (Za0 (.arsl n) (xs.map (ev st.env.get)) d st.heap st.clk) d st:=rfl
@[simp] def zah5{xs}:opX (orc T) T (.xop .apps xs) d st=pW (Za0 .apps (xs.map (ev st.env.get)) d st.heap st.clk) d st:=rfl
@[simp] def zalt{xs}:opX (orc T) T (.xop .bad xs) d st=pW (Za0 .bad (xs.map (ev st.env.get)) d st.heap st.clk) d st:=rfl
@[simp] def zans{n xs}:opX (orc T) T (.xop (.mkf n) xs) d st=pW (Za0 (.mkf (Ze T n)) (xs.map (ev st.env.get)) d st.heap st.clk) d st:=rfl
@[simp] def zalu{k zv ok x i}:opX (orc T) T (.look k zv ok x i) d st=pS (Zeb k zv ok st.heap (ev st.env.get x) (ev st.env.get i)) d st:=rfl
@[simp] def zalv{xs}:opX (orc T) T (.xop .mmap xs) d st=pW (Za0 .mmap (xs.map (ev st.env.get)) d st.heap st.clk) d st:=rfl
@[simp] def zalw{k xs}:opX (orc T) T (.xop (.mupd k) xs) d st=pW (Za0 (.mupd k) (xs.map (ev st.env.get)) d st.heap st.clk) d st:=rfl
@[simp] def z4b{dd:Option Nat}{h:Heap}{clk:Nat}:Za0 .mmap [] dd h clk=Zic dd h clk:=rfl
@[simp] def z4c{n:Nat}{h:Heap}{clk:Nat}:Zic (some n) h clk=some (.fnp 0 (.loc n) clk 2 0 0,(.loc n,⟨clk,.mp,2,[]⟩)::h,clk+1):=rfl
@[simp] def zadr(h:Heap)(id:BId)(g:Nat):Zfq h id g=(match h.lookup id with | some bx=>if bx.gen=g/\bx.z=2/\bx.kind=.mp then some bx else none | none=>none):=rfl
@[simp] def z7e{k:KTy}{zv:AV}{ok:Bool}{h:Heap}{id:BId}{g:Nat}{i:AV}:Zeb k zv ok h (.fnp 0 id g 2 0 0) i=(Zfq h id g).bind fun bx=>if (Zdz k i i).isSome&&noRef i then (Zfp k i bx.els).map fun r=>
   if ok then .tup [r.getD zv,.b r.isSome] else r.getD zv else none:=rfl
@[simp] def z91{k k':IntKind}{a b:Int}:Zdz .int (.i k a) (.i k' b)=if k=k' then some (a == b) else none:=rfl
@[simp] def zads{ls:List (Nat×Leaf)}{xs ys:List AV}:Zdz (.fs ls) (.agg xs) (.agg ys)=eqL ls xs ys:=rfl
@[simp] def z7f:Zjn (some none)=true:=rfl
@[simp] def z92{k:KTy}{x:AV}:Zfp k x []=some none:=rfl
@[simp] def z4d{k:KTy}{id:BId}{g:Nat}{i y:AV}{dd:Option Nat}{h:Heap}{clk:Nat}:Za0 (.mupd k) [.fnp 0 id g 2 0 0,i,y] dd h clk =
  (Zfq h id g).bind fun bx=>if (Zdz k i i).isSome&&noRef i&&noRef y&&Zjn (Zfp k i bx.els) then some (.dead,(id,⟨g,.mp,2,bx.els++[[i,y]]⟩)::h,clk) else none:=rfl
@[simp] def zant{n xs}:opX (orc T) T (.xop (.mkv n) xs) d st=pW (Za0 (.mkv (Ze T n)) (xs.map (ev st.env.get)) d st.heap st.clk) d st:=rfl
@[simp] def z7g{f:Nat}{x:AV}{dd:Option Nat}{h:Heap}{clk:Nat}:Za0 (.mkv f) [x] dd h clk=if noRef x=true then some (.fnv f x,h,clk) else none:=rfl
@[simp] def zanu{z zs n ps}:opX (orc T) T (.bsl z zs n ps) d st=pB (Zd1 z zs n st.heap (ps.map fun p=>(p.1,ev st.env.get p.2))) d st:=rfl
@[simp] def zalx{u args}:opX (orc T) T (.call u args) d st=Zah (orc T) T u (args.map (ev st.env.get)) d st:=rfl
def cR(r:Option AV)(xs:List AV)(d:Option Nat)(st:St):Option St:=
 r.map fun r=>⟨Zf st.env d r,if scalar r then st.heap else Zy (xs.flatMap refs) st.heap,st.clk⟩
@[congr] def zadt{r r':Option AV}{xs:List AV}(h:r=r'):cR r xs d st=cR r' xs d st:=by rw[h]
def bL(o:Option (List AV))(f:List AV->Option St):Option St:=o.bind f
@[simp] def zah6{r:AV}{xs:List AV}:cR (some r) xs d st=some ⟨Zf st.env d r,if scalar r then st.heap else Zy (xs.flatMap refs) st.heap,st.clk⟩:=rfl
@[congr] def zadu{o o':Option (List AV)}{f:List AV->Option St}(h:o=o'):bL o f=bL o' f:=by rw[h]
def Zj4(h:Heap):List AV->Option (List AV)
 | []=>some []
 | x::l=>(Za7 h x).bind fun y=>(Zj4 h l).map fun ys=>y::ys
@[simp] def zah7{xs:List AV}{f:List AV->Option St}:bL (some xs) f=f xs:=rfl
theorem zw8(h:Heap):∀l:List AV,l.mapM (Za7 h)=Zj4 h l
 | []=>rfl
 | x::l=>by simp only[Ybh,Zj4,zw8 h l,Ycq,Ydf,Option.map_eq_bind,Function.comp_def]
attribute [simp] Zj4 Zh8 Zdd Zf9
def zaz{u:Nat}{xs:List AV}{np nt:Nat}{res:List RV}{b:AX}{ex:Bool}(hT:Tr T u=some ⟨np,nt,res,b,none,ex⟩) :
  Zah (orc T) T u xs d st=bL (Zj4 st.heap xs) fun ys=>cR (Zb T u (ys.map (wkIf ex))) xs d st:=by
 change T u=_ at hT
 unfold Zah bL cR Zb;rw[hT];simp only[zw8];congr 1
 funext ys
 cases (orc T).call u (ys.map (wkIf ex)) []<;>rfl
def zaa{u:Nat}{xs:List AV}{np nt:Nat}{res:List RV}{b:AX}{ex:Bool}(hT:Tr T u=some ⟨np,nt,res,b,none,ex⟩)(hn:xs.length=np)(hp:b.isPrim=none:=by rfl) :
  Zb T u xs=Zgv res ex (evX (orc T) T 0 b ⟨Zbn xs,[],1⟩):=by
 change T u=_ at hT
 unfold Zb Zgv;rw[zlr];simp only[Zc5,hT,hp];rw[if_pos ⟨hn,by simp⟩];simp only[Yaa,Yaw];cases evX (orc T) T 0 b ⟨Zbn xs,[],1⟩ with
 | none=>rfl
 | some r=>
  obtain⟨e,s⟩:=r;cases e<;>simp only[Yab,Zkq,Yem]<;>(cases Zcu s res<;>simp only[Option.bind_none,Yem,Yab]<;>cases frz s.heap _<;>rfl)
def zc4{u:Nat}{xs:List AV}{np nt:Nat}{res:List RV}{f:List AV->Option AV}{ex:Bool}(hT:Tr T u=some ⟨np,nt,res,.prim f,none,ex⟩):Zb T u xs=f xs:=by
 change T u=_ at hT
 unfold Zb;rw[zlr];simp only[Zc5,hT,AX.isPrim];cases f xs<;>simp
theorem zbj{u:Nat}{xs:List AV}{hb:Heap}{np nt:Nat}{res:List RV}{b:AX}{ms:List Bool}{ex:Bool}(hT:Tr T u=some ⟨np,nt,res,b,some ms,ex⟩)(hn:xs.length=np)(hp:b.isPrim=none:=by rfl) :
  Zb6 T u xs hb=Zih res ex hb.length (evX (orc T) T hb.length b ⟨Zbn xs,hb,hb.length+1⟩):=by
 change T u=_ at hT
 unfold Zb6 Zih;rw[zlr];simp only[Zc5,hT,hp];rw[if_pos ⟨hn,by simp⟩];cases evX (orc T) T hb.length b ⟨Zbn xs,hb,hb.length+1⟩ with
 | none=>rfl
 | some r=>
  obtain⟨e,s⟩:=r;cases e<;>simp only[Yab,Zkq]<;>(cases Zcu s res<;>rfl)
def Zkr(l:List BId)(hp h1:Heap)(r:Option (AV×Heap))(d:Option Nat)(st:St):Option St:=
 r.bind fun r=>
  let hb':=r.2.map fun p=>(Za8 l (d.getD 0) p.1,Zag true (Za8 l (d.getD 0)) (Zbe hp st.clk) p.2)
  let r':=rlA (Za8 l (d.getD 0)) (Zbe hp st.clk) r.1
  if (hb'.map (·.1)).Nodup&&Zca hb' r'&&Zhb hb' then
   some ⟨Zf st.env d r',hb'++(h1.filter fun p=>!(l.contains p.1 || (hb'.map (·.1)).contains p.1)),st.clk+r.2.length+2⟩
  else none
@[congr] def z7h{l:List BId}{hp h1:Heap}{r r':Option (AV×Heap)}(h:r=r'):Zkr l hp h1 r d st=Zkr l hp h1 r' d st:=by rw[h]
noncomputable def Zjq(ys:List AV)(h1:Heap)(l:List BId)(T:Tbl)(u:Nat)(ex:Bool)(d:Option Nat)(st:St):Option St:=
 if (Zd6 h1 l).map (·.1)=l/\l.Nodup then
  Zkr l (Zd6 h1 l) h1 (Zb6 T u (ys.map fun y=>rlA (inN l) (inG (Zd6 h1 l)) (wkIf ex y)) ((Zd6 h1 l).map fun p=>(inN l p.1,Zag ex (inN l) (inG (Zd6 h1 l)) p.2))) d st
 else none
@[simp] def z93{l:List BId}{hp h1:Heap}{r:AV}{h2:Heap}:Zkr l hp h1 (some (r,h2)) d st =
  (if ((h2.map fun p=>(Za8 l (d.getD 0) p.1,Zag true (Za8 l (d.getD 0)) (Zbe hp st.clk) p.2)).map (·.1)).Nodup&&Zca (h2.map fun p=>(Za8 l (d.getD 0) p.1,Zag true (Za8 l (d.getD 0)) (Zbe hp st.clk) p.2)) (rlA (Za8 l (d.getD 0)) (Zbe hp st.clk) r)&&Zhb (h2.map fun p=>(Za8 l (d.getD 0) p.1,Zag true (Za8 l (d.getD 0)) (Zbe hp st.clk) p.2)) then
   some ⟨Zf st.env d (rlA (Za8 l (d.getD 0)) (Zbe hp st.clk) r),(h2.map fun p=>(Za8 l (d.getD 0) p.1,Zag true (Za8 l (d.getD 0)) (Zbe hp st.clk) p.2))++(h1.filter fun p=>!(l.contains p.1 || ((h2.map fun p=>(Za8 l (d.getD 0) p.1,Zag true (Za8 l (d.getD 0)) (Zbe hp st.clk) p.2)).map (·.1)).contains p.1)),st.clk+h2.length+2⟩
  else none):=rfl
attribute [simp] Zjq Za8 Zbe inN inG Zex Zhb
def zs7{u:Nat}{xs:List AV}{np nt:Nat}{res:List RV}{b:AX}{ms:List Bool}{ex:Bool}(hT:Tr T u=some ⟨np,nt,res,b,some ms,ex⟩) :
  Zah (orc T) T u xs d st=bL (Zh8 st.heap ms xs) fun ys=>Zjq ys (Zy (Zdd ms xs) st.heap) (Zfv (Zy (Zdd ms xs) st.heap) 40 (Zf9 ms xs) []) T u ex d st:=by
 change T u=_ at hT
 unfold Zah bL Zjq Zkr Zb6;rw[hT]
def bD(o:Option (AV×Bool))(f:AV×Bool->Option St):Option St:=o.bind f
@[congr] def zadv{o o':Option (AV×Bool)}{f:AV×Bool->Option St}(h:o=o'):bD o f=bD o' f:=by rw[h]
def bWr(o:Option (AV×Heap×Nat))(f:AV×Heap×Nat->Option St):Option St:=o.bind f
@[simp] def zah8{e:AV×Bool}{f:AV×Bool->Option St}:bD (some e) f=f e:=rfl
@[congr] def z94{o o':Option (AV×Heap×Nat)}{f:AV×Heap×Nat->Option St}(h:o=o'):bWr o f=bWr o' f:=by rw[h]
def iP(b:Bool)(x:Option St):Option St:=if b then x else none
@[simp] def zadw{q:AV×Heap×Nat}{f:AV×Heap×Nat->Option St}:bWr (some q) f=f q:=rfl
@[congr] def zadx{b b':Bool}{x:Option St}(h:b=b'):iP b x=iP b' x:=by rw[h]
@[simp] def zah9{x:Option St}:iP true x=x:=rfl
@[simp] def z7i{h:Heap}:Zaf [] h=true:=by
 classical
 unfold Zaf;exact decide_eq_true fun p hp=>by cases hp
@[simp] def z4e{q:AOp×Env×AV}{l:Zal}{h:Heap}:Zaf ((0,q)::l) h=Zaf l h:=by
 classical
 unfold Zaf;refine decide_eq_decide.2 ⟨fun h1 p hp=>h1 p (Yj _ hp),fun h1 p hp h0=>?_⟩;rcases Yr.1 hp with rfl | hp
 ·cases h0
 ·exact h1 p hp h0
@[simp] def ziv{n:Nat}{op:AOp}{e:Env}{x:AV}{l:Zal}{h:Heap}(hs:Zgp op e.get h=some x):Zaf ((n,op,e,x)::l) h=Zaf l h:=by
 classical
 unfold Zaf;refine decide_eq_decide.2 ⟨fun h1 p hp=>h1 p (Yj _ hp),fun h1 p hp h0=>?_⟩;rcases Yr.1 hp with rfl | hp
 ·exact hs
 ·exact h1 p hp h0
def zs8{op:AOp}{e:Env}{older:List Heap}{x:AV}(hf:op.free=true):Zen op e older x=true:=by unfold Zen;rw[hf];rfl
def zw9{op:AOp}{e:Env}{x:AV}:Zen op e [] x=true:=by
 classical
 unfold Zen;rw[Ycw];exact .inr (decide_eq_true fun h' hh=>by cases hh)
def zs9{op:AOp}{e:Env}{h:Heap}{older:List Heap}{x:AV}(h1:Zj op e.get h=some x):Zen op e (h::older) x=Zen op e older x:=by
 classical
 unfold Zen;congr 1;refine decide_eq_decide.2 ?_;simp only[Yr,forall_eq_or_imp,h1,true_and]
noncomputable def rD(T:Tbl)(q:Option (Nat×List AV))(o:DO)(r:List DO)(e:Env)(h:Heap)(clk:Nat)(older:List Heap)(pend:Zal):Option St:=
 match q with
 | none=>bD (qX (orc T) T o.ao e h (older.take (older.length-o.lo))) fun x=>Zbr (orc T) T r (Zf e o.ao.dst x.1) h clk older (Zbo o older.length e x pend)
 | some p=>(Zd7 (orc T) T p.1 p.2).bind fun x=>Zbr (orc T) T r (Zf e o.ao.dst x) h clk older (if older.length<o.hi then (o.hi-older.length,o.ao.op,e,.tup p.2)::pend else pend)
noncomputable def bAV(o:Option AV)(f:AV->Option St):Option St:=o.bind f
@[simp] def zaia{o:DO}{r:List DO}{e:Env}{h:Heap}{clk:Nat}{older:List Heap}{pend:Zal}:rD T none o r e h clk older pend=bD (qX (orc T) T o.ao e h (older.take (older.length-o.lo))) fun x=>Zbr (orc T) T r (Zf e o.ao.dst x.1) h clk older (Zbo o older.length e x pend):=rfl
@[simp] def zady{x:AV}{f:AV->Option St}:bAV (some x) f=f x:=rfl
@[simp] def zaib{u:Nat}{ys:List AV}{o:DO}{r:List DO}{e:Env}{h:Heap}{clk:Nat}{older:List Heap}{pend:Zal}:rD T (some (u,ys)) o r e h clk older pend=bAV (Zd7 (orc T) T u ys) fun x=>Zbr (orc T) T r (Zf e o.ao.dst x) h clk older (if older.length<o.hi then (o.hi-older.length,o.ao.op,e,.tup ys)::pend else pend):=rfl
open Classical in
noncomputable def rK(u:Nat)(xs ys:List AV)(older:List Heap):Option (Nat×List AV):=if decide (∀h'∈older,Zb5 h' xs=some ys)=true then some (u,ys) else none
@[simp] def zaic{g:Option (Nat×Bool)}{e:Env}{h:Heap}{older:List Heap}:Zff g none e h older=none:=by cases g<;>rfl
@[simp] def zaid{g:Nat×Bool}{c:Option (Nat×List Opd)}{e:Env}{h:Heap}{older:List Heap}:Zff (some g) c e h older=none:=by cases c<;>rfl
noncomputable def rC(c:Bool)(u:Nat)(xs:List AV)(h:Heap)(older:List Heap):Option (Nat×List AV):=
 match c with
 | true=>none
 | false=>(Zb5 h xs).bind fun ys=>rK u xs ys older
@[congr] def zadz{c c':Bool}{u:Nat}{xs:List AV}{h:Heap}{older:List Heap}(h1:c=c'):rC c u xs h older=rC c' u xs h older:=by rw[h1]
@[simp] def zaie{u:Nat}{xs:List AV}{h:Heap}{older:List Heap}:rC true u xs h older=none/\(rC false u xs h older=(Zb5 h xs).bind fun ys=>rK u xs ys older):=by and_intros<;>rfl
@[simp] def z95{q:Nat×List Opd}{e:Env}{h:Heap}{older:List Heap}:Zff none (some q) e h older=rC ((q.2.map (ev e.get)).all noRef) q.1 (q.2.map (ev e.get)) h older:=by
 classical
 unfold Zff Zkm rC;cases hc:(q.2.map (ev e.get)).all noRef with
 | true=>simp only[hc,if_true,Yem]
 | false=>
  simp only[hc,Yac,if_false];cases Zb5 h (q.2.map (ev e.get)) with
  | none=>rfl
  | some ys=>
   simp only[Yab,rK];split<;>rfl
noncomputable def dX(T:Tbl)(wr:Bool)(o:DO)(r:List DO)(e:Env)(h:Heap)(clk:Nat)(older:List Heap)(pend:Zal):Option St:=
 match wr with
 | true=>if o.ao.guard.isNone then bWr (stepW o.ao.op o.ao.dst e.get h clk) fun q=>iP (Zaf pend q.2.1) (Zbr (orc T) T r (Zf e o.ao.dst q.1) q.2.1 q.2.2 (h::older) (pend.map fun p=>(p.1-1,p.2))) else none
 | false=>rD T (Zff o.ao.guard o.ao.op.callN e h (older.take (older.length-o.lo))) o r e h clk older pend
@[congr] def z4f{l:List DO}{e e':Env}{h h':Heap}{clk clk':Nat}{older older':List Heap}{pend pend':Zal}(h1:e=e')(h2:h=h')(h3:clk=clk')(h4:older=older')(h5:pend=pend'):Zbr (orc T) T l e h clk older pend=Zbr (orc T) T l e' h' clk' older' pend':=by rw[h1,h2,h3,h4,h5]
@[simp] def z96{e:Env}{h:Heap}{clk:Nat}{older:List Heap}{pend:Zal}:Zbr (orc T) T [] e h clk older pend=some ⟨e,h,clk⟩:=rfl
@[simp] def z7j{o:DO}{r:List DO}{e:Env}{h:Heap}{clk:Nat}{older:List Heap}{pend:Zal}:Zbr (orc T) T (o::r) e h clk older pend=dX T o.ao.op.writes o r e h clk older pend:=by
 unfold dX;rw[Zbr];cases o.ao.op.writes with
 | true=>rfl
 | false=>
  unfold rD;simp only;cases Zff o.ao.guard o.ao.op.callN e h (older.take (older.length-o.lo))<;>rfl
def dV(o:Option AV):Option (AV×Bool):=o.map fun x=>(x,true)
noncomputable def gD(T:Tbl)(x:AV)(want:Bool)(op:AOp)(e:Env)(h:Heap)(older:List Heap):Option (AV×Bool):=
 match x with
 | .b v=>if v=want then dV (opD (orc T) T op e h older) else some (.tup [],false)
 | .tup []=>some (.tup [],false)
 | _=>none
@[simp] def zaif{o:DO}{r:List DO}{e:Env}{h:Heap}{clk:Nat}{older:List Heap}{pend:Zal}:(dX T true o r e h clk older pend=if o.ao.guard.isNone then bWr (stepW o.ao.op o.ao.dst e.get h clk) fun q=>iP (Zaf pend q.2.1) (Zbr (orc T) T r (Zf e o.ao.dst q.1) q.2.1 q.2.2 (h::older) (pend.map fun p=>(p.1-1,p.2))) else none)/\dX T false o r e h clk older pend=rD T (Zff o.ao.guard o.ao.op.callN e h (older.take (older.length-o.lo))) o r e h clk older pend:=by and_intros<;>rfl
@[simp] def zaig{x:AV}:dV (some x)=some (x,true):=rfl
@[simp] def zaih:dV none=none:=rfl
@[simp] def zaii{op:AOp}{e:Env}{h:Heap}{older:List Heap}:qX (orc T) T ⟨d,none,op⟩ e h older=dV (opD (orc T) T op e h older):=rfl
@[congr] def zad2{x x':AV}{want:Bool}{op:AOp}{e:Env}{h:Heap}{older:List Heap}(h1:x=x'):gD T x want op e h older=gD T x' want op e h older:=by rw[h1]
noncomputable def dC(o:Option AV)(op:AOp)(older:List Heap)(e:Env):Option AV:=o.bind fun x=>if Zen op e older x then some x else none
@[simp] def zaij{t:Nat}{want:Bool}{op:AOp}{e:Env}{h:Heap}{older:List Heap}:qX (orc T) T ⟨d,some (t,want),op⟩ e h older=gD T (e.get t) want op e h older:=rfl
@[simp] def gD_b{v want:Bool}{op:AOp}{e:Env}{h:Heap}{older:List Heap}:gD T (.b v) want op e h older=if v=want then dV (opD (orc T) T op e h older) else some (.tup [],false):=rfl
@[simp] def zaly{want:Bool}{op:AOp}{e:Env}{h:Heap}{older:List Heap}:gD T (.tup []) want op e h older=some (.tup [],false):=rfl
@[congr] def zad3{o o':Option AV}{op:AOp}{older:List Heap}{e:Env}(h1:o=o'):dC o op older e=dC o' op older e:=by rw[h1]
@[simp] def zalz{x:AV}{op:AOp}{e:Env}:dC (some x) op [] e=some x:=by
 unfold dC;rw[Yab,zw9]
 rfl
theorem z4g{x:AV}{op:AOp}{h:Heap}{older:List Heap}{e:Env}(h1:Zj op e.get h=some x):dC (some x) op (h::older) e=dC (some x) op older e:=by
 unfold dC;rw[Yab,Yab,zs9 h1]
def zbn{op:AOp}{h:Heap}{older:List Heap}{e:Env}(hf:op.free=true):((Zj op e.get h).bind fun x=>if Zen op e older x then some x else none)=Zj op e.get h:=by
 cases Zj op e.get h with
 | none=>rfl
 | some x=>rw[Yab,zs8 hf];rfl
@[simp] def zanv{x}{e:Env}{h:Heap}{older:List Heap}:opD (orc T) T (.mov x) e h older=some (ev e.get x):=zbn (op:=.mov x) (h:=h) (older:=older) (e:=e) rfl
@[simp] def zanw{z y}{e:Env}{h:Heap}{older:List Heap}:opD (orc T) T (.app z (.c (.sl [] .nl)) y) e h older=Zgm z (ev e.get y):=rfl
@[simp] def zad4{z:Nat}{els:List (List AV)}{f:Fl}:Zgm z (.sl els f)=if (els.head?.all fun r=>r.length=z)/\els.length<=4294967296 then some (.sl els .an) else none:=rfl
@[simp] def z2f{z n y}:(AOp.app z (.t n) y).writes=true:=rfl
@[simp] def z7k{z n y}:(AOp.app z (.t n) y).free=false:=rfl
@[simp] def z4h{z n y}:(AOp.app z (.t n) y).maker=true:=rfl
@[simp] def z7l{z y}:(AOp.app z (.c (.sl [] .nl)) y).writes=false:=rfl
@[simp] def zad5{z y}:(AOp.app z (.c (.sl [] .nl)) y).free=true:=rfl
@[simp] def z97{z y}:(AOp.app z (.c (.sl [] .nl)) y).maker=false:=rfl
@[simp] def zal0{c a b}{e:Env}{h:Heap}{older:List Heap}:opD (orc T) T (.pick c a b) e h older=Zg0 (ev e.get c) (ev e.get a) (ev e.get b):=zbn (op:=.pick c a b) (h:=h) (older:=older) (e:=e) rfl
@[simp] def zaik{zs ps}{e:Env}{h:Heap}{older:List Heap}:opD (orc T) T (.build zs ps) e h older=(Zgk zs (ps.map fun p=>(p.1,p.2.1,ev e.get p.2.2))).map .agg:=zbn (op:=.build zs ps) (h:=h) (older:=older) (e:=e) rfl
@[simp] def zanx{o x y}{e:Env}{h:Heap}{older:List Heap}:opD (orc T) T (.bin o x y) e h older=Z7 o (ev e.get x) (ev e.get y):=zbn (op:=.bin o x y) (h:=h) (older:=older) (e:=e) rfl
@[simp] def zany{g ls x y}{e:Env}{h:Heap}{older:List Heap}:opD (orc T) T (.eqs g ls x y) e h older=Zht g ls (ev e.get x) (ev e.get y):=zbn (op:=.eqs g ls x y) (h:=h) (older:=older) (e:=e) rfl
@[simp] def zail{g x}{e:Env}{h:Heap}{older:List Heap}:opD (orc T) T (.eqnil g x) e h older=Zez g (ev e.get x):=zbn (op:=.eqnil g x) (h:=h) (older:=older) (e:=e) rfl
@[simp] def zanz{g x y}{e:Env}{h:Heap}{older:List Heap}:opD (orc T) T (.eqb g x y) e h older=Zhu g (ev e.get x) (ev e.get y):=zbn (op:=.eqb g x y) (h:=h) (older:=older) (e:=e) rfl
@[simp] def D_un{o x}{e:Env}{h:Heap}{older:List Heap}:opD (orc T) T (.un o x) e h older=Zg1 o (ev e.get x):=zbn (op:=.un o x) (h:=h) (older:=older) (e:=e) rfl
@[simp] def zal1{k x}{e:Env}{h:Heap}{older:List Heap}:opD (orc T) T (.conv k x) e h older=Zbj k (ev e.get x):=zbn (op:=.conv k x) (h:=h) (older:=older) (e:=e) rfl
@[simp] def zaim{x lo hi}{e:Env}{h:Heap}{older:List Heap}:opD (orc T) T (.slstr x lo hi) e h older=Ze0 (ev e.get x) (evO e.get lo) (evO e.get hi):=zbn (op:=.slstr x lo hi) (h:=h) (older:=older) (e:=e) rfl
@[simp] def zan0{o n x}{e:Env}{h:Heap}{older:List Heap}:opD (orc T) T (.fld o n x) e h older=Zhv o n (ev e.get x):=zbn (op:=.fld o n x) (h:=h) (older:=older) (e:=e) rfl
@[simp] def zan1{x i}{e:Env}{h:Heap}{older:List Heap}:opD (orc T) T (.ixs x i) e h older=Zhw (ev e.get x) (ev e.get i):=zbn (op:=.ixs x i) (h:=h) (older:=older) (e:=e) rfl
@[simp] def zan2{z l n x i}{e:Env}{h:Heap}{older:List Heap}:opD (orc T) T (.ixa z l n x i) e h older=Zhx z l n (ev e.get x) (ev e.get i):=zbn (op:=.ixa z l n x i) (h:=h) (older:=older) (e:=e) rfl
@[simp] def zal2{x}{e:Env}{h:Heap}{older:List Heap}:opD (orc T) T (.lens x) e h older=Zf6 (ev e.get x):=zbn (op:=.lens x) (h:=h) (older:=older) (e:=e) rfl
@[simp] def zal3{n}{e:Env}{h:Heap}{older:List Heap}:opD (orc T) T (.lenc n) e h older=some (.i .i64 n):=zbn (op:=.lenc n) (h:=h) (older:=older) (e:=e) rfl
@[simp] def D_mm{m xs}{e:Env}{h:Heap}{older:List Heap}:opD (orc T) T (.mm m xs) e h older=Zkc m (xs.map (ev e.get)):=zbn (op:=.mm m xs) (h:=h) (older:=older) (e:=e) rfl
@[simp] def zan3{x n}{e:Env}{h:Heap}{older:List Heap}:opD (orc T) T (.ext x n) e h older=Zhy n (ev e.get x):=zbn (op:=.ext x n) (h:=h) (older:=older) (e:=e) rfl
@[simp] def zal4{n x}{e:Env}{h:Heap}{older:List Heap}:opD (orc T) T (.load n x) e h older=dC (Zfc n h (ev e.get x)) (.load n x) older e:=rfl
@[simp] def zan4{z x lo hi mx}{e:Env}{h:Heap}{older:List Heap}:opD (orc T) T (.slc z x lo hi mx) e h older=dC (Zgl z h (ev e.get x) (evO e.get lo) (evO e.get hi) (evO e.get mx)) (.slc z x lo hi mx) older e:=rfl
@[simp] def zan5{o x}{e:Env}{h:Heap}{older:List Heap}:opD (orc T) T (.fad o x) e h older=dC (Zg2 o h (ev e.get x)) (.fad o x) older e:=rfl
@[simp] def zan6{z x i}{e:Env}{h:Heap}{older:List Heap}:opD (orc T) T (.iad z x i) e h older=dC (Zg3 z h (ev e.get x) (ev e.get i)) (.iad z x i) older e:=rfl
@[simp] def zan7{z n x i}{e:Env}{h:Heap}{older:List Heap}:opD (orc T) T (.iaa z n x i) e h older=dC (Zg4 z n h (ev e.get x) (ev e.get i)) (.iaa z n x i) older e:=rfl
@[simp] def zan8{x}{e:Env}{h:Heap}{older:List Heap}:opD (orc T) T (.len x) e h older=dC (Zg5 h (ev e.get x)) (.len x) older e:=rfl
@[simp] def zal5{k zv ok x i}{e:Env}{h:Heap}{older:List Heap}:opD (orc T) T (.look k zv ok x i) e h older=dC (Zeb k zv ok h (ev e.get x) (ev e.get i)) (.look k zv ok x i) older e:=rfl
@[simp] def zal6{x}{e:Env}{h:Heap}{older:List Heap}:opD (orc T) T (.nilc x) e h older=dC (Zfd h (ev e.get x)) (.nilc x) older e:=rfl
def dR(r:Option AV)(xs:List AV):Option AV:=if xs.all noRef then r else none
@[congr] def zad6{r r':Option AV}{xs:List AV}(h1:r=r'):dR r xs=dR r' xs:=by rw[h1]
@[simp] def zain{r:AV}{xs:List AV}:dR (some r) xs=if xs.all noRef then some r else none:=rfl
def z0d{u:Nat}{args:List Opd}{np nt:Nat}{res:List RV}{b:AX}{ex:Bool}{e:Env}{h:Heap}{older:List Heap}(hT:Tr T u=some ⟨np,nt,res,b,none,ex⟩) :
  opD (orc T) T (.call u args) e h older=dR (Zb T u ((args.map (ev e.get)).map (wkIf ex))) (args.map (ev e.get)):=by
 change T u=_ at hT
 unfold dR Zb;simp only[opD,hT,Option.isNone_none,Ydu]
@[simp] def zan9{z zs n ps}{e:Env}{h:Heap}{older:List Heap}:opD (orc T) T (.bsl z zs n ps) e h older=if (ps.map fun p=>(p.1,ev e.get p.2)).all (fun p=>noRef p.2) then (Zd1 z zs n [] (ps.map fun p=>(p.1,ev e.get p.2))).map (·.1) else none:=rfl
@[congr] def z4i{tl l:List AO}{e e':Env}{h h':Heap}{clk clk':Nat}(h1:e=e')(h2:h=h')(h3:clk=clk'):Zd8 (orc T) T tl l e h clk=Zd8 (orc T) T tl l e' h' clk':=by rw[h1,h2,h3]
noncomputable def rH(T:Tbl)(q:Option (Nat×List AV))(tl:List AO)(o:AO)(r:List AO)(e:Env)(h:Heap)(clk:Nat):Option St:=
 match q with
 | none=>bD (qX (orc T) T o e h []) fun x=>Zcl (orc T) T tl r (Zf e o.dst x.1) h clk
 | some p=>(Zd7 (orc T) T p.1 p.2).bind fun x=>Zcl (orc T) T tl r (Zf e o.dst x) h clk
@[simp] def z98{tl:List AO}{e:Env}{h:Heap}{clk:Nat}:Zd8 (orc T) T tl [] e h clk=Zdo (orc T) T tl ⟨e,h,clk⟩/\Zcl (orc T) T tl [] e h clk=Zdo (orc T) T tl ⟨e,h,clk⟩:=by and_intros<;>rfl
@[simp] def z7m{tl r:List AO}{o:AO}{e:Env}{h:Heap}{clk:Nat}:Zd8 (orc T) T tl (o::r) e h clk=bD (qX (orc T) T o e h []) fun x=>Zd8 (orc T) T tl r (Zf e o.dst x.1) h clk:=rfl
@[simp] def zaio{tl:List AO}{o:AO}{r:List AO}{e:Env}{h:Heap}{clk:Nat}:rH T none tl o r e h clk=bD (qX (orc T) T o e h []) fun x=>Zcl (orc T) T tl r (Zf e o.dst x.1) h clk:=rfl
@[simp] def zaip{p:Nat×List AV}{tl:List AO}{o:AO}{r:List AO}{e:Env}{h:Heap}{clk:Nat}:rH T (some p) tl o r e h clk=(Zd7 (orc T) T p.1 p.2).bind fun x=>Zcl (orc T) T tl r (Zf e o.dst x) h clk:=rfl
@[simp] def z7n{tl r:List AO}{o:AO}{e:Env}{h:Heap}{clk:Nat}:Zcl (orc T) T tl (o::r) e h clk=rH T (Zff o.guard o.op.callN e h []) tl o r e h clk:=by
 unfold rH;rw[Zcl];cases Zff o.guard o.op.callN e h []<;>rfl
@[simp] def zaiq{hd tl:List AO}:evX (orc T) T k (.drawR hd tl) st=stX (Zcl (orc T) T tl hd st.env st.heap st.clk):=rfl
@[congr] def z4j{tl l:List AO}{h0:Heap}{c0:Nat}{X:Heap}{e e':Env}{h h':Heap}{clk clk':Nat}(h1:e=e')(h2:h=h')(h3:clk=clk'):Za5 (orc T) T tl h0 c0 X l e h clk=Za5 (orc T) T tl h0 c0 X l e' h' clk':=by rw[h1,h2,h3]
noncomputable def kM(T:Tbl)(tl:List AO)(h0:Heap)(c0:Nat)(X:Heap)(op:AOp)(d:Nat)(r:List AO)(e:Env)(h:Heap)(q:Option (AV×Heap×Nat)):Option St:=
 q.bind fun q=>if ((h.lookup (.loc d)).isNone&&Zig c0 op e q.2.1)=true then Za5 (orc T) T tl h0 c0 X r (Zf e (some d) q.1) (q.2.1++h) q.2.2 else none
noncomputable def kN(T:Tbl)(tl:List AO)(h0:Heap)(c0:Nat)(X:Heap)(op:AOp)(d:Nat)(r:List AO)(e:Env)(h:Heap)(q:Option (AV×Heap×Nat)):Option St:=
 q.bind fun q=>if Zig c0 op e (q.2.1.take 1)=true then Za5 (orc T) T tl h0 c0 X r (Zf e (some d) q.1) (q.2.1.take 1++h) q.2.2 else none
noncomputable def uX(T:Tbl)(w:Option (BId×Box))(tl:List AO)(h0:Heap)(c0:Nat)(X:Heap)(op:AOp)(d:Nat)(r:List AO)(e:Env)(h:Heap)(clk:Nat):Option St:=
 match w with
 | none=>kM T tl h0 c0 X op d r e h (stepW op (some d) e.get [] clk)
 | some p=>kN T tl h0 c0 X op d r e h (stepW op (some d) e.get [p] clk)
@[simp] def zaaa{tl:List AO}{h0:Heap}{c0:Nat}{X:Heap}{e:Env}{h:Heap}{clk:Nat}:Za5 (orc T) T tl h0 c0 X [] e h clk=Zdo (orc T) T tl ⟨e,h,clk⟩:=rfl
@[simp] def zair{tl:List AO}{h0:Heap}{c0:Nat}{X:Heap}{op:AOp}{d:Nat}{r:List AO}{e:Env}{h:Heap}{q:AV×Heap×Nat}:(kM T tl h0 c0 X op d r e h (some q)=if ((h.lookup (.loc d)).isNone&&Zig c0 op e q.2.1)=true then Za5 (orc T) T tl h0 c0 X r (Zf e (some d) q.1) (q.2.1++h) q.2.2 else none)/\(kN T tl h0 c0 X op d r e h (some q)=if Zig c0 op e (q.2.1.take 1)=true then Za5 (orc T) T tl h0 c0 X r (Zf e (some d) q.1) (q.2.1.take 1++h) q.2.2 else none):=by and_intros<;>rfl
@[congr] def zad7{w w':Option (BId×Box)}{tl:List AO}{h0:Heap}{c0:Nat}{X:Heap}{op:AOp}{d:Nat}{r:List AO}{e:Env}{h:Heap}{clk:Nat}(h1:w=w'):uX T w tl h0 c0 X op d r e h clk=uX T w' tl h0 c0 X op d r e h clk:=by rw[h1]
@[simp] def zait{tl:List AO}{h0:Heap}{c0:Nat}{X:Heap}{op:AOp}{d:Nat}{r:List AO}{e:Env}{h:Heap}{clk:Nat}:uX T none tl h0 c0 X op d r e h clk=kM T tl h0 c0 X op d r e h (stepW op (some d) e.get [] clk):=rfl
@[simp] def zaiu{tl:List AO}{h0:Heap}{c0:Nat}{X:Heap}{op:AOp}{d:Nat}{r:List AO}{e:Env}{h:Heap}{clk:Nat}{p:BId×Box}:uX T (some p) tl h0 c0 X op d r e h clk=kN T tl h0 c0 X op d r e h (stepW op (some d) e.get [p] clk):=rfl
@[simp] def z7o{c0:Nat}{h0 X h:Heap}{zs:List AV}{e:Env}:Zhq c0 h0 X h (.alloc zs) e=none:=rfl
@[simp] def zad8{c0:Nat}{h0 X h:Heap}{z:Nat}{zs:List AV}{l c:Opd}{e:Env}:Zhq c0 h0 X h (.mks z zs l c) e=none:=rfl
@[simp] def zaab{c0:Nat}{h0 X h:Heap}{k:KTy}{zv:AV}{ok:Bool}{x i:Opd}{e:Env}:Zhq c0 h0 X h (.look k zv ok x i) e=none:=rfl
@[simp] def zad9{c0:Nat}{h0 X h:Heap}{k:XOp}{xs:List Opd}{e:Env}:Zhq c0 h0 X h (.xop k xs) e=none:=rfl
@[simp] def zaea{c0:Nat}{h0 X h:Heap}{z:Nat}{x y:Opd}{e:Env}:Zhq c0 h0 X h (.app z x y) e=Zj3 c0 h0 X h (ev e.get x):=rfl
@[simp] def zaiv{c0:Nat}{h0 X h:Heap}{l:List (List AV)}{f:Fl}:Zj3 c0 h0 X h (.sl l f)=none:=rfl
@[simp] def zaiw{c0:Nat}{h0 X h:Heap}{b:BId}{g z o n:Nat}:Zj3 c0 h0 X h (.bs b g z o n)=Zkn c0 (h0.lookup b) (X.lookup b) b (h.lookup b):=rfl
@[simp] def zaac{c0:Nat}{b:BId}{x o:Box}:Zkn c0 none (some x) b (some o)=if o.gen<c0 then some (b,o) else none:=rfl
attribute [simp] Zmh
noncomputable def kB(T:Tbl)(tl:List AO)(h0:Heap)(c0:Nat)(X:Heap)(d:Nat)(r:List AO)(e:Env)(h:Heap)(q:Option (AV×Heap×Nat)):Option St:=
 q.bind fun q=>if q.2.1.all (fun p=>(h.lookup p.1).isNone)=true then Za5 (orc T) T tl h0 c0 X r (Zf e (some d) q.1) (q.2.1++h) q.2.2 else none
noncomputable def lX(T:Tbl)(b:Option (Nat×List Opd))(tl:List AO)(h0:Heap)(c0:Nat)(X:Heap)(o:AO)(r:List AO)(e:Env)(h:Heap)(clk:Nat):Option St:=
 match b with
 | some ua=>
  match o.guard,o.dst with
  | none,some d=>kB T tl h0 c0 X d r e h (Ze9 (orc T) T ua.1 (ua.2.map (ev e.get)) d clk)
  | _,_=>none
 | none=>bD (qX (orc T) T o e h0 []) fun x=>if Zh0 c0 o.op e (gnA x.1)=true then Za5 (orc T) T tl h0 c0 X r (Zf e o.dst x.1) h clk else none
noncomputable def tX(T:Tbl)(tl:List AO)(h0:Heap)(c0:Nat)(X:Heap)(r:List AO)(b:Bool)(e:Env)(q:Option Heap)(clk:Nat):Option St:=
 q.bind fun h=>if b=true then Za5 (orc T) T tl h0 c0 X r e h clk else none
noncomputable def sX(T:Tbl)(b:Bool)(tl:List AO)(h0:Heap)(c0:Nat)(X:Heap)(o:AO)(r:List AO)(e:Env)(h:Heap)(clk:Nat):Option St:=
 match b with
 | true=>
  match o.guard,o.dst with
  | none,none=>(stepW o.op none e.get h clk).bind fun q=>if Zga X o.op e=true then Za5 (orc T) T tl h0 c0 X r e q.2.1 q.2.2 else none
  | _,_=>none
 | false=>lX T o.op.lentN tl h0 c0 X o r e h clk
@[simp] def zaad{e:Env}:Zey [] e=[]:=rfl
@[simp] def z7p{o:AO}{r:List AO}{e:Env}:Zey (o::r) e=match o.op with | .mov x=>Zey r (Zf e o.dst (ev e.get x)) | .app _ x _=>Zmh (ev e.get x)++Zey r (Zf e o.dst .dead) | _=>Zey r (Zf e o.dst .dead):=rfl
@[simp] def z4k{h:Heap}:Ze2 [] h=h:=rfl
@[simp] def z2g{b:BId}{ids:List BId}{h:Heap}:Ze2 (b::ids) h=h.filter fun p=>!(b::ids).contains p.1:=rfl
@[simp] def zaix{tl:List AO}{h0:Heap}{c0:Nat}{X:Heap}{d:Nat}{r:List AO}{e:Env}{h:Heap}{q:AV×Heap×Nat}:kB T tl h0 c0 X d r e h (some q)=if q.2.1.all (fun p=>(h.lookup p.1).isNone)=true then Za5 (orc T) T tl h0 c0 X r (Zf e (some d) q.1) (q.2.1++h) q.2.2 else none:=rfl
@[simp] def zaiy{tl r:List AO}{h0:Heap}{c0:Nat}{X:Heap}{op:AOp}{dd u:Nat}{args:List Opd}{e:Env}{h:Heap}{clk:Nat}:lX T (some (u,args)) tl h0 c0 X ⟨some dd,none,op⟩ r e h clk=kB T tl h0 c0 X dd r e h (Ze9 (orc T) T u (args.map (ev e.get)) dd clk):=rfl
@[simp] def zaiz{tl r:List AO}{h0:Heap}{c0:Nat}{X:Heap}{o:AO}{e:Env}{h:Heap}{clk:Nat}:lX T none tl h0 c0 X o r e h clk=bD (qX (orc T) T o e h0 []) fun x=>if Zh0 c0 o.op e (gnA x.1)=true then Za5 (orc T) T tl h0 c0 X r (Zf e o.dst x.1) h clk else none:=rfl
@[simp] def zai0{tl:List AO}{h0:Heap}{c0:Nat}{X:Heap}{r:List AO}{e:Env}{h:Heap}{clk:Nat}:tX T tl h0 c0 X r true e (some h) clk=Za5 (orc T) T tl h0 c0 X r e h clk:=rfl
@[simp] def zai1{tl r:List AO}{h0:Heap}{c0:Nat}{X:Heap}{n:Nat}{x v:Opd}{e:Env}{h:Heap}{clk:Nat}:sX T true tl h0 c0 X ⟨none,none,.store n x v⟩ r e h clk=tX T tl h0 c0 X r (Zga X (.store n x v) e) e (Zbl n h (ev e.get x) (ev e.get v)) clk:=by
 unfold sX tX;simp only[stepW];cases Zbl n h (ev e.get x) (ev e.get v)<;>rfl
noncomputable def Zmi(r:Option (AV×Heap))(d clk:Nat):Option (AV×Heap×Nat):=
 r.bind fun r=>
  let hb':=r.2.map fun p=>(Za8 [] d p.1,Zag true (Za8 [] d) (Zbe [] clk) p.2)
  let r':=rlA (Za8 [] d) (Zbe [] clk) r.1
  if (hb'.map (·.1)).Nodup/\geB clk (gnA r')=true/\geH clk hb'=true then some (r',hb',clk+(r.2.length+2)) else none
noncomputable def mX(T:Tbl)(b:Bool)(tl:List AO)(h0:Heap)(c0:Nat)(X:Heap)(o:AO)(r:List AO)(e:Env)(h:Heap)(clk:Nat):Option St:=
 match b with
 | true=>
  match o.guard,o.dst with
  | none,some d=>uX T (Zhq c0 h0 X h o.op e) tl h0 c0 X o.op d r e h clk
  | _,_=>none
 | false=>sX T o.op.isStore tl h0 c0 X o r e h clk
@[simp] def zaeb{tl r:List AO}{h0:Heap}{c0:Nat}{X:Heap}{o:AO}{e:Env}{h:Heap}{clk:Nat}:sX T false tl h0 c0 X o r e h clk=lX T o.op.lentN tl h0 c0 X o r e h clk:=rfl
@[simp] def z4l{r:AV×Heap}{dd clk:Nat}:Zmi (some r) dd clk=if ((r.2.map fun p=>(Za8 [] dd p.1,Zag true (Za8 [] dd) (Zbe [] clk) p.2)).map (·.1)).Nodup/\geB clk (gnA (rlA (Za8 [] dd) (Zbe [] clk) r.1))=true/\geH clk (r.2.map fun p=>(Za8 [] dd p.1,Zag true (Za8 [] dd) (Zbe [] clk) p.2))=true then some (rlA (Za8 [] dd) (Zbe [] clk) r.1,r.2.map fun p=>(Za8 [] dd p.1,Zag true (Za8 [] dd) (Zbe [] clk) p.2),clk+(r.2.length+2)) else none:=rfl
@[simp] def z7q{tl r:List AO}{h0:Heap}{c0:Nat}{X:Heap}{o:AO}{e:Env}{h:Heap}{clk:Nat}:Za5 (orc T) T tl h0 c0 X (o::r) e h clk=mX T (AOp.maker o.op) tl h0 c0 X o r e h clk:=by
 unfold mX;simp only[Za5];cases AOp.maker o.op with
 | false=>
  unfold sX;simp only;cases AOp.isStore o.op with
  | true=>
   obtain⟨dd,g,op⟩:=o;cases g<;>cases dd<;>rfl
  | false=>
   unfold lX;simp only;cases AOp.lentN o.op with
   | none=>rfl
   | some ua=>
    obtain⟨dd,g,op⟩:=o;cases g<;>cases dd<;>rfl
 | true=>
  obtain⟨dd,g,op⟩:=o;cases g<;>cases dd<;>rfl
noncomputable def pX(T:Tbl)(w:Bool)(K:Env->Zal->Option St)(h:Heap)(o:DO)(r:List DO)(e:Env)(pend:Zal):Option St:=
 match w with
 | true=>none
 | false=>bD (qX (orc T) T o.ao e h []) fun x=>Zdf (orc T) T K h r (Zf e o.ao.dst x.1) (Zbo o 0 e x pend)
@[simp] def zai2{tl r:List AO}{h0:Heap}{c0:Nat}{X:Heap}{op:AOp}{dd:Nat}{e:Env}{h:Heap}{clk:Nat}:mX T true tl h0 c0 X ⟨some dd,none,op⟩ r e h clk=uX T (Zhq c0 h0 X h op e) tl h0 c0 X op dd r e h clk:=rfl
@[simp] def zaec{tl r:List AO}{h0:Heap}{c0:Nat}{X:Heap}{o:AO}{e:Env}{h:Heap}{clk:Nat}:mX T false tl h0 c0 X o r e h clk=sX T o.op.isStore tl h0 c0 X o r e h clk:=rfl
@[simp] def zai3{hd tl:List AO}:evX (orc T) T k (.drawM hd tl) st=stX (Za5 (orc T) T tl (Ze2 (Zey hd st.env) st.heap) st.clk st.heap hd st.env st.heap st.clk):=rfl
@[simp] def zaed{K:Env->Zal->Option St}{h:Heap}{o:DO}{r:List DO}{e:Env}{pend:Zal}:pX T false K h o r e pend=bD (qX (orc T) T o.ao e h []) fun x=>Zdf (orc T) T K h r (Zf e o.ao.dst x.1) (Zbo o 0 e x pend):=rfl
@[simp] def zaee{K:Env->Zal->Option St}{h:Heap}{e:Env}{pend:Zal}:Zdf (orc T) T K h [] e pend=K e pend:=rfl
@[simp] def zaae{K:Env->Zal->Option St}{h:Heap}{o:DO}{r:List DO}{e:Env}{pend:Zal}:Zdf (orc T) T K h (o::r) e pend=pX T o.ao.op.writes K h o r e pend:=by
 unfold pX;rw[Zdf];cases o.ao.op.writes<;>rfl
noncomputable def qpX(T:Tbl)(w:Bool)(K:Env->Option St)(h0 h1:Heap)(o:AO)(r:List AO)(e:Env):Option St:=
 match w with
 | true=>none
 | false=>bD (qX (orc T) T o e h1 [h0]) fun x=>Zdg (orc T) T K h0 h1 r (Zf e o.dst x.1)
@[simp] def zaaf{K:Env->Option St}{h0 h1:Heap}{o:AO}{r:List AO}{e:Env}:qpX T false K h0 h1 o r e=bD (qX (orc T) T o e h1 [h0]) fun x=>Zdg (orc T) T K h0 h1 r (Zf e o.dst x.1):=rfl
@[simp] def zaag{K:Env->Option St}{h0 h1:Heap}{e:Env}:Zdg (orc T) T K h0 h1 [] e=K e:=rfl
@[simp] def z7r{K:Env->Option St}{h0 h1:Heap}{o:AO}{r:List AO}{e:Env}:Zdg (orc T) T K h0 h1 (o::r) e=qpX T o.op.writes K h0 h1 o r e:=by
 unfold qpX;rw[Zdg];cases o.op.writes<;>rfl
@[simp] def zai4{l1 l2 tl:List AO}{dd u:Nat}{args:List Opd}:evX (orc T) T k (.drawC l1 ⟨some dd,none,.call u args⟩ l2 tl) st =
  stX (Zdf (orc T) T (fun e pend=>bS (Zah (orc T) T u (args.map (ev e.get)) (some dd) ⟨e,st.heap,st.clk⟩) fun s=>iP (Zaf pend s.heap) (Zdg (orc T) T (fun e2=>Zdo (orc T) T tl ⟨e2,s.heap,s.clk⟩) st.heap s.heap l2 s.env)) st.heap (l1.map fun o=>⟨o,0,1⟩) st.env []):=rfl
@[simp] def zai5{l1 l2:List DO}{dd u:Nat}{args:List Opd}:evX (orc T) T k (.drawN l1 ⟨some dd,none,.call u args⟩ l2) st =
  stX (Zdf (orc T) T (fun e pend=>bS (Zah (orc T) T u (args.map (ev e.get)) (some dd) ⟨e,st.heap,st.clk⟩) fun s=>iP (Zaf pend s.heap) (Zbr (orc T) T (l2.map (Zer 0)) s.env s.heap s.clk [st.heap] (pend.map fun p=>(p.1-1,p.2)))) st.heap (l1.map (Zer 0)) st.env []):=rfl
attribute [simp] Zer
noncomputable def qlX(T:Tbl)(w:Bool)(K:Env->Option St)(hs:List Heap)(h1:Heap)(o:AO)(r:List AO)(e:Env):Option St:=
 match w with
 | true=>none
 | false=>bD (qX (orc T) T o e h1 hs) fun x=>Zdh (orc T) T K hs h1 r (Zf e o.dst x.1)
@[simp] def zaah{K:Env->Option St}{hs:List Heap}{h1:Heap}{o:AO}{r:List AO}{e:Env}:qlX T false K hs h1 o r e=bD (qX (orc T) T o e h1 hs) fun x=>Zdh (orc T) T K hs h1 r (Zf e o.dst x.1):=rfl
@[simp] def zaai{K:Env->Option St}{hs:List Heap}{h1:Heap}{e:Env}:Zdh (orc T) T K hs h1 [] e=K e:=rfl
@[simp] def z7s{K:Env->Option St}{hs:List Heap}{h1:Heap}{o:AO}{r:List AO}{e:Env}:Zdh (orc T) T K hs h1 (o::r) e=qlX T o.op.writes K hs h1 o r e:=by
 unfold qlX;rw[Zdh];cases o.op.writes<;>rfl
attribute [simp] Ziq
@[simp] def zai6{l1 l2:List DO}{dd u da n:Nat}{args:List Opd}{cs:List AV}{xs vs:Opd}:evX (orc T) T k (.drawP l1 ⟨some dd,none,.call u args⟩ l2 da cs n xs vs) st =
  stX (iP (Ziq l1&&Ziq l2) (Zdf (orc T) T (fun e pend=>bS (Zah (orc T) T u (args.map (ev e.get)) (some dd) ⟨e,st.heap,st.clk⟩) fun s1=>
   bS (Zah (orc T) T u (args.map (ev e.get)) (some dd) ⟨e,(.loc da,⟨s1.clk,.str,cs.length,[cs]⟩)::st.heap,s1.clk+1⟩) fun s2=>
    iP (Zaf pend s1.heap&&Zaf pend ((.loc da,⟨s1.clk,.str,cs.length,[cs]⟩)::st.heap)&&Zaf pend s2.heap&&(Zko st.clk s1 s2&&Zlt ((.loc da,⟨s1.clk,.str,cs.length,[cs]⟩)::s1.heap) s2.heap))
     (Zdh (orc T) T (fun e2=>(Zbl n s2.heap (ev (Zf e2 (some da) (.ptr (.loc da) s1.clk cs.length 0 0)).get xs) (ev (Zf e2 (some da) (.ptr (.loc da) s1.clk cs.length 0 0)).get vs)).map fun h2=>⟨Zf e2 (some da) (.ptr (.loc da) s1.clk cs.length 0 0),h2,s2.clk⟩)
      [st.heap,s1.heap,(.loc da,⟨s1.clk,.str,cs.length,[cs]⟩)::st.heap] s2.heap (l2.map (·.ao)) s1.env)) st.heap (l1.map fun o=>⟨o.ao,0,1⟩) st.env [])):=by
 show (Zfa _ _ _ _ _ _ _ _ _ _ _).map _=_;unfold Zfa;simp only[AOp.writes,Bool.not_false,Yec];cases Ziq l1&&Ziq l2<;>rfl
@[simp] def zaoa{n x}:opX (orc T) T (.ifc n x) d st=some ⟨Zf st.env d (.ifc (Ze T n) (ev st.env.get x)),st.heap,st.clk⟩:=rfl
noncomputable def iS(T:Tbl)(x:AV)(nm:String)(n u:Nat)(args:List AV)(d:Option Nat)(st:St):Option St:=
 match x with
 | .ifc t y=>if t=Ze T n/\(nm,u)∈Zcb T n then Zah (orc T) T u (y::args) d st else none
 | .fnv f x=>if nm="()"/\f=Ze T n/\Zgu T n=some u then Zah (orc T) T u (x::args) d st else none
 | .fnp f id g z i o=>if nm="()"/\f=Ze T n/\Zgu T n=some u then Zah (orc T) T u (args++[.ptr id g z i o]) d st else none
 | _=>none
@[simp] def zaob{nm n u r args}:opX (orc T) T (.inv nm n u r args) d st=iS T (ev st.env.get r) nm n u (args.map (ev st.env.get)) d st:=by
 simp only[opX];cases ev st.env.get r<;>rfl
@[simp] def zaoc{n x}{e:Env}{h:Heap}{older:List Heap}:opD (orc T) T (.ifc n x) e h older=some (.ifc (Ze T n) (ev e.get x)):=rfl
noncomputable def dI(T:Tbl)(u:Nat)(xs:List AV):Option AV:=
 match T u with
 | none=>none
 | some af=>if (af.lent.isNone&&xs.all noRef)=true then ((orc T).call u (xs.map (wkIf af.exact)) []).map (·.1) else none
noncomputable def iD(T:Tbl)(x:AV)(nm:String)(n u:Nat)(args:List AV):Option AV:=
 match x with
 | .ifc t y=>if t=Ze T n/\(nm,u)∈Zcb T n then dI T u (drp1 y::args) else none
 | _=>none
@[simp] def zaod{nm n u r args}{e:Env}{h:Heap}{older:List Heap}:opD (orc T) T (.inv nm n u r args) e h older=iD T (ev e.get r) nm n u (args.map (ev e.get)):=by
 simp only[opD];cases ev e.get r<;>rfl
@[simp] def zai7{hd tl:List AO}:evX (orc T) T k (.drawT hd tl) st=stX (Zd8 (orc T) T tl hd st.env st.heap st.clk):=rfl
attribute [simp] Zbo Za0 Zjo Zjp Zi8 Zid Zie ghS Zc4 Zfv Zls Zd6 Zcq Zci kids Zag
attribute [simp] gnA gnR Zh0 Zig Zf7 Zed AOp.maker drp1 drpC AOp.lentN AOp.isStore Zga geB geH
attribute [simp] AOp.writes AOp.free Zgl Ze5 Ze7 Zbl Ze1 Zgn
attribute [simp] AOp.callN Zgp Zb5 Zib shR
end
end
section
open Go.RowKit
def Zgs(a b:Nat):Nat:=(((a:Int)-b)%4294967296).toNat
def Zds(a b:Nat):Nat:=(((a:Int)-b)%18446744073709551616).toNat
def Zks(a b:Nat):Nat:=(((a:Int)-b)%256).toNat
def ze3{a b:Nat}(h:b<=a)(h2:a<18446744073709551616):Zds a b=a-b:=by unfold Zds;omega
def z4m{a b:Nat}(h:b<=a)(h2:a<256):Zks a b=a-b:=by unfold Zks;omega
def zxa(n:Int):IntKind.wrap .u32 n=(((n%4294967296).toNat:Nat):Int):=by
 grind[IntKind.wrap,IntKind.signed,IntKind.bits]
def ziw(n:Int):IntKind.wrap .u64 n=(((n%18446744073709551616).toNat:Nat):Int):=by
 grind[IntKind.wrap,IntKind.signed,IntKind.bits]
def z0e(n:Int):IntKind.wrap .u8 n=(((n%256).toNat:Nat):Int):=by
 grind[IntKind.wrap,IntKind.signed,IntKind.bits]
@[simp] def zaaj(n:Int)(h1:-9223372036854775808<=n)(h2:n<9223372036854775808):IntKind.wrap .i64 n=n:=zab n ⟨h1,h2⟩
@[simp] def z7t(a b:Nat):((a:Int)+(b:Int)).toNat=a+b:=by omega
@[simp] def z4n(a b:Nat):(0:Int)<=(a:Int)+(b:Int):=by omega
@[simp] def z4o(a:Nat):(0:Int)<=(a:Int)+1:=by omega
@[simp] def z4p(a b:Nat):((a:Int)+(b:Int)+1).toNat=a+b+1:=by omega
@[simp] def z2h(a b:Nat):(0:Int)<=(a:Int)+(b:Int)+1:=by omega
section
variable(a b:Nat)(k:IntKind)(n:Int)
@[simp] def zaoe:Z7 .add (u32 a) (u32 b)=some (u32 ((a+b)%4294967296)):=by
 simp only[u32,zqy,<-Yen,zdn]
@[simp] def zaof:Z7 .add (u64 a) (u64 b)=some (u64 ((a+b)%18446744073709551616)):=by
 simp only[u64,zqy,<-Yen,ze2]
@[simp] def zaog:Z7 .mul (u32 a) (u32 b)=some (u32 ((a*b)%4294967296)):=by
 simp only[u32,zqz,<-Yei,zdn]
@[simp] def zaoh:Z7 .mul (u64 a) (u64 b)=some (u64 ((a*b)%18446744073709551616)):=by
 simp only[u64,zqz,<-Yei,ze2]
@[simp] def zal7:Z7 .sub (u32 a) (u32 b)=some (u32 (Zgs a b)):=by
 simp only[u32,zlh,zxa,Zgs]
@[simp] def zal8:Z7 .sub (u64 a) (u64 b)=some (u64 (Zds a b)):=by
 simp only[u64,zlh,ziw,Zds]
@[simp] def zaoi:Z7 .sub (u8 a) (u8 b)=some (u8 (Zks a b)):=by
 simp only[u8,zlh,z0e,Zks]
def zri:((a:Int).tdiv (b:Int))=((a/b:Nat):Int):=by rw[Int.ofNat_tdiv]
def zrj:((a:Int).tmod (b:Int))=((a%b:Nat):Int):=by rw[Int.ofNat_tmod]
@[simp] def zaoj:Z7 .quo (u32 a) (u32 b)=if b=0 then none else some (u32 (a/b%4294967296)):=by
 simp only[u32,zq0,zri,zdn,Yc8]
@[simp] def zaok:Z7 .quo (u64 a) (u64 b)=if b=0 then none else some (u64 (a/b%18446744073709551616)):=by
 simp only[u64,zq0,zri,ze2,Yc8]
@[simp] def zaol:Z7 .rem (u32 a) (u32 b)=if b=0 then none else some (u32 (a%b)):=by
 simp only[u32,zq1,zrj,Yc8]
@[simp] def zaom:Z7 .rem (u64 a) (u64 b)=if b=0 then none else some (u64 (a%b)):=by
 simp only[u64,zq1,zrj,Yc8]
def bvn(w:Nat):(BitVec.ofInt w (a:Int)).toNat=a%2^w:=by simp
@[simp] def or32:Z7 .or (u32 a) (u32 b)=some (u32 ((a ||| b)%4294967296)):=by
 have h:=Nat.or_mod_two_pow (a:=a) (b:=b) (n:=32);have e:((BitVec.ofInt 32 (a:Int) ||| BitVec.ofInt 32 (b:Int)).toNat)=(a ||| b)%2^32:=by rw[BitVec.toNat_or,bvn,bvn,<-h]
 show some (AV.i .u32 (IntKind.wrap .u32 (((BitVec.ofInt 32 (a:Int) ||| BitVec.ofInt 32 (b:Int)).toNat:Nat):Int)))=_;rw[e,zdn];simp[u32]
@[simp] def or64:Z7 .or (u64 a) (u64 b)=some (u64 ((a ||| b)%18446744073709551616)):=by
 have h:=Nat.or_mod_two_pow (a:=a) (b:=b) (n:=64);have e:((BitVec.ofInt 64 (a:Int) ||| BitVec.ofInt 64 (b:Int)).toNat)=(a ||| b)%2^64:=by rw[BitVec.toNat_or,bvn,bvn,<-h]
 show some (AV.i .u64 (IntKind.wrap .u64 (((BitVec.ofInt 64 (a:Int) ||| BitVec.ofInt 64 (b:Int)).toNat:Nat):Int)))=_;rw[e,ze2];simp[u64]
def znu(m:Nat):((a:Int)*2^m)=((a*2^m:Nat):Int):=by simp
def zkk(m:Nat):((a:Int).fdiv (2^m))=((a/2^m:Nat):Int):=by
 grind
@[simp] def zaon:Z7 .shl (u32 a) (.i k n)=if n<0 then none else some (u32 (a*2^(min n.toNat 32)%4294967296)):=by
 simp only[u32,Z7,IntKind.bits,znu,zdn]
@[simp] def zai8:Z7 .shl (u64 a) (.i k n)=if n<0 then none else some (u64 (a*2^(min n.toNat 64)%18446744073709551616)):=by
 simp only[u64,Z7,IntKind.bits,znu,ze2]
@[simp] def zaoo:Z7 .shr (u32 a) (.i k n)=if n<0 then none else some (u32 (a/2^(min n.toNat 32))):=by
 simp only[u32,Z7,IntKind.bits,zkk]
@[simp] def zai9:Z7 .shr (u64 a) (.i k n)=if n<0 then none else some (u64 (a/2^(min n.toNat 64))):=by
 simp only[u64,Z7,IntKind.bits,zkk]
@[simp] def z2i:¬ ((b:Int)<0):=by omega
@[simp] def zal9:Z7 .shl (u64 a) (u64 b)=some (u64 (a*2^(min b 64)%18446744073709551616)):=by
 rw[show u64 b=.i .u64 (b:Int) from rfl,zai8,if_neg (z2i b),Yc1]
@[simp] def zama:Z7 .shr (u64 a) (u64 b)=some (u64 (a/2^(min b 64))):=by
 rw[show u64 b=.i .u64 (b:Int) from rfl,zai9,if_neg (z2i b),Yc1]
@[simp] def zaop:Z7 .eql (u32 a) (u32 b)=some (.b (decide (a=b))):=by
 simp only[u32,zq2,Option.some.injEq,AV.b.injEq];rw[Ybo];simp[Ycy]
@[simp] def zaoq:Z7 .neq (u32 a) (u32 b)=some (.b (!decide (a=b))):=by
 simp only[u32,zq3,Option.some.injEq,AV.b.injEq];rw[Ybo];simp[Ycy]
@[simp] def zaor:Z7 .lss (u32 a) (u32 b)=some (.b (decide (a<b))):=by simp[u32,zli]
@[simp] def zaos:Z7 .leq (u32 a) (u32 b)=some (.b (decide (a<=b))):=by simp[u32,zz2]
@[simp] def zaot:Z7 .gtr (u32 a) (u32 b)=some (.b (decide (b<a))):=by simp[u32,zq4]
@[simp] def zaou:Z7 .geq (u32 a) (u32 b)=some (.b (decide (b<=a))):=by simp[u32,zz3]
@[simp] def zaov:Z7 .neq (u64 a) (u64 b)=some (.b (!decide (a=b))):=by
 simp only[u64,zq3,Option.some.injEq,AV.b.injEq];rw[Ybo];simp[Ycy]
@[simp] def zaow:Z7 .lss (u64 a) (u64 b)=some (.b (decide (a<b))):=by simp[u64,zli]
@[simp] def eql8:Z7 .eql (u8 a) (u8 b)=some (.b (decide (a=b))):=by
 simp only[u8,zq2,Option.some.injEq,AV.b.injEq];rw[Ybo];simp[Ycy]
@[simp] def lss8:Z7 .lss (u8 a) (u8 b)=some (.b (decide (a<b))):=by simp[u8,zli]
@[simp] def gtr8:Z7 .gtr (u8 a) (u8 b)=some (.b (decide (b<a))):=by simp[u8,zq4]
@[simp] def z7u:Zbj .u64 (u32 a)=some (u64 (a%18446744073709551616)):=by simp only[u32,u64,Zbj,ze2]
@[simp] def z7v:Zbj .u32 (u64 a)=some (u32 (a%4294967296)):=by simp only[u32,u64,Zbj,zdn]
@[simp] def zaak:Zbj .u32 (u8 a)=some (u32 (a%4294967296)):=by simp only[u32,u8,Zbj,zdn]
@[simp] def zaal:Zbj .u8 (u32 a)=some (u8 (a%256)):=by simp only[u32,u8,Zbj,z39]
@[simp] def zaam:Zbj .u64 (.i .i64 n)=some (u64 (n%18446744073709551616).toNat):=by simp only[u64,Zbj,ziw]
@[simp] def zaan:Zbj .i64 (u32 a)=some (.i .i64 (IntKind.wrap .i64 a))/\Zbj .i64 (u64 a)=some (.i .i64 (IntKind.wrap .i64 a))/\Zbj .i64 (u8 a)=some (.i .i64 (IntKind.wrap .i64 a)):=by and_intros<;>rfl
@[simp] def zaeg:Zbj .i64 (.i .i64 n)=some (.i .i64 (IntKind.wrap .i64 n)):=rfl
@[simp] def zaox:Zg1 .neg (u64 a)=some (u64 (Zds 0 a)):=by simp[u64,Zg1,ziw,Zds]
@[simp] def zaoy:Zg1 .neg (.i .i64 n)=some (.i .i64 (IntKind.wrap .i64 (0-n))):=rfl
@[simp] def zaoz(t:Bool):Zg1 .not (.b t)=some (.b (!t)):=rfl
@[simp] def zamb(m:Nat)(y:Int):(bnd (u8 m) y=if 0<=(m:Int)/\(m:Int)<=y then some m else none)/\(bnd (u32 m) y=if 0<=(m:Int)/\(m:Int)<=y then some m else none)/\(bnd (u64 m) y=if 0<=(m:Int)/\(m:Int)<=y then some m else none):=by and_intros<;>rfl
attribute [simp] Ze0 Zg4 Zhx
@[simp] def zamc(l:List UInt8):Zhw (.s l) (.i k n)=if 0<=n/\n<l.length then (l[n.toNat]?).map fun b=>u8 b.toNat else none:=rfl
@[simp] def zaeh(k':IntKind)(x y:Int):Zdv .int (.i k x) (.i k' y)=if k=k' then some (x == y) else none:=rfl
end
@[simp] def zajc(a b:Nat):u32 a=u32 b↔a=b:=by simp[u32,Ycy]
@[simp] def zajd(a b:Nat):u64 a=u64 b↔a=b:=by simp[u64,Ycy]
theorem zak(x:UInt32):x.toNat<4294967296:=x.toNat_lt
@[simp] def zaje(x:UInt32):x.toNat<4294967296:=x.toNat_lt
def w32(n:Nat):UInt32:=UInt32.ofNat n
def zbf(n:Nat):(w32 n).toNat=n%4294967296:=UInt32.toNat_ofNat' ..
theorem zaf{n:Nat}(h:n<4294967296):(w32 n).toNat=n:=by rw[zbf,Yf h]
@[simp] def z7w(x:UInt32):w32 x.toNat=x:=UInt32.ofNat_toNat
def Za(l:List UInt32):List (List AV):=l.map fun x=>[u32 x.toNat]
def ints(l:List Int):List (List AV):=l.map fun x=>[.i .i64 x]
def u8s(l:List UInt8):List (List AV):=l.map fun x=>[u8 x.toNat]
section
variable(l m:List UInt32)(x:UInt32)
@[simp] def zaei:Za []=[]:=rfl
@[simp] def zix:(Za l).length=l.length:=by simp[Za]
@[simp] def zajf:wkL (Za l)=Za l:=by
 rw[zb3];simp[Za,wkR]
@[simp] def zaap(n:Nat):(Za l).take n=Za (l.take n):=by simp[Za]
@[simp] def zaaq(n:Nat):(Za l).drop n=Za (l.drop n):=by simp[Za]
@[simp] def z4q:Za l++Za m=Za (l++m):=by simp[Za]
@[simp] def zaar(n:Nat)(h:n<4294967296):Za l++[[u32 n]]=Za (l++[w32 n]):=by simp[Za,zaf h]
@[simp] def u32s_getElem?(i:Nat):(Za l)[i]? = (l[i]?).map fun x=>[u32 x.toNat]:=by simp[Za]
@[simp] def z2j(i:Nat)(h:i<(Za l).length):(Za l)[i]=[u32 (l[i]'(by simpa using h)).toNat]:=by simp[Za]
def zbd(i:Nat)(n:Nat)(h:n<4294967296):(Za l).set i [u32 n]=Za (l.set i (w32 n)):=by simp[Za,Yeo,zaf h]
@[simp] def zaas(i n:Nat):(Za l).set i [u32 (n%4294967296)]=Za (l.set i (w32 n)):=by simp[Za,Yeo,zbf]
@[simp] def zaej(n:Nat):List.replicate n [u32 0]=Za (List.replicate n 0):=by simp[Za]
@[simp] def zaat(z:Nat):((Za l).head?.all fun r=>decide (r.length=z))=(l.isEmpty || decide (z=1)):=by
 cases l<;>simp[Za,eq_comm]
end
end
section
open Go.RowKit
abbrev mv(d s:Nat):AO:=⟨some d,none,.mov (.t s)⟩
abbrev rg(d:Nat)(op:AOp):AO:=⟨some d,none,op⟩
abbrev gd(d t:Nat)(b:Bool)(op:AOp):AO:=⟨some d,some (t,b),op⟩
abbrev so(op:AOp):AO:=⟨none,none,op⟩
section
variable(T:Tbl)(u:Nat)(ex:Bool)(ms:List Bool)(xs:List AV)(d:Option Nat)(st:St)(ps:List Opd)(e:Env)
@[simp] noncomputable def cP:Option St:=bL (Zj4 st.heap xs) fun ys=>cR (Zb T u (ys.map (wkIf ex))) xs d st
@[simp] noncomputable def cL:Option St:=bL (Zh8 st.heap ms xs) fun ys=>Zjq ys (Zy (Zdd ms xs) st.heap) (Zfv (Zy (Zdd ms xs) st.heap) 40 (Zf9 ms xs) []) T u ex d st
@[simp] noncomputable def dP:Option AV:=dR (Zb T u ((ps.map (ev e.get)).map (wkIf ex))) (ps.map (ev e.get))
end
section
variable{T:Tbl}{k:Nat}
def zas{id:Nat}{g2:Gh}{c:AX}(S:Nat->St)(n:Nat)(G:Option (Ex×St))(step:∀i,i<n->evX (orc T) T k c (S i)=some (.n,S (i+1)))
  (fin:Zfx (evX (orc T) T k c (S n))=true/\Zfw k id g2 (evX (orc T) T k c (S n))=G):Zl T k id g2 c (S 0)=G:=
 zat S (fun i=>i<=n) (fun i=>n-i) (fun _=>G) (by
  intro i hi;by_cases h:i<n
  ·exact .inl ⟨i+1,h,by show n-(i+1)<n-i;omega,step i h,rfl⟩
  ·have:i=n:=by omega
   subst this;exact .inr fin) 0 (Yu _)
def zay{id:Nat}{g2:Gh}{c:AX}(S:Nat->St)(n:Nat)(G:Nat->Option (Ex×St))
  (step:∀i,i<n->(evX (orc T) T k c (S i)=some (.n,S (i+1))/\G (i+1)=G i)\/(Zfx (evX (orc T) T k c (S i))=true/\Zfw k id g2 (evX (orc T) T k c (S i))=G i))
  (fin:Zfx (evX (orc T) T k c (S n))=true/\Zfw k id g2 (evX (orc T) T k c (S n))=G n):Zl T k id g2 c (S 0)=G 0:=
 zat S (fun i=>i<=n) (fun i=>n-i) G (by
  intro i hi;by_cases h:i<n
  ·rcases step i h with ⟨h1,h2⟩ | h1
   ·exact .inl ⟨i+1,h,by show n-(i+1)<n-i;omega,h1,h2⟩
   ·exact .inr h1
  ·have:i=n:=by omega
   subst this;exact .inr fin) 0 (Yu _)
end
def zbo{i n:Nat}(h:i<n)(hn:n<=4294967296):IntKind.wrap .i64 ((i:Int)+1)=((i+1:Nat):Int):=zab _ (by omega)
noncomputable def cX(r:Option AFx)(T:Tbl)(u:Nat)(xs:List AV)(d:Option Nat)(st:St):Option St:=
 match r with
 | some ⟨_,_,_,_,none,ex⟩=>cP T u ex xs d st
 | some ⟨_,_,_,_,some ms,ex⟩=>cL T u ex ms xs d st
 | none=>none
noncomputable def cD(r:Option AFx)(T:Tbl)(u:Nat)(ps:List Opd)(e:Env):Option AV:=
 match r with
 | some ⟨_,_,_,_,none,ex⟩=>dP T u ex ps e
 | _=>none
section
variable{T:Tbl}{u:Nat}{xs:List AV}{d:Option Nat}{st:St}{ps:List Opd}{e:Env}{np nt:Nat}{res:List RV}{b:AX}{ms:List Bool}{ex:Bool}
@[simp] def xG:Zah (orc T) T u xs d st=cX (Tr T u) T u xs d st:=by
 cases h:Tr T u with
 | none=>unfold Tr at h;simp only[Zah,h,cX]
 | some r=>
  obtain⟨np,nt,res,b,l,ex⟩:=r;cases l with
  | none=>exact zaz h
  | some ms=>exact zs7 h
@[simp] def yG{h:Heap}{ol:List Heap}:opD (orc T) T (.call u ps) e h ol=cD (Tr T u) T u ps e:=by
 cases h:Tr T u with
 | none=>unfold Tr at h;simp only[opD,h,cD]
 | some r=>
  obtain⟨np,nt,res,b,l,ex⟩:=r;cases l with
  | none=>exact z0d h
  | some ms=>unfold Tr at h;simp only[opD,h,cD,Option.isNone_some,Bool.false_and,Yac,if_false]
@[simp] def cX_p:cX (some ⟨np,nt,res,b,none,ex⟩) T u xs d st=cP T u ex xs d st:=rfl
@[simp] def cX_l:cX (some ⟨np,nt,res,b,some ms,ex⟩) T u xs d st=cL T u ex ms xs d st:=rfl
@[simp] def cD_p:cD (some ⟨np,nt,res,b,none,ex⟩) T u ps e=dP T u ex ps e:=rfl
end
abbrev Qd(α:Type):=Nat→Nat→α×Nat×Nat
def Qc{α:Type}:List (Nat×Qd α)→Nat→Nat→Nat→Option (α×Nat×Nat)
 | [],_,_,_=>none
 | (f,p)::r,m,q,c=>if m<f then some (p c (f*q+m)) else Qc r (m-f) q c
def Qs{α:Type}(a:α)(l:List (Nat×Qd α)):Qd α:=fun c x=>(Qc l (x%256) (x/256) c).getD (a,c,x)
def Q0{α:Type}(a:α):Qd α:=fun c x=>(a,c,x)
def Q1{α β:Type}(f:α→β)(p:Qd α):Qd β:=fun c x=>match p c x with | (a,c,x)=>(f a,c,x)
def Q2{α β γ:Type}(f:α→β→γ)(p:Qd α)(q:Qd β):Qd γ:=fun c x=>match p c x with | (a,c,x)=>Q1 (f a) q c x
def Q3{α β γ δ:Type}(f:α→β→γ→δ)(p:Qd α)(q:Qd β)(r:Qd γ):Qd δ:=fun c x=>match p c x with | (a,c,x)=>Q2 (f a) q r c x
def Q4{α β γ δ ε:Type}(f:α→β→γ→δ→ε)(p:Qd α)(q:Qd β)(r:Qd γ)(s:Qd δ):Qd ε:=fun c x=>match p c x with | (a,c,x)=>Q3 (f a) q r s c x
def Q5{α β γ δ ε ζ:Type}(f:α→β→γ→δ→ε→ζ)(p:Qd α)(q:Qd β)(r:Qd γ)(s:Qd δ)(t:Qd ε):Qd ζ:=fun c x=>match p c x with | (a,c,x)=>Q4 (f a) q r s t c x

def Qi:List Nat→Nat→Nat→Nat→Nat×Nat
 | [],i,_,q=>(i,q)
 | f::r,i,m,q=>if m<f then (i,f*q+m) else Qi r (i+1) (m-f) q
def Qv(l:List Nat):Qd Nat:=fun c x=>match Qi l 0 (x%256) (x/256) with | (i,x)=>(i,c,x)
def Qr(m:Nat):Qd Nat:=fun c x=>(x%m,c,x/m)
def Qn(l:List Nat):Qd Nat:=fun c x=>match Qv l c x with | (a,c,x)=>if a<12 then (a,c,x) else Qr 4096 c x
def Qt(l:List Nat):Qd Nat:=fun c x=>match Qv l c x with | (a,c,x)=>if a<12 then (c-a,c,x) else if a=12 then Qr (c+1) c x else Qr 1024 c x
def Qo(l:List Nat):Qd (Option Nat):=fun c x=>match Qv l c x with | (a,c,x)=>if a=0 then (none,c,x) else if a<4 then (some (c+a),c+a,x) else (some (x%1024),x%1024,x/1024)
def Qw{α:Type}(p:Qd α):Nat→Qd (List α)
 | 0=>Q0 []
 | n+1=>Q2 List.cons p (Qw p n)
def Ql{α:Type}(p:Qd α):Qd (List α):=fun c x=>match Qn [52,70,43,30,19,11,8,5,4,4,3,1,6] c x with | (n,c,x)=>Qw p n c x
def QK:Qd IntKind:=Qs .i64 [(192,Q0 .i64),(37,Q0 .u32),(21,Q0 .u64),(6,Q0 .u8)]
def QB:Qd Bool:=Q1 (·==1) (Qv [214,42])
def QFl:Qd Fl:=Qs .nl [(256,Q0 .nl)]
def Qk(k:IntKind)(n:Nat):AV:=.i k (Int.ofNat n)
def QAV(A:List AV):Nat→Qd AV
 | 0=>Q0 .dead
 | n+1=>Qs .dead [(92,Q2 Qk QK (Qn [162,61,10,2,2,1,1,0,2,1,2,0,12])),(83,Q1 .b QB),(71,Q2 .sl (Ql (Ql (QAV A n))) QFl),(7,Q1 (A.getD · .dead) (Qn [227,15,10,4])),(3,Q1 .s (Ql (Q1 UInt8.ofNat (Qr 256))))]
def QOG:Qd (Option (Nat × Bool)):=Qs none [(239,Q0 none),(17,Q2 (fun a b=>some (a,b)) (Qt [16,91,20,13,10,7,6,4,3,4,3,3,48,28]) QB)]
def QOpd(A:List AV):Qd Opd:=Qs (.c .dead) [(222,Q1 .t (Qt [16,91,20,13,10,7,6,4,3,4,3,3,48,28])),(34,Q1 .c (QAV A 9))]
def QBin:Qd BinOp:=Qs .add [(90,Q0 .add),(49,Q0 .lss),(26,Q0 .eql),(22,Q0 .sub),(15,Q0 .gtr),(9,Q0 .quo),(8,Q0 .geq),(8,Q0 .neq),(7,Q0 .rem),(7,Q0 .mul),(4,Q0 .shr),(4,Q0 .shl),(3,Q0 .leq),(3,Q0 .or),(1,Q0 .and)]
def QON:Qd (Option Nat):=Qs none [(140,Q0 none),(116,Q1 some (Qn [69,79,23,40,11,10,3,0,0,2,0,0,19]))]
def QXOp:Qd XOp:=Qs .bad [(244,Q1 .box (Qn [69,79,23,40,11,10,3,0,0,2,0,0,19])),(6,Q0 .cpy),(3,Q1 .arsl (Qn [69,79,23,40,11,10,3,0,0,2,0,0,19])),(3,Q0 .bstr)]
def QP3(A:List AV):Qd (Nat × Nat × Opd):=Q3 (fun a b c=>(a,b,c)) (Qn [69,79,23,40,11,10,3,0,0,2,0,0,19]) (Qn [69,79,23,40,11,10,3,0,0,2,0,0,19]) (QOpd A)
def QP2(A:List AV):Qd (Nat × Opd):=Q2 Prod.mk (Qn [69,79,23,40,11,10,3,0,0,2,0,0,19]) (QOpd A)
def QUn:Qd UnOp:=Qs .not [(248,Q0 .not),(8,Q0 .neg)]
def QLeaf:Qd Leaf:=Qs .int [(256,Q0 .int)]
def QNLeaf:Qd (Nat × Leaf):=Q2 Prod.mk (Qn [69,79,23,40,11,10,3,0,0,2,0,0,19]) QLeaf
def QOOpd(A:List AV):Qd (Option Opd):=Qs none [(145,Q0 none),(111,Q1 some (QOpd A))]
def QAOp(A:List AV):Qd AOp:=Qs (.mov (.c .dead)) [(109,Q1 .mov (QOpd A)),(26,Q3 .bin QBin (QOpd A) (QOpd A)),(25,Q2 .load QON (QOpd A)),(19,Q2 .call (Qr 4096) (Ql (QOpd A))),(14,Q2 .fad (Qn [69,79,23,40,11,10,3,0,0,2,0,0,19]) (QOpd A)),(9,Q3 .store (Qn [69,79,23,40,11,10,3,0,0,2,0,0,19]) (QOpd A) (QOpd A)),(8,Q1 .len (QOpd A)),(7,Q3 .iad (Qn [69,79,23,40,11,10,3,0,0,2,0,0,19]) (QOpd A) (QOpd A)),(6,Q2 .ext (QOpd A) (Qn [69,79,23,40,11,10,3,0,0,2,0,0,19])),(5,Q1 .alloc (Ql (QAV A 9))),(4,Q2 .xop QXOp (Ql (QOpd A))),(3,Q3 .pick (QOpd A) (QOpd A) (QOpd A)),(3,Q2 .build (Ql (QAV A 9)) (Ql (QP3 A))),(3,Q2 .conv QK (QOpd A)),(2,Q4 .bsl (Qn [69,79,23,40,11,10,3,0,0,2,0,0,19]) (Ql (QAV A 9)) (Qn [69,79,23,40,11,10,3,0,0,2,0,0,19]) (Ql (QP2 A))),(2,Q2 .un QUn (QOpd A)),(2,Q3 .app (Qn [69,79,23,40,11,10,3,0,0,2,0,0,19]) (QOpd A) (QOpd A)),(1,Q4 .mks (Qn [69,79,23,40,11,10,3,0,0,2,0,0,19]) (Ql (QAV A 9)) (QOpd A) (QOpd A)),(1,Q1 .lens (QOpd A)),(1,Q4 .eqs QB (Ql QNLeaf) (QOpd A) (QOpd A)),(1,Q2 .mm QB (Ql (QOpd A))),(1,Q3 .slstr (QOpd A) (QOOpd A) (QOOpd A)),(1,Q3 .eqb QB (QOpd A) (QOpd A)),(1,Q5 .slc (Qn [69,79,23,40,11,10,3,0,0,2,0,0,19]) (QOpd A) (QOOpd A) (QOOpd A) (QOOpd A)),(1,Q2 .ixs (QOpd A) (QOpd A)),(1,Q4 .iaa (Qn [69,79,23,40,11,10,3,0,0,2,0,0,19]) (Qn [69,79,23,40,11,10,3,0,0,2,0,0,19]) (QOpd A) (QOpd A))]
def QAO(A:List AV):Qd AO:=Q3 AO.mk (Qo [10,170,6,4,66]) QOG (QAOp A)
def QGh:Qd Gh:=Qs (.trm []) [(246,Q2 .norm QB (Ql (Qt [87,41,21,11,11,11,7,10,6,3,5,3,37,3]))),(8,Q2 .nil (Qt [87,41,21,11,11,11,7,10,6,3,5,3,37,3]) (Qn [69,79,23,40,11,10,3,0,0,2,0,0,19])),(2,Q4 .fld (Qt [87,41,21,11,11,11,7,10,6,3,5,3,37,3]) (Qn [69,79,23,40,11,10,3,0,0,2,0,0,19]) (Qn [69,79,23,40,11,10,3,0,0,2,0,0,19]) (Qn [69,79,23,40,11,10,3,0,0,2,0,0,19]))]
def QDO(A:List AV):Qd DO:=Q3 DO.mk (QAO A) (Qn [69,79,23,40,11,10,3,0,0,2,0,0,19]) (Qn [69,79,23,40,11,10,3,0,0,2,0,0,19])
def QAX(L:List AX)(A:List AV):Nat→Qd AX
 | 0=>Q0 .skip
 | n+1=>Qs .skip [(87,Q2 .seq (QAX L A n) (QAX L A n)),(72,Q1 .reg (Ql (QAO A))),(17,Q2 .pre QGh (QAX L A n)),(16,Q0 .ret),(14,Q3 .cond (QOpd A) (QAX L A n) (QAX L A n)),(13,Q0 .skip),(6,Q2 .note (QAX L A n) QGh),(6,Q2 .block (Qn [69,79,23,40,11,10,3,0,0,2,0,0,19]) (QAX L A n)),(6,Q1 .exit (Qn [69,79,23,40,11,10,3,0,0,2,0,0,19])),(6,Q4 .lp (Qn [69,79,23,40,11,10,3,0,0,2,0,0,19]) QGh (QAX L A n) QGh),(5,Q1 (L.getD · .skip) (Qn [227,15,10,4])),(3,Q2 .drawT (Ql (QAO A)) (Ql (QAO A))),(2,Q1 .draw (Ql (QDO A))),(1,Q1 .scope (QAX L A n)),(1,Q1 .label (Qn [69,79,23,40,11,10,3,0,0,2,0,0,19])),(1,Q2 .drawM (Ql (QAO A)) (Ql (QAO A)))]
def Qm(l:List Char)(n:Nat):Nat:=match l with
 | []=>n
 | c::l=>Qm l (n*64+(let k:=c.toNat;if k=46 then 0 else if k<58 then k-47 else if k<91 then k-54 else if k<96 then k-58 else k-59))
def Qz(L:List AX)(A:List AV)(s:String):AX:=(QAX L A 99 0 (Qm s.toList 0)).1
theorem Qk8(n:Nat):AV.i .u8 (Int.ofNat n)=u8 n:=rfl
theorem Qk3(n:Nat):AV.i .u32 (Int.ofNat n)=u32 n:=rfl
theorem Qk6(n:Nat):AV.i .u64 (Int.ofNat n)=u64 n:=rfl
theorem Qki(n:Nat):AV.i .i64 (Int.ofNat (no_index (OfNat.ofNat n)))=.i .i64 (OfNat.ofNat n):=rfl
theorem Qe{L A s l b c}(h:s=String.ofList l)(h1:(QAX L A 99 0 (Qm l 0)).1=b)(h2:b=c):Qz L A s=c:=by rw[h,Qz,String.toList_ofList,h1,h2]
@[simp] abbrev QY{c:AX}(L:List AX)(A:List AV)(s:String)(_:Qz L A s=c:=by exact Qe rfl (by cbv) (by (try simp only[Qk8,Qk3,Qk6,Qki]);rfl)):AX:=c
@[simp] abbrev QZ{c:AX}(s:String)(_:Qz [] [] s=c:=by exact Qe rfl (by cbv) (by (try simp only[Qk8,Qk3,Qk6,Qki]);rfl)):AX:=c
end
section
def b115:AX:=QZ "0QG0fqGzb4RY6Pam_m7qgdLtEeM.f4Cj15qVCZgzU0QSGlEIeletLKPR9QAe1cbbH.KteSNkHGtM6uHknOXR_"
def b116:AX:=QZ "0yQlEVGMHC.rsGhFwLV6mnBf.ryGhGlnxqkVCgYm1vGFFhIZBskVmxeW.Mebf3aVMHNJ53_bImeKL"
def b117:AX:=QZ "KncTp4g0ZGeKZkedYo1_jcCtvO3oOd8xg7pLmJae2CWm2aXs0XZ3Gw2McWf2BY"
def b118:AX:=QZ "2.FFAgq_4iAt_Uc4R_j2OzS36SOyLH6qlYRTxz62tO7srcejFApZr2Y8ubHK28vsw8ut1BXwVfMxzQxjBuF2CTwx"
def l91_0:AX:=QZ "7aQDl1tVFGr7YsLj59xZvaW0IopRFd5qj7BOljj4kxCEotBNZhNxMwe0.c3nAU"
def b91:AX:=(fun p0=>QY [p0] [] "8GxInU_DhZiq1ZRMVcDfubKYtznVFmeB1") l91_0
abbrev row115:AFx:=⟨3,26,[.t 6,.t 7],b115,none,false⟩
abbrev row116:AFx:=⟨3,25,[.t 6,.t 7],b116,none,false⟩
abbrev row117:AFx:=⟨4,27,[.t 8,.t 9],b117,none,false⟩
abbrev row118:AFx:=⟨3,29,[.t 6,.t 7,.t 8],b118,none,false⟩
abbrev row91:AFx:=⟨1,23,[.t 2],b91,none,false⟩
class Zan (T:Tbl):Prop where
 h115:Tr T 115=some row115
 h116:Tr T 116=some row116
 h117:Tr T 117=some row117
 h118:Tr T 118=some row118
 h91:Tr T 91=some row91
attribute [simp] Zan.h115 Zan.h116 Zan.h117 Zan.h118 Zan.h91
end
section
variable{T:Tbl}[Zan T]
def z0v(x y c:UInt32):Zb T 115 [u32 x.toNat,u32 y.toNat,u32 c.toNat] =
  some (.tup [u32 (w32 (x.toNat+y.toNat+c.toNat)).toNat,u32 (w32 ((x.toNat+y.toNat+c.toNat)/4294967296)).toNat]):=by
 have hx:=zak x;have hy:=zak y;have hc:=zak c;rw[zaa Zan.h115 rfl,b115];simp[zbf]
 repeat' split
 all_goals simp
 all_goals omega
def z0w(x y b:UInt32):Zb T 116 [u32 x.toNat,u32 y.toNat,u32 b.toNat] =
  some (.tup [u32 (w32 (x.toNat+8589934592-(y.toNat+b.toNat))).toNat,u32 (w32 (2-(x.toNat+8589934592-(y.toNat+b.toNat))/4294967296)).toNat]):=by
 have hx:=zak x;have hy:=zak y;have hb:=zak b;rw[zaa Zan.h116 rfl,b116];by_cases h1:x.toNat<y.toNat <;>
 by_cases h2:Zgs x.toNat y.toNat<b.toNat <;>
 ·simp[h1,h2,zbf];unfold Zgs at *
  omega
def zg5{a b:Nat}(ha:a<4294967296)(hb:b<4294967296):a*b<=18446744065119617025:=by
 have:a*b<=4294967295*4294967295:=Ydl (by omega) (by omega);omega
def zrr(x y c d:UInt32):Zb T 117 [u32 x.toNat,u32 y.toNat,u32 c.toNat,u32 d.toNat] =
  some (.tup [u32 (w32 ((x.toNat*y.toNat+c.toNat+d.toNat)/4294967296)).toNat,u32 (w32 (x.toNat*y.toNat+c.toNat+d.toNat)).toNat]):=by
 have hx:=zak x;have hy:=zak y;have hc:=zak c;have hd:=zak d;have hm:=zg5 hx hy;rw[zaa Zan.h117 rfl,b117];simp[zbf];generalize x.toNat*y.toNat=m at *
 omega
def zrs(hi lo y:UInt32):Zb T 118 [u32 hi.toNat,u32 lo.toNat,u32 y.toNat] =
  some (if y.toNat<=hi.toNat then .tup [u32 0,u32 0,.b false]
   else .tup [u32 (w32 ((hi.toNat*4294967296+lo.toNat)/y.toNat)).toNat,u32 (w32 ((hi.toNat*4294967296+lo.toNat)%y.toNat)).toNat,.b true]):=by
 have hx:=zak hi;have hy:=zak y;have hl:=zak lo;rw[zaa Zan.h118 rfl,b118];by_cases h1:y.toNat<=hi.toNat
 ·simp[h1]
 ·have h2:¬ y.toNat=0:=by omega
  simp[h1,h2,zbf];have e:hi.toNat*4294967296%18446744073709551616=hi.toNat*4294967296:=Yf (by omega);have e2:(hi.toNat*4294967296) ||| lo.toNat=hi.toNat*4294967296+lo.toNat:=by
   have:=Ycz (i:=32) hl hi.toNat;rw[Yah hi.toNat,show (4294967296:Nat)=2^32 from rfl,this]
  have h3:(hi.toNat*4294967296+lo.toNat)/y.toNat<4294967296:=by
   rw[Ybs (by omega)];have:=Yat 4294967296 (show hi.toNat+1<=y.toNat by omega);omega
  rw[e,e2,Yf (show hi.toNat*4294967296+lo.toNat<18446744073709551616 by omega)];exact⟨rfl,rfl⟩
def zeo(x y c:Nat)(hx:x<4294967296)(hy:y<4294967296)(hc:c<4294967296):Zb T 115 [u32 x,u32 y,u32 c]=some (.tup [u32 ((x+y+c)%4294967296),u32 ((x+y+c)/4294967296)]):=by
 have:=z0v (T:=T) (w32 x) (w32 y) (w32 c);rw[zaf hx,zaf hy,zaf hc,zbf,zaf (by omega)]at this;exact this
def zf9(x y b:Nat)(hx:x<4294967296)(hy:y<4294967296)(hb:b<4294967296):Zb T 116 [u32 x,u32 y,u32 b] =
  some (.tup [u32 ((x+8589934592-(y+b))%4294967296),u32 (2-(x+8589934592-(y+b))/4294967296)]):=by
 have:=z0w (T:=T) (w32 x) (w32 y) (w32 b);rw[zaf hx,zaf hy,zaf hb,zbf,zaf (by omega)]at this;exact this
def zi5(x y c d:Nat)(hx:x<4294967296)(hy:y<4294967296)(hc:c<4294967296)(hd:d<4294967296):Zb T 117 [u32 x,u32 y,u32 c,u32 d] =
  some (.tup [u32 ((x*y+c+d)/4294967296),u32 ((x*y+c+d)%4294967296)]):=by
 have:=zrr (T:=T) (w32 x) (w32 y) (w32 c) (w32 d);have hm:=zg5 hx hy;rw[zaf hx,zaf hy,zaf hc,zaf hd,zbf (x*y+c+d),zaf (by omega)]at this;exact this
def z2n{hi lo y:Nat}(h:hi<y)(hl:lo<4294967296):(hi*4294967296+lo)/y<4294967296:=by
 rw[Ybs (by omega)];have:=Yat 4294967296 (show hi+1<=y by omega);omega
def zn2(hi lo y:Nat)(hx:hi<y)(hl:lo<4294967296)(hy:y<4294967296):Zb T 118 [u32 hi,u32 lo,u32 y] =
  some (.tup [u32 ((hi*4294967296+lo)/y),u32 ((hi*4294967296+lo)%y),.b true]):=by
 have:=zrs (T:=T) (w32 hi) (w32 lo) (w32 y);rw[zaf (show hi<4294967296 by omega),zaf hl,zaf hy,zaf (z2n hx hl),zaf (by have:=Ya0 (hi*4294967296+lo) (show 0<y by omega);omega),if_neg (by omega)]at this;exact this
def ztp(hi lo y:Nat)(hx:y<=hi)(hh:hi<4294967296)(hl:lo<4294967296):Zb T 118 [u32 hi,u32 lo,u32 y]=some (.tup [u32 0,u32 0,.b false]):=by
 have:=zrs (T:=T) (w32 hi) (w32 lo) (w32 y);rw[zaf hh,zaf hl,zaf (show y<4294967296 by omega),if_pos hx]at this;exact this
def Zai(n:Nat):Nat:=if n=0 then 0 else n.log2+1
def zko{n s:Nat}(h:n/2^s≠0):Zai n=s+Zai (n/2^s):=by
 have hn:n≠0:=by rintro rfl;simp at h
 have hlog:(n/2^s).log2+s=n.log2:=by
  have h1:=Nat.log2_self_le h;have h2:=Yc6 (n:=n/2^s);have h3:=Nat.log2_self_le hn;have h4:=Yc6 (n:=n);have hp:0<2^s:=Yba (by decide);have a1:2^((n/2^s).log2+s)<=n:=by
   rw[Ybb];exact(Ycj hp).1 h1
  have a2:n<2^((n/2^s).log2+1+s):=by
   rw[Ybb];exact(Ybs hp).1 h2
  have b1:=(Nat.le_log2 hn).2 a1;have b2:=(Yex hn).2 a2;omega
 unfold Zai;rw[if_neg h,if_neg hn];omega
def ztq{x:Nat}(h:x<2):Zai x=x:=by
 rcases(show x=0\/x=1 by omega) with rfl | rfl<;>decide
def Zit(y:Nat×Nat×Nat):St:=⟨[(0,u32 y.1),(3,.i .i64 y.2.1),(4,.i .i64 y.2.2)],[],2⟩
end
section
variable{T:Tbl}
def zly(N:Nat):∀y:Nat×Nat×Nat,((y.2.2=16\/y.2.2=8\/y.2.2=4\/y.2.2=2\/y.2.2=1\/y.2.2=0)/\y.1<2^(2*y.2.2)*(if y.2.2=0 then 2 else 1)/\y.2.1+Zai y.1=N/\y.2.1+2*y.2.2<=32) ->
  ∃r,(∃(x n:Nat),r=(Ex.n,(⟨[(0,u32 x),(3,.i .i64 (n:Int))],[],2⟩:St))/\x<2/\n+Zai x=N/\n<=32)/\Zl T 0 0 (.norm false [0,3]) l91_0 (Zit y)=some r:=by
 refine zaq _ _ (fun y=>y.2.2) _ ?_
 rintro⟨x,n,s⟩ ⟨hs,hx,hN,hn⟩
 simp only at hs hx hN hn;by_cases h0:s=0
 ·right;subst h0;refine⟨_,⟨x,n,rfl,by simpa using hx,hN,by omega⟩,?_,?_⟩<;>simp[l91_0,Zit]
 ·left;by_cases h1:x/2^s=0
  ·refine⟨(x,n,s/2),⟨?_,?_,hN,by simp only;omega⟩,by simp only;omega,?_⟩
   ·rcases hs with rfl | rfl | rfl | rfl | rfl | rfl<;>simp
   ·have h2:x<2^s:=by
     rcases Yy x (2^s) with h | h
     ·exact h
     ·have:=Yew h (Yba (by decide));omega
    rcases hs with rfl | rfl | rfl | rfl | rfl | rfl<;>simp at h2 ⊢<;>omega
   ·rcases hs with rfl | rfl | rfl | rfl | rfl | rfl<;>simp at h1<;>simp[l91_0,Zit,h1]at h0 ⊢
  ·refine⟨(x/2^s,n+s,s/2),⟨?_,?_,?_,by simp only;omega⟩,by simp only;omega,?_⟩
   ·rcases hs with rfl | rfl | rfl | rfl | rfl | rfl<;>simp
   ·rcases hs with rfl | rfl | rfl | rfl | rfl | rfl<;>simp at hx h0 ⊢<;>omega
   ·have:=zko h1;simp only;omega
   ·have hw:IntKind.wrap .i64 ((n:Int)+s)=((n+s:Nat):Int):=zab _ (by omega);rcases hs with rfl | rfl | rfl | rfl | rfl | rfl<;>simp at h1 hw<;>simp[l91_0,Zit,h1,hw]at h0 ⊢
end
section
variable{T:Tbl}[Zan T]
def zrt(x:UInt32):Zb T 91 [u32 x.toNat]=some (.i .i64 (Zai x.toNat)):=by
 have hx:=zak x;obtain⟨_,⟨y,n,rfl,h1,h2,h3⟩,hl⟩:=zly (T:=T) (Zai x.toNat) (x.toNat,0,16) ⟨.inl rfl,by simp,by simp,by simp⟩;have hw:IntKind.wrap .i64 (y:Int)=y:=zab _ (by omega);have hw2:IntKind.wrap .i64 ((n:Int)+y)=((n+y:Nat):Int):=zab _ (by omega);have h4:=ztq h1;rw[zaa Zan.h91 rfl,b91];simp;unfold Zit at hl;simp at hl;rw[hl];simp[hw,hw2];omega
end
section
def l86_0:AX:=QZ "n69oUhPR1IdQXK7462Ib0g.yNPnni19EGZyB57xWyWIa5XcKzQ"
def b86:AX:=(fun p0=>QY [p0] [] "5Lduf3T5Nfdw6us1oNNxuUMkNsmQSRpC71") l86_0
def b106:AX:=QZ "2ryjgU5Jg75g5kqTiQHTyOd5OJwtOweLcbF75gN"
def b71:AX:=QZ "0UWMygBrO4gmAb481os.P"
def b72:AX:=QZ "BaomMska9VA4uQQMeM2mIJJV4rW0nePZN"
def l73_0:AX:=QZ "cnGy7d3HeVYbgMuMK6ax7IMGJcejGYqpDyrzVjR1d4UCbNsTh9vDkxOcedscsQR"
def b73:AX:=(fun p0=>QY [p0] [] "gPd4lE1_ij7eH79YRtpfrJK9_mRJ4E.EbNzu6rKvqa25TGyUWneEStcxXog3sxYdoW") l73_0
def b70:AX:=QZ "0gRFgRlhn0hUJXIvie.A"
def l87_0:AX:=QY [] [(AV.i .i64 (-1))] "nveoYElYHBo3uLvPd7dPM1yseLeQjBKZwEnMbJMcxXb.dCjPHmAay8FoJ6og6L2eGL2OQn7JXZqOhXL194EYy_eo2duFMV"
def b87:AX:=(fun p0=>QY [p0] [(AV.i .i64 (-1))] "3YWAlIAzu1dqAL.LOqsQGf2kIDvHhebXexpnL9IRfv6JN0RTdgJlfiyaXZmaLh2VDrN86IRY85E3mnvhQ1iY30WAWcd.Cgx1") l87_0
def l85_0:AX:=QZ "01sD1Fw9r1LTViCcmM4cxsVfHw2z1G.kIh6LKKHz_gAZslNG76M23j7k52YYb2xZVbUg9xGq3rmhixr_Du3CSbMtSAdBKPRnT35MqOqHSMV"
def b85:AX:=(fun p0=>QY [p0] [] "0F20gN0c1fknjLNfvpqeAghQh2n83lMr9rSRdAOjWa_5Vq4tzK.mxFE428TEhPfOGxN1bKuqdtR.Mf8On_IRSkQ3r92ZZ") l85_0
def l56_0:AX:=QZ "0rkHglIM4UE8HA1fqcAeJSQOK4pJFC8odSLpvzOERSz3x9SCRD2V"
def b56:AX:=(fun p0=>QY [p0] [] "YvQ.Ee.eEA.h3tZhLz3Mxw.30W5J5") l56_0
def l88_0:AX:=QZ "1rrhj5Iz0wf4949vrnxF.DKBKboBk6QlE80XN2R3IHUSmh52fjV494j9tKyBqhxiEnCC54bEucZLX3mDOCT4KZcXepike.hieXdJwnREVIS"
def b88:AX:=(fun p0=>QY [p0] [] "2Es8ImOzTE8vRSeRakQi48xqMW3GoFpEn5xsuH7J03.TEQcmmB22CG9I7BmQVh6i4lbh7ZrJkL_H02deCeFsc4cvcxvv1AOTi04") l88_0
def b57:AX:=QZ "XRh572gjLqVMCqQL2jDDHyU_lwnDegVR0gHZuW5qJdlnc0ekYQxqEYB9rQniXkOCdDAfwihCS7_t2HuFe_lA"
def b2106:AX:=QZ "2ryjgU5Jg75g5kqTiQHTyOd5OJwtOweLcbF75gN"
abbrev row86:AFx:=⟨1,21,[.t 2],b86,none,false⟩
abbrev row106:AFx:=⟨2,15,[.t 4],b106,none,false⟩
abbrev row71:AFx:=⟨1,6,[.t 2],b71,none,false⟩
abbrev row72:AFx:=⟨1,10,[.t 2],b72,none,false⟩
abbrev row73:AFx:=⟨1,28,[.t 2,.t 3],b73,none,false⟩
abbrev row70:AFx:=⟨1,7,[.t 2],b70,none,false⟩
abbrev row87:AFx:=⟨2,49,[.t 4],b87,none,false⟩
abbrev row85:AFx:=⟨2,52,[.t 4],b85,none,false⟩
abbrev row56:AFx:=⟨1,18,[.t 2],b56,none,false⟩
abbrev row88:AFx:=⟨2,49,[.t 4,.t 5],b88,none,false⟩
abbrev row57:AFx:=⟨2,24,[.t 4,.t 5],b57,none,false⟩
abbrev row2106:AFx:=⟨2,15,[.t 4],b2106,(some [false,false]),false⟩
class Zr (T:Tbl):Prop extends Zan T where
 h86:Tr T 86=some row86
 h106:Tr T 106=some row106
 h71:Tr T 71=some row71
 h72:Tr T 72=some row72
 h73:Tr T 73=some row73
 h70:Tr T 70=some row70
 h87:Tr T 87=some row87
 h85:Tr T 85=some row85
 h56:Tr T 56=some row56
 h88:Tr T 88=some row88
 h57:Tr T 57=some row57
 h2106:Tr T 2106=some row2106
attribute [simp] Zr.h86 Zr.h106 Zr.h71 Zr.h72 Zr.h73 Zr.h70 Zr.h87 Zr.h85 Zr.h56 Zr.h88 Zr.h57 Zr.h2106
end
def val:List UInt32->Nat
 | []=>0
 | x::l=>x.toNat+4294967296*val l
def ofN(n:Nat):List UInt32:=if n=0 then [] else w32 n::ofN (n/4294967296)
termination_by n
decreasing_by omega
def Ziz(l:List UInt32):Prop:=∀x,l.getLast? = some x->x.toNat≠0
@[simp] theorem za2:val []=0:=rfl
@[simp] theorem zaj(x:UInt32)(l:List UInt32):val (x::l)=x.toNat+4294967296*val l:=rfl
@[simp] def zl7:ofN 0=[]:=by rw[ofN];rfl
def zgz{n:Nat}(h:n≠0):ofN n=w32 n::ofN (n/4294967296):=by rw[ofN,if_neg h]
theorem zck(n:Nat):(w32 n).toNat=n%4294967296:=zbf n
def z2w{x:UInt32}{n:Nat}(h:n%4294967296=x.toNat):w32 n=x:=by
 rw[<-Yef,zck,h]
theorem zad(n:Nat):val (ofN n)=n:=by
 induction n using Nat.strongRecOn with
 | _ n ih=>
  by_cases h:n=0
  ·subst h;simp
  ·rw[zgz h,zaj,ih (n/4294967296) (by omega),zck];omega
theorem zag(l m:List UInt32):val (l++m)=val l+4294967296^l.length*val m:=by
 induction l with
 | nil=>simp
 | cons x l ih=>
  simp only[Ycd,zaj,ih,Ye,Y7,Yan,Yav];congr 2;rw[<-Yag,Yah 4294967296 (4294967296^l.length)]
def zau(l:List UInt32):val l<4294967296^l.length:=by
 induction l with
 | nil=>simp
 | cons x l ih=>
  have:=zak x;simp only[zaj,Ye,Y7];omega
def zk2{x:UInt32}{l:List UInt32}(h:Ziz (x::l)):Ziz l:=by
 intro y hy;apply h;cases l with
 | nil=>simp at hy
 | cons z l=>rw[List.getLast?_cons_cons];exact hy
def z1s{l:List UInt32}(h:Ziz l):val l=0↔l=[]:=by
 constructor
 ·intro h0
  induction l with
  | nil=>rfl
  | cons x l ih=>
   exfalso;simp only[zaj]at h0;have h1:=ih (zk2 h) (by omega);subst h1;exact h x (by simp) (by omega)
 ·rintro rfl;rfl
def z5x{l:List UInt32}(h:Ziz l):ofN (val l)=l:=by
 induction l with
 | nil=>simp
 | cons x l ih=>
  have hx:=zak x;have hne:val (x::l)≠0:=fun h0=>by have:=(z1s h).1 h0;cases this
  rw[zgz hne];congr 1
  ·exact z2w (by simp only[zaj];omega)
  ·rw[show val (x::l)/4294967296=val l by simp only[zaj];omega];exact ih (zk2 h)
def zan{n:Nat}:ofN n=[]↔n=0:=⟨fun h=>by rw[<-zad n,h];rfl,fun h=>by rw[h];simp⟩
def zuy{a:List UInt32}{n:Nat}(hn:n<=a.length)(h0:∀(i:Nat) (x:UInt32),n<=i->a[i]? = some x->x.toNat=0)(h1:∀x:UInt32,0<n->a[n-1]? = some x->x.toNat≠0):a.take n=ofN (val a):=by
 have hr:Ziz (a.take n):=by
  intro x hx;have hn0:0<n:=by
   rcases Yar n with h | h
   ·subst h;simp at hx
   ·exact h
  apply h1 x hn0;rw[List.getLast?_eq_getElem?,Yas,Ycn hn,Yaq,if_pos (by omega)]at hx;exact hx
 have hz:∀l:List UInt32,(∀(i:Nat) (x:UInt32),l[i]? = some x->x.toNat=0)->val l=0:=by
  intro l
  induction l with
  | nil=>intro _;rfl
  | cons x l ih=>
   intro h;have h2:=h 0 x rfl;have h3:=ih fun i y hy=>h (i+1) y (by simpa using hy);simp only[zaj,h2,h3]
 have hv:val a=val (a.take n):=by
  have e:=zag (a.take n) (a.drop n);rw[Yau,hz (a.drop n) (fun i x hx=>h0 (n+i) x (by omega) (by rw[Yaz]at hx;exact hx))]at e;omega
 rw[hv,z5x hr]
def zgg(a:List UInt32):∃n,n<=a.length/\a.take n=ofN (val a)/\(∀(i:Nat) (x:UInt32),n<=i->a[i]? = some x->x.toNat=0)/\(∀x:UInt32,0<n->a[n-1]? = some x->x.toNat≠0):=by
 have key:∀k,k<=a.length->(∀(i:Nat) (x:UInt32),k<=i->a[i]? = some x->x.toNat=0)->∃n,n<=k/\(∀(i:Nat) (x:UInt32),n<=i->a[i]? = some x->x.toNat=0)/\(∀x:UInt32,0<n->a[n-1]? = some x->x.toNat≠0):=by
  intro k
  induction k with
  | zero=>intro _ h;exact⟨0,Yd _,h,fun x hx=>by omega⟩
  | succ k ih=>
   intro hk h;by_cases hz:(a[k]'(by omega)).toNat=0
   ·obtain⟨n,h1,h2,h3⟩:=ih (by omega) fun i x hi hx=>by
     rcases Yy k i with h4 | h4
     ·exact h i x h4 hx
     ·have:i=k:=by omega
      subst this;rw[Ya (by omega)]at hx;cases hx;exact hz
    exact⟨n,by omega,h2,h3⟩
   ·refine⟨k+1,Yd _,h,fun x _ hx=>?_⟩;rw[Nat.add_sub_cancel,Ya (by omega)]at hx;cases hx;exact hz
 obtain⟨n,h1,h2,h3⟩:=key a.length (Yd _) fun i x hi hx=>by rw[Yc0 hi]at hx;cases hx
 exact⟨n,h1,zuy h1 h2 h3,h2,h3⟩
def zac(a:List UInt32):(ofN (val a)).length<=a.length:=by
 obtain⟨n,h1,h2,_⟩:=zgg a;rw[<-h2,Yas];omega
def zal{n k:Nat}(h:n<4294967296^k):(ofN n).length<=k:=by
 induction k generalizing n with
 | zero=>
  have:n=0:=by simp at h;omega
  subst this;simp
 | succ k ih=>
  by_cases h0:n=0
  ·subst h0;simp
  ·rw[zgz h0,Ye];have:=ih (n:=n/4294967296) (by rw[Y7]at h;omega);omega
theorem zae{a:List UInt32}{i:Nat}{x:UInt32}(h:a[i]? = some x):val (a.take (i+1))=val (a.take i)+4294967296^i*x.toNat:=by
 have hi:i<a.length:=by
  rcases Yy i a.length with h1 | h1
  ·exact h1
  ·rw[Yc0 h1]at h;cases h
 rw[Yc2,h,zag];simp only[Yd5,zaj,za2,Yam,Y6,Yas];rw[Ycn (by omega)]
theorem zbp{a:List UInt32}{i:Nat}(x:UInt32)(h:i<a.length):val ((a.set i x).take (i+1))=val (a.take i)+4294967296^i*x.toNat:=by
 rw[zae (x:=x) (by rw[Ydi h]),List.take_set_of_le (Yd i)]
theorem zbc{a:List UInt32}{i:Nat}(h:a.length<=i):val (a.take i)=val a:=by rw[Yb h]
def zaw(n:Nat):val (List.replicate n 0)=0:=by
 induction n with
 | zero=>rfl
 | succ n ih=>simp[Ybq,ih]
def zg0{m n:Nat}(h:(ofN m).length<(ofN n).length):m<n:=by
 rcases Yy m n with h1 | h1
 ·exact h1
 ·exfalso;have h2:=zau (ofN m);rw[zad]at h2;have:=zal (show n<4294967296^(ofN m).length by omega);omega
def zap{m n:Nat}(h:m<=n):(ofN m).length<=(ofN n).length:=by
 rcases Yy (ofN n).length (ofN m).length with h1 | h1
 ·have:=zg0 h1;omega
 ·exact h1
def Zck(x y:Nat):Int:=if x<y then -1 else if y<x then 1 else 0
def zy2{a b:List UInt32}{i:Nat}{x y:UInt32}(hx:a[i]? = some x)(hy:b[i]? = some y)(h:x.toNat<y.toNat):val (a.take (i+1))<val (b.take (i+1)):=by
 rw[zae hx,zae hy];have h1:=zau (a.take i);have h2:4294967296^(a.take i).length<=4294967296^i:=Yp (by decide) (by simp;omega);have h3:=Yat (4294967296^i) (show x.toNat+1<=y.toNat from h);rw[Yan]at h3;omega
def zl8{x y c:Nat}(hx:x<4294967296)(hy:y<4294967296)(hc:c<=1) :
  (x+8589934592-(y+c))%4294967296+(y+c)=x+4294967296*(2-(x+8589934592-(y+c))/4294967296)/\2-(x+8589934592-(y+c))/4294967296<=1:=by omega
def lls(l:List (List UInt32)):List (List AV):=l.map fun a=>[.sl (Za a) .an]
@[simp] def z7x(l:List (List UInt32)):(lls l).length=l.length:=by simp[lls]
@[simp] def zamd(l:List (List UInt32)):wkL (lls l)=lls l:=by rw[zb3];simp[lls,wkR]
@[simp] def z5y(l:List (List UInt32))(i:Nat)(h:i<(lls l).length):(lls l)[i]=[.sl (Za (l[i]'(by simpa using h))) .an]:=by simp[lls]
section
variable{T:Tbl}
def zxv(a:List UInt32)(hl:a.length<9223372036854775808){n:Nat}(hn:n<=a.length)(h0:∀(i:Nat) (x:UInt32),n<=i->a[i]? = some x->x.toNat=0)(h1:∀x:UInt32,0<n->a[n-1]? = some x->x.toNat≠0) :
  ∀m:Nat,(n<=m/\m<=a.length)->Zl T 0 0 (.norm false [0,3]) l86_0 ⟨[(0,.sl (Za a) .an),(3,.i .i64 (m:Int))],[],2⟩=some (.n,⟨[(0,.sl (Za a) .an),(3,.i .i64 (n:Int))],[],2⟩):=by
 refine zat (fun m:Nat=>⟨[(0,.sl (Za a) .an),(3,.i .i64 (m:Int))],[],2⟩) _ (fun m=>m) _ ?_
 rintro m ⟨hm,hma⟩
 by_cases h2:m=0
 ·right;subst h2;have:n=0:=by omega
  subst this;constructor<;>simp[l86_0]
 ·have hw:IntKind.wrap .i64 ((m:Int)-1)=((m-1:Nat):Int):=by rw[zab _ (by omega)];omega
  have hm1:m-1<a.length:=by omega
  have hg:a[m-1]? = some (a[m-1]'hm1):=Ya hm1;have hpos:0<m:=by omega
  by_cases h3:m=n
  ·right;subst h3;have hx:=h1 _ hpos hg;constructor<;>simp[l86_0,hpos,hw,hm1,hx]
  ·left;refine⟨m-1,⟨by omega,by omega⟩,by show m-1<m;omega,?_,rfl⟩;have hx:=h0 (m-1) _ (by omega) hg;simp[l86_0,hpos,hw,hm1,hx]
end
section
variable{T:Tbl}[Zr T]
def zbt(a:List UInt32)(hl:a.length<=4294967296):Zb T 86 [.sl (Za a) .an]=some (.sl (Za (ofN (val a))) .an):=by
 obtain⟨n,h1,h2,h3,h4⟩:=zgg a;have hr:=zxv (T:=T) a (by omega) h1 h3 h4 a.length ⟨h1,Yd _⟩;rw[zaa Zr.h86 rfl,b86];simp[hr,h1,h2]
def zxw(a:List UInt32)(m:Nat)(hl:a.length+m<=4294967296):Zb T 106 [.sl (Za a) .an,.i .i64 (m:Int)]=some (.sl (Za (a++List.replicate m 0)) .an):=by
 have hw:IntKind.wrap .i64 ((a.length:Int)+m)=((a.length+m:Nat):Int):=zab _ (by omega);have h0:(0:Int)<=(a.length:Int)+m:=by omega
 have h2:(a.length:Int)+m<=4294967296:=by omega
 have h3:((a.length:Int)+m).toNat=a.length+m:=by omega
 rw[zaa Zr.h106 rfl,b106];simp[hw,h0,h2,h3,Yb]
def zcz(a:List UInt32)(m:Nat)(hl:a.length+m<=4294967296):Zb6 T 2106 [.sl (Za a) .an,.i .i64 (m:Int)] [] =
  some (.bs (.loc 10) 1 1 0 (a.length+m),[(.loc 10,⟨1,.own,1,Za (a++List.replicate m 0)⟩)]):=by
 have hw:IntKind.wrap .i64 ((a.length:Int)+m)=((a.length+m:Nat):Int):=zab _ (by omega);have h0:(0:Int)<=(a.length:Int)+m:=by omega
 have h2:(a.length:Int)+m<=4294967296:=by omega
 have h3:((a.length:Int)+m).toNat=a.length+m:=by omega
 rw[zbj Zr.h2106 rfl,b2106];simp[hw,h0,h2,h3]
def zbe(a:List UInt32)(hl:a.length<=4294967296):Zb T 71 [.sl (Za a) .an]=some (.sl (Za (ofN (val a))) .an):=by
 have h1:=zac a;have h2:=zxw (T:=T) (ofN (val a)) 0 (by omega);simp only[Yt]at h2;rw[zaa Zr.h71 rfl,b71];simp[zbt a hl,h2]
def zep(n:Nat)(h:n<18446744073709551616):Zb T 72 [u64 n]=some (.sl (Za (ofN n)) .an):=by
 have e2:val [w32 n,w32 (n/4294967296)]=n:=by simp[zck];omega
 have h2:=zbt (T:=T) [w32 n,w32 (n/4294967296)] (by simp);rw[e2]at h2;have h3:n/4294967296%4294967296=n/4294967296:=Yf (by omega);rw[zaa Zr.h72 rfl,b72];simp[h3,zbd _ _ _ (show n/4294967296<4294967296 by omega),h2]
def ze6(a:List UInt32)(hl:a.length<=4294967296):Zb T 70 [.sl (Za a) .an]=some (.b (decide (val a=0))):=by
 rw[zaa Zr.h70 rfl,b70];have:((((ofN (val a)).length:Int) == 0))=decide (val a=0):=by
  rw[Ybo];simp[zan]
 simp[zbt a hl,this]
def Zgg(a b:List UInt32)(y:Nat×Nat×List UInt32):St:=
 ⟨[(0,.sl (Za a) .an),(1,.sl (Za b) .an),(5,.bs (.fld (.loc 17) 10) 1 1 0 (a.length+1)),(6,u32 y.2.1),(19,.i .i64 a.length),(20,.i .i64 y.1)],
  [(.fld (.loc 17) 10,⟨1,.own,1,Za y.2.2⟩)],3⟩
def zn4(a b:List UInt32)(hb:b.length<=a.length)(hl:a.length<=1000000):∀y:Nat×Nat×List UInt32,
  (y.1<=a.length/\y.2.1<=1/\y.2.2.length=a.length+1/\val (y.2.2.take y.1)+4294967296^y.1*y.2.1=val (a.take y.1)+val (b.take y.1)) ->
  ∃r,(∃(c:Nat) (out:List UInt32),r=(Ex.n,(⟨[(0,.sl (Za a) .an),(5,.bs (.fld (.loc 17) 10) 1 1 0 (a.length+1)),(6,u32 c)],[(.fld (.loc 17) 10,⟨1,.own,1,Za out⟩)],3⟩:St)) /\
   out.length=a.length+1/\c<=1/\val (out.take a.length)+4294967296^a.length*c=val a+val b)/\Zl T 0 0 (.norm false [0,5,6]) l85_0 (Zgg a b y)=some r:=by
 refine zaq _ _ (fun y=>a.length-y.1) _ ?_
 rintro⟨i,c,out⟩ ⟨hi,hc,ho,hv⟩
 simp only at hi hc ho hv;by_cases h0:i<a.length
 ·left;have ha:a[i]? = some (a[i]'h0):=Ya h0;have hoi:i<out.length:=by omega
  have hog:out[i]? = some (out[i]'hoi):=Ya hoi;have hw:IntKind.wrap .i64 ((i:Int)+1)=((i+1:Nat):Int):=zab _ (by omega);have hc2:c<4294967296:=by omega
  have hil:(i:Int)<(a.length:Int)+1:=by omega
  have h1:=zae ha;by_cases h2:i<b.length
  ·have hbg:b[i]? = some (b[i]'h2):=Ya h2;have h3:=zae hbg;refine⟨(i+1,((a[i]'h0).toNat+(b[i]'h2).toNat+c)/4294967296,out.set i (w32 ((a[i]'h0).toNat+(b[i]'h2).toNat+c))),⟨by simp only;omega,?_,by simp[ho],?_⟩,by simp only;omega,?_⟩
   ·have:=zak (a[i]'h0);have:=zak (b[i]'h2);simp only;omega
   ·simp only;rw[zbp _ hoi,h1,h3,zck,Y7];generalize 4294967296^i=p at *
    generalize (a[i]'h0).toNat=x at *
    generalize (b[i]'h2).toNat=z at *
    have e:=Yb0 (x+z+c) 4294967296;have e2:p*((x+z+c)%4294967296)+p*4294967296*((x+z+c)/4294967296)=p*(x+z+c):=by
     conv=>rhs;rw[<-e]
     rw[Yan,Yag];omega
    rw[Yan,Yan]at e2;omega
   ·simp[l85_0,Zgg,h0,h2,hog,hw,hil,zeo,hc2]
  ·have h3:val (b.take (i+1))=val (b.take i):=by rw[zbc (by omega),zbc (by omega)]
   refine⟨(i+1,((a[i]'h0).toNat+0+c)/4294967296,out.set i (w32 ((a[i]'h0).toNat+0+c))),⟨by simp only;omega,?_,by simp[ho],?_⟩,by simp only;omega,?_⟩
   ·have:=zak (a[i]'h0);simp only;omega
   ·simp only;rw[zbp _ hoi,h1,h3,zck,Y7];generalize 4294967296^i=p at *
    generalize (a[i]'h0).toNat=x at *
    have e:=Yb0 (x+0+c) 4294967296;have e2:p*((x+0+c)%4294967296)+p*4294967296*((x+0+c)/4294967296)=p*(x+0+c):=by
     conv=>rhs;rw[<-e]
     rw[Yan,Yag];omega
    rw[Yan,Yan]at e2;omega
   ·simp[l85_0,Zgg,h0,h2,hog,hw,hil,zeo,hc2]
 ·right;have:i=a.length:=by omega
  subst this;rw[Yb (Yd _),Yb hb]at hv;refine⟨_,⟨c,out,rfl,ho,hc,hv⟩,?_,?_⟩<;>simp[l85_0,Zgg]
def zxx(a b:List UInt32)(hb:b.length<=a.length)(hl:a.length<=1000000):Zb T 85 [.sl (Za a) .an,.sl (Za b) .an]=some (.sl (Za (ofN (val a+val b))) .an):=by
 have hf:=zcz (T:=T) a 1 (by omega);simp only[Yeq]at hf;obtain⟨_,⟨c,out,rfl,ho,hc,hv⟩,hr⟩:=zn4 (T:=T) a b hb hl (0,0,a++List.replicate 1 0) ⟨Yu _,Yu _,by simp,by simp⟩;unfold Zgg at hr;simp at hr;have hog:out[a.length]? = some (out[a.length]'(by omega)):=Ya _;have h1:¬ (a.length:Int)<b.length:=by omega
 have h2:¬ a.length<b.length:=by omega
 have h3:(a.length:Int)<(a.length:Int)+1:=by omega
 have hval:val (out.set a.length (w32 c))=val a+val b:=by
  rw[<-Yb (l:=out.set a.length (w32 c)) (i:=a.length+1) (by simp;omega),zbp _ (by omega),zaf (by omega)];exact hv
 have ht:=zbt (T:=T) (out.set a.length (w32 c)) (by simp;omega);rw[hval]at ht;have htk:List.take (a.length+1) (out.set a.length (w32 c))=out.set a.length (w32 c):=Yb (by simp;omega);rw[zaa Zr.h85 rfl,b85];simp[h1,hf,hr,h3,zbd _ _ _ (show c<4294967296 by omega),htk,ht,ho]
def ztv(a b:List UInt32)(hb:a.length<b.length)(hl:b.length<=1000000):Zb T 85 [.sl (Za a) .an,.sl (Za b) .an]=some (.sl (Za (ofN (val a+val b))) .an):=by
 have hf:=zcz (T:=T) b 1 (by omega);simp only[Yeq]at hf;obtain⟨_,⟨c,out,rfl,ho,hc,hv⟩,hr⟩:=zn4 (T:=T) b a (by omega) hl (0,0,b++List.replicate 1 0) ⟨Yu _,Yu _,by simp,by simp⟩;unfold Zgg at hr;simp at hr;have hog:out[b.length]? = some (out[b.length]'(by omega)):=Ya _;have h1:(a.length:Int)<b.length:=by omega
 have h3:(b.length:Int)<(b.length:Int)+1:=by omega
 have hval:val (out.set b.length (w32 c))=val a+val b:=by
  rw[<-Yb (l:=out.set b.length (w32 c)) (i:=b.length+1) (by simp;omega),zbp _ (by omega),zaf (by omega),hv,Ybr]
 have ht:=zbt (T:=T) (out.set b.length (w32 c)) (by simp;omega);rw[hval]at ht;have htk:List.take (b.length+1) (out.set b.length (w32 c))=out.set b.length (w32 c):=Yb (by simp;omega);rw[zaa Zr.h85 rfl,b85];simp[h1,hf,hr,h3,zbd _ _ _ (show c<4294967296 by omega),htk,ht,ho]
def z0y(a b:List UInt32)(ha:a.length<=1000000)(hb:b.length<=1000000):Zb T 85 [.sl (Za a) .an,.sl (Za b) .an]=some (.sl (Za (ofN (val a+val b))) .an):=by
 rcases Yy a.length b.length with h | h
 ·exact ztv a b h hb
 ·exact zxx a b h ha
def Zdx(l:List (List UInt32)):Nat:=(l.map val).sum
def z0z(K:Nat):∀m:List (List UInt32),m.length<=1000->(∀a∈m,a.length<=K)->(ofN (Zdx m)).length<=K+1:=by
 intro m hm hw;apply zal;rw[Y7];have hp0:0<4294967296^K:=Yba (by decide);have hall:∀a∈m,val a<4294967296^K:=fun a ha=>Yq (zau a) (Yp (by decide) (hw a ha));generalize 4294967296^K=p at *
 have h1:Zdx m<=m.length*p:=by
  clear hm hw
  induction m with
  | nil=>simp[Zdx]
  | cons a m ih=>
   have h2:=ih fun a ha=>hall a (Yj _ ha);have h3:=hall a Yl;simp only[Zdx,Y3,Yez,Ye,Yb3,Yed]at h2 ⊢;omega
 have h6:=Y4 p hm;omega
def z00(l:List (List UInt32))(hl:l.length<=1000)(hw:∀a∈l,a.length<=90000):∀i:Nat,i<=l.length ->
  Zl T 0 0 (.norm false [3]) l56_0 ⟨[(3,.sl (Za (ofN (Zdx (l.take i)))) .an),(6,.sl (lls l) .an),(7,.i .i64 l.length),(8,.i .i64 i)],[],2⟩=some (.n,⟨[(3,.sl (Za (ofN (Zdx l))) .an)],[],2⟩):=by
 refine zat (fun i:Nat=>⟨[(3,.sl (Za (ofN (Zdx (l.take i)))) .an),(6,.sl (lls l) .an),(7,.i .i64 l.length),(8,.i .i64 i)],[],2⟩) _ (fun i=>l.length-i) _ ?_;intro i hi;by_cases h0:i<l.length
 ·left;have hg:l[i]? = some (l[i]'h0):=Ya h0;have hwr:IntKind.wrap .i64 ((i:Int)+1)=((i+1:Nat):Int):=zab _ (by omega);have hw1:=hw _ (Yx h0);have ht:=zbt (T:=T) (l[i]'h0) (by omega);have hs:=z0z 90000 (l.take i) (by simp;omega) fun a ha=>hw a (Yax ha);have hp:=z0y (T:=T) (ofN (Zdx (l.take i))) (ofN (val (l[i]'h0))) (by omega) (by have:=zac (l[i]'h0);omega);rw[zad,zad]at hp;have e:Zdx (l.take i)+val (l[i]'h0)=Zdx (l.take (i+1)):=by
   unfold Zdx;rw[Yc2,hg];simp only[Yd5,Ya4,Y3,Yb2,Yer,Yez,List.sum_nil,Y6]
  rw[e]at hp;have hz:Zi6 1 (lls l)=true:=by cases l<;>simp[lls,Zi6]
  refine⟨i+1,h0,by show l.length-(i+1)<l.length-i;omega,?_,rfl⟩;simp[l56_0,h0,ht,hp,hwr]
 ·right;have:i=l.length:=by omega
  subst this;rw[Yb (Yd _)];constructor<;>simp[l56_0]
def zrv(l:List (List UInt32))(hl:l.length<=1000)(hw:∀a∈l,a.length<=90000):Zb T 56 [.sl (lls l) .an]=some (.sl (Za (ofN (Zdx l))) .an):=by
 have h:=z00 (T:=T) l hl hw 0 (Yu _);simp[Zdx]at h;rw[zaa Zr.h56 rfl,b56];simp[h,Zdx]
def zxy(l:List (List UInt32))(hl:l.length<=1000)(hw:∀a∈l,a.length<=10000):Zb T 56 [.sl (lls l) .an]=some (.sl (Za (ofN (Zdx l))) .an):=zrv (T:=T) l hl (fun a h=>Yc (hw a h) (by decide))
end
section
variable{T:Tbl}
def z01(a b:List UInt32)(hab:a.length=b.length)(hl:a.length<=1000000):∀m:Nat,m<=a.length ->
  Zl T 0 1 (.norm false []) l87_0 ⟨[(0,.sl (Za a) .an),(1,.sl (Za b) .an),(5,.i .i64 ((m:Int)-1))],[],2⟩ =
   if val (a.take m)<val (b.take m) then some (.r,⟨[(4,.i .i64 (-1))],[],2⟩) else if val (b.take m)<val (a.take m) then some (.r,⟨[(4,.i .i64 1)],[],2⟩) else some (.n,⟨[],[],2⟩):=by
 refine zat (fun m:Nat=>⟨[(0,.sl (Za a) .an),(1,.sl (Za b) .an),(5,.i .i64 ((m:Int)-1))],[],2⟩) _ (fun m=>m) _ ?_;intro m hm;cases m with
 | zero=>
  right;constructor<;>simp[l87_0]
 | succ i=>
  have ha:a[i]? = some (a[i]'(by omega)):=Ya _;have hb:b[i]? = some (b[i]'(by omega)):=Ya _;have hia:i<a.length:=by omega
  have hib:i<b.length:=by omega
  have hw:IntKind.wrap .i64 ((i:Int)-1)=(i:Int)-1:=zab _ (by omega);rcases Ya8 (a[i]'hia).toNat (b[i]'hib).toNat with h1 | h1 | h1
  ·right;have h2:=zy2 ha hb h1;constructor<;>simp[l87_0,hia,hib,h1,h2]
  ·left;refine⟨i,by omega,Y0 i,?_,?_⟩
   ·simp[l87_0,hia,hib,h1,hw]
   ·have e1:=zae ha;have e2:=zae hb;rw[e1,e2,h1];have e3:(val (a.take i)+4294967296^i*(b[i]'hib).toNat<val (b.take i)+4294967296^i*(b[i]'hib).toNat)=(val (a.take i)<val (b.take i)):=by
     apply propext;omega
    have e4:(val (b.take i)+4294967296^i*(b[i]'hib).toNat<val (a.take i)+4294967296^i*(b[i]'hib).toNat)=(val (b.take i)<val (a.take i)):=by
     apply propext;omega
    simp only[e3,e4]
  ·right;have h2:=zy2 hb ha h1;have h3:¬ val (a.take (i+1))<val (b.take (i+1)):=by omega
   have h4:¬ (a[i]'hia).toNat<(b[i]'hib).toNat:=by omega
   constructor<;>simp[l87_0,hia,hib,h1,h2,h3,h4]
end
section
variable{T:Tbl}[Zr T]
def zgu(a b:List UInt32)(ha:a.length<=1000000)(hb:b.length<=1000000):Zb T 87 [.sl (Za a) .an,.sl (Za b) .an]=some (.i .i64 (Zck (val a) (val b))):=by
 have hta:=zbt (T:=T) a (by omega);have htb:=zbt (T:=T) b (by omega);have hla:=zac a;have hlb:=zac b;rw[zaa Zr.h87 rfl,b87];rcases Ya8 (ofN (val a)).length (ofN (val b)).length with h | h | h
 ·have h1:=zg0 h;simp[hta,htb,h,Zck,h1]
 ·have hc:=z01 (T:=T) (ofN (val a)) (ofN (val b)) h (by omega) (ofN (val a)).length (Yd _);rw[Yb (Yd _),Yb (by omega),zad,zad]at hc;have hw:IntKind.wrap .i64 (((ofN (val a)).length:Int)-1)=((ofN (val a)).length:Int)-1:=zab _ (by omega);have h1:¬ (ofN (val a)).length<(ofN (val b)).length:=by omega
  have h2:¬ (ofN (val b)).length<(ofN (val a)).length:=by omega
  simp[hta,htb,h1,h2,hw,hc,Zck]
  repeat' split
  all_goals simp
 ·have h1:=zg0 h;have h2:¬ val a<val b:=by omega
  have h3:¬ (ofN (val a)).length<(ofN (val b)).length:=by omega
  simp[hta,htb,h,Zck,h1,h2,h3]
def Ziu(a b:List UInt32)(y:Nat×Nat×List UInt32):St:=
 ⟨[(0,.sl (Za a) .an),(1,.sl (Za b) .an),(6,.bs (.fld (.loc 19) 10) 1 1 0 a.length),(7,u32 y.2.1),(21,.i .i64 a.length),(22,.i .i64 y.1)],
  [(.fld (.loc 19) 10,⟨1,.own,1,Za y.2.2⟩)],3⟩
def z02(a b:List UInt32)(hb:b.length<=a.length)(hl:a.length<=1000000):∀y:Nat×Nat×List UInt32,
  (y.1<=a.length/\y.2.1<=1/\y.2.2.length=a.length/\val (y.2.2.take y.1)+val (b.take y.1)=val (a.take y.1)+4294967296^y.1*y.2.1) ->
  ∃r,(∃(c:Nat) (out:List UInt32),r=(Ex.n,(⟨[(6,.bs (.fld (.loc 19) 10) 1 1 0 a.length)],[(.fld (.loc 19) 10,⟨1,.own,1,Za out⟩)],3⟩:St)) /\
   out.length=a.length/\c<=1/\val out+val b=val a+4294967296^a.length*c)/\Zl T 0 0 (.norm false [6]) l88_0 (Ziu a b y)=some r:=by
 refine zaq _ _ (fun y=>a.length-y.1) _ ?_
 rintro⟨i,c,out⟩ ⟨hi,hc,ho,hv⟩
 simp only at hi hc ho hv;by_cases h0:i<a.length
 ·left;have ha:a[i]? = some (a[i]'h0):=Ya h0;have hoi:i<out.length:=by omega
  have hog:out[i]? = some (out[i]'hoi):=Ya hoi;have hw:IntKind.wrap .i64 ((i:Int)+1)=((i+1:Nat):Int):=zab _ (by omega);have hc2:c<4294967296:=by omega
  have hx:=zak (a[i]'h0);have h1:=zae ha;have fin:∀z:Nat,z<4294967296->val (b.take (i+1))=val (b.take i)+4294967296^i*z ->
    val ((out.set i (w32 ((a[i]'h0).toNat+8589934592-(z+c)))).take (i+1))+val (b.take (i+1))=val (a.take (i+1))+4294967296^(i+1)*(2-((a[i]'h0).toNat+8589934592-(z+c))/4294967296):=by
   intro z hz h3;have hs:=(zl8 hx hz hc).1;rw[zbp _ hoi,h1,h3,zck,Y7];generalize 4294967296^i=p at *
   generalize (a[i]'h0).toNat=x at *
   generalize (x+8589934592-(z+c))%4294967296=s at *
   generalize 2-(x+8589934592-(z+c))/4294967296=d at *
   have e2:p*s+p*(z+c)=p*x+p*4294967296*d:=by rw[<-Yan,hs,Yan,Yag]
   rw[Yan]at e2;omega
  by_cases h2:i<b.length
  ·have hbg:b[i]? = some (b[i]'h2):=Ya h2;have h3:=zae hbg;refine⟨(i+1,2-((a[i]'h0).toNat+8589934592-((b[i]'h2).toNat+c))/4294967296,out.set i (w32 ((a[i]'h0).toNat+8589934592-((b[i]'h2).toNat+c)))),⟨h0,(zl8 hx (zak _) hc).2,by simp[ho],fin _ (zak _) h3⟩,by simp only;omega,?_⟩;simp[l88_0,Ziu,h0,h2,hog,hw,zf9,hc2]
  ·have h3:val (b.take (i+1))=val (b.take i)+4294967296^i*0:=by rw[zbc (by omega),zbc (by omega)];simp
   refine⟨(i+1,2-((a[i]'h0).toNat+8589934592-(0+c))/4294967296,out.set i (w32 ((a[i]'h0).toNat+8589934592-(0+c)))),⟨h0,(zl8 hx (by decide) hc).2,by simp[ho],fin 0 (by decide) h3⟩,by simp only;omega,?_⟩;simp[l88_0,Ziu,h0,h2,hog,hw,zf9,hc2]
 ·right;have:i=a.length:=by omega
  subst this;rw[Yb (Yd _),Yb hb,Yb (by omega)]at hv;refine⟨_,⟨c,out,rfl,ho,hc,hv⟩,?_,?_⟩<;>simp[l88_0,Ziu]
def zdh{x y:Nat}:Zck x y<0↔x<y:=by
 unfold Zck;split
 ·simp[*]
 ·split<;>simp[*]
def zxz(a b:List UInt32)(ha:a.length<=1000000)(hb:b.length<=1000000):Zb T 88 [.sl (Za a) .an,.sl (Za b) .an] =
  some (if val a<val b then .tup [.sl [] .an,.b false] else .tup [.sl (Za (ofN (val a-val b))) .an,.b true]):=by
 have hta:=zbt (T:=T) a (by omega);have htb:=zbt (T:=T) b (by omega);have hla:=zac a;have hlb:=zac b;have hc:=zgu (T:=T) (ofN (val a)) (ofN (val b)) (by omega) (by omega);rw[zad,zad]at hc;rw[zaa Zr.h88 rfl,b88];by_cases h:val a<val b
 ·simp[hta,htb,hc,zdh,h]
 ·have hle:=zap (show val b<=val a by omega);have hf:=zcz (T:=T) (ofN (val a)) 0 (by omega);simp only[Yt,Y6,List.replicate_zero,Ybn]at hf;obtain⟨_,⟨c,out,rfl,ho,hc1,hv⟩,hr⟩:=z02 (T:=T) (ofN (val a)) (ofN (val b)) hle (by omega) (0,0,ofN (val a)) ⟨Yu _,Yu _,rfl,by simp⟩;unfold Ziu at hr;simp at hr;rw[zad,zad]at hv;have hlt:=zau out;rw[ho]at hlt;have hc0:c=0:=by
   rcases Yar c with h1 | h1
   ·exact h1
   ·have:c=1:=by omega
    subst this;omega
  subst hc0;have hval:val out=val a-val b:=by omega
  have ht:=zbt (T:=T) out (by omega);rw[hval]at ht;have htk:List.take (ofN (val a)).length out=out:=Yb (by omega);simp[hta,htb,hc,zdh,h,hf,hr,ho,htk,ht]
def z41(a b:List UInt32)(ha:a.length<=1000000)(hb:b.length<=1000000):Zb T 57 [.sl (Za a) .an,.sl (Za b) .an] =
  some (.tup [.sl (Za (ofN (if val a<val b then val b-val a else val a-val b))) .an,.i .i64 (Zck (val a) (val b))]):=by
 have hc:=zgu (T:=T) a b ha hb;rw[zaa Zr.h57 rfl,b57];by_cases h:val a<val b
 ·have h2:¬ val b<val a:=by omega
  have hs:=zxz (T:=T) b a hb ha;rw[if_neg h2]at hs;simp[hc,zdh,h,hs]
 ·have hs:=zxz (T:=T) a b ha hb;rw[if_neg h]at hs;simp[hc,zdh,h,hs]
def z03{x y:Nat}(hx:x<4294967296):x ||| (y*4294967296)=x+y*4294967296:=by
 have:=Ycz (i:=32) hx y;rw[Nat.or_comm,Yah y,show (4294967296:Nat)=2^32 from rfl,<-this];omega
end
section
variable{T:Tbl}
def ztw(l:List UInt32)(hl:l.length<=2):∀i:Nat,i<=l.length ->
  Zl T 0 0 (.norm false [4]) l73_0 ⟨[(4,u64 (val (l.take i))),(12,.sl (Za l) .an),(13,.i .i64 l.length),(14,.i .i64 i)],[],2⟩=some (.n,⟨[(4,u64 (val l))],[],2⟩):=by
 refine zat (fun i:Nat=>⟨[(4,u64 (val (l.take i))),(12,.sl (Za l) .an),(13,.i .i64 l.length),(14,.i .i64 i)],[],2⟩) _ (fun i=>l.length-i) _ ?_;intro i hi;by_cases h0:i<l.length
 ·left;have hg:l[i]? = some (l[i]'h0):=Ya h0;have hx:=zak (l[i]'h0);have h1:=zae hg;refine⟨i+1,h0,by show l.length-(i+1)<l.length-i;omega,?_,rfl⟩;rcases(show i=0\/i=1 by omega) with rfl | rfl
  ·simp[l73_0,h0,h1]
  ·have h2:val (l.take 1)<4294967296:=by
    have:=zau (l.take 1);have h3:(l.take 1).length=1:=by simp;omega
    rw[h3]at this;simpa using this
   have e1:(l[1]'h0).toNat*4294967296%18446744073709551616=(l[1]'h0).toNat*4294967296:=Yf (by omega);have e2:=z03 (y:=(l[1]'h0).toNat) h2;have e3:(val (l.take 1)+(l[1]'h0).toNat*4294967296)%18446744073709551616=val (l.take 1)+(l[1]'h0).toNat*4294967296:=Yf (by omega);have e4:val (l.take 1)+(l[1]'h0).toNat*4294967296=val (l.take (1+1)):=by rw[h1];omega
   simp at e4;have h0':(1:Int)<(l.length:Int):=by omega
   have e5:val (List.take 2 l)<18446744073709551616:=by omega
   simp[l73_0,h0,h0',e1,e2,e4,e5]
 ·right;have:i=l.length:=by omega
  subst this;rw[Yb (Yd _)];constructor<;>simp[l73_0]
end
section
variable{T:Tbl}[Zr T]
def zn5(a:List UInt32)(ha:a.length<=1000000):Zb T 73 [.sl (Za a) .an] =
  some (if val a<18446744073709551616 then .tup [u64 (val a),.b true] else .tup [u64 0,.b false]):=by
 have hta:=zbt (T:=T) a (by omega);have hla:=zac a;have hv:=zad (val a);rw[zaa Zr.h73 rfl,b73];generalize hl:ofN (val a)=l at *
 by_cases h:2<l.length
 ·have h2:¬ val a<18446744073709551616:=by
   intro h3;have:=zal (show val a<4294967296^2 from h3);rw[hl]at this;omega
  have h3:(2:Int)<(l.length:Int):=by omega
  simp[hta,h3,h2]
 ·have h2:val a<18446744073709551616:=by
   have:=zau l;rw[hv]at this;have h3:4294967296^l.length<=4294967296^2:=Yp (by decide) (by omega);omega
  have h3:¬ (2:Int)<(l.length:Int):=by omega
  have hs:=ztw (T:=T) l (by omega) 0 (Yu _);simp at hs;simp[hta,h3,h2,hs,hv]
end
section
def l89_0:AX:=QZ "Ye6cwD2Vjlvdc6q1ULocwNDJC2wl9ICIaV.uF_noaD8I0WKEC0DbfI0RhYDThuL6qLrhoGUlXkHUanYx0Z5HWYBTe6EnoSA_fS"
def b89:AX:=(fun p0=>QY [p0] [] "0JKMQNr9BkPsI.q0FpDLhmJYIMsIRzK6fnr1EMzgga") l89_0
def b100:AX:=QZ "CkL.xDISI5HT8zY3yRUuR6l2R8TAfmCgX52dKHTXJiYA2gCL"
def l60_0:AX:=QZ "8RyFMlGQNF3BSBKTlrJLc3xJdhJbWj7vLLF_v06SOUJ1.AjkWq2CzS"
def b60:AX:=(fun p0=>QY [p0] [] "1jladIJqBCciEJAZhvp8sstRL8QBBT.Q5g6WGnlG.KGZz0MuwjKkMpc0") l60_0
abbrev row89:AFx:=⟨5,45,[],b89,(some [true,false,false,false,false]),false⟩
abbrev row100:AFx:=⟨3,19,[.t 6],b100,none,false⟩
abbrev row60:AFx:=⟨2,30,[.t 4],b60,none,false⟩
class Zx (T:Tbl):Prop extends Zr T where
 h89:Tr T 89=some row89
 h100:Tr T 100=some row100
 h60:Tr T 60=some row60
attribute [simp] Zx.h89 Zx.h100 Zx.h60
end
section
def l92_0:AX:=QZ "29Q_jVFqcAQYYWE_ReoI.ADnZg5cPpHY1D2RCJW_vUQo1ky8yts67A5kAhXVTGB1JQWe0Ypyog0CKoDONtuSBDmiuJ99kBtMjYjVAmiWG_rQ"
def b92:AX:=(fun p0=>QY [p0] [(AV.i .i64 4096)] "VQKgYuKbDQNPNVc6lOc5LlpbtkUiDizon.ljYu1_dAe3jwoSQ4nuKCjTs5YS9CPQRALmCF4DGZepwily638lFUXMcw12A408") l92_0
def l94_0:AX:=QZ "09MUefCd.PagCuoyb4X7W9pJC2091Wt23lLvZcjpJbDzHHiMZ8qrPsKy_VYG5KLZkV_.ur67mEATPtZDEFhaWRqj6Da_NycZdz06Tj_HEQm8M8WHaA6b3HoXNiJVfV"
def b94:AX:=(fun p0=>QY [p0] [] "n53C5AmCoKqhsGpJ8..mdf7aR4EHzn9qdKjbr2uTXvQraCPPU74wzKp7sroPYi..80pbLcdbD5ZchQDqnhM5Y2MafXRVb5h0gRsB4BNiNrrcQ") l94_0
abbrev row92:AFx:=⟨2,57,[.t 4],b92,none,false⟩
abbrev row94:AFx:=⟨2,65,[.t 4],b94,none,false⟩
class Z2 (T:Tbl):Prop where
 h92:Tr T 92=some row92
 h94:Tr T 94=some row94
attribute [simp] Z2.h92 Z2.h94
end
def zdx{P m S:List UInt32}{i:Nat}(hm:m.length=i)(hi:i<S.length):(P++(m++S.drop i))[P.length+i]? = some (S[i]'hi):=by
 rw[Yg (by omega),Ybw,Yg (by omega),hm,Ybf,Yaz,Y6,Ya hi]
def zdj{P m S:List UInt32}{i:Nat}(w:UInt32)(hm:m.length=i)(hi:i<S.length):(P++(m++S.drop i)).set (P.length+i) w=P++((m++[w])++S.drop (i+1)):=by
 rw[Yad (P.length+i) w (by omega),Ybw,Yad i w (by omega),hm,Ybf,Yi hi,Ybx];simp
section
variable{T:Tbl}[Zx T]
def Zju(P S a:List UInt32)(x:Nat)(y:Nat×Nat×List UInt32):St:=
 ⟨[(0,.bs (.bor 0) 0 1 0 (P.length+S.length)),(1,.i .i64 P.length),(2,.sl (Za a) .an),(3,u32 x),(4,u32 y.2.1),(12,.sl (Za a) .an),(13,.i .i64 a.length),(14,.i .i64 y.1)],
  [(.bor 0,⟨0,.own,1,Za (P++(y.2.2++S.drop y.1))⟩)],4⟩
def zr0{p m w c c' s x y t v k:Nat}(h:m+p*c=s+x*t+k)(e:w+4294967296*c'=x*y+v+c):(m+p*w)+p*4294967296*c'=(s+p*v)+x*(t+p*y)+k:=by
 have e2:p*w+p*4294967296*c'=p*(x*y)+p*v+p*c:=by rw[Yag,<-Yan,e,Yan,Yan]
 have e3:x*(t+p*y)=x*t+p*(x*y):=by rw[Yan,<-Yag,Yah x p,Yag]
 omega
def z1c(P S a:List UInt32)(x c0:Nat)(hx:x<4294967296)(hS:a.length<S.length)(hl:P.length+S.length<=1000000):∀y:Nat×Nat×List UInt32,
  (y.1<=a.length/\y.2.1<4294967296/\y.2.2.length=y.1/\val y.2.2+4294967296^y.1*y.2.1=val (S.take y.1)+x*val (a.take y.1)+c0) ->
  ∃r,(∃(c:Nat) (m:List UInt32),r=(Ex.n,(⟨[(0,.bs (.bor 0) 0 1 0 (P.length+S.length)),(1,.i .i64 P.length),(2,.sl (Za a) .an),(4,u32 c)],[(.bor 0,⟨0,.own,1,Za (P++(m++S.drop a.length))⟩)],4⟩:St)) /\
   m.length=a.length/\c<4294967296/\val m+4294967296^a.length*c=val (S.take a.length)+x*val a+c0)/\Zl T 1 0 (.norm false [0,1,2,4]) l89_0 (Zju P S a x y)=some r:=by
 refine zaq _ _ (fun y=>a.length-y.1) _ ?_
 rintro⟨i,c,m⟩ ⟨hi,hc,hm,hv⟩
 simp only at hi hc hm hv;by_cases h0:i<a.length
 ·left;have ha:a[i]? = some (a[i]'h0):=Ya h0;have hiS:i<S.length:=by omega
  have hs:S[i]? = some (S[i]'hiS):=Ya hiS;have hg:=zdx (P:=P) hm hiS;have hw:IntKind.wrap .i64 ((i:Int)+1)=((i+1:Nat):Int):=zab _ (by omega);have hw2:IntKind.wrap .i64 ((P.length:Int)+i)=((P.length+i:Nat):Int):=zab _ (by omega);have hlt:P.length+i<P.length+S.length:=by omega
  have hlt2:((P.length+i:Nat):Int)<(P.length:Int)+S.length:=by omega
  have hla:=zak (a[i]'h0);have hls:=zak (S[i]'hiS);have hmul:=zg5 hx hla;have hlen:(P++(m++S.drop i)).length=P.length+S.length:=by simp;omega
  have hcall:=zi5 (T:=T) x (a[i]'h0).toNat (S[i]'hiS).toNat c hx hla hls hc;have hset:=zdj (P:=P) (w32 (x*(a[i]'h0).toNat+(S[i]'hiS).toNat+c)) hm hiS;refine⟨(i+1,(x*(a[i]'h0).toNat+(S[i]'hiS).toNat+c)/4294967296,m++[w32 (x*(a[i]'h0).toNat+(S[i]'hiS).toNat+c)]),⟨h0,by simp only;omega,by simp[hm],?_⟩,by simp only;omega,?_⟩
  ·simp only;rw[zag,zae ha,zae hs,Y7,hm];simp only[zaj,za2,Yam,Y6,zck];exact zr0 hv (by have:=Yb0 (x*(a[i]'h0).toNat+(S[i]'hiS).toNat+c) 4294967296;omega)
  ·simp[l89_0,Zju,h0,hw,hw2,hiS,hg,hcall,hset]
 ·right;have:i=a.length:=by omega
  subst this;rw[Yb (Yd a.length)]at hv;refine⟨_,⟨c,m,rfl,hm,hc,hv⟩,?_,?_⟩<;>simp[l89_0,Zju]
def zl1(P S a:List UInt32)(x c0:Nat)(hx:x<4294967296)(hc:c0<4294967296)(hS:a.length<S.length)(hl:P.length+S.length<=1000000) :
  ∃m,m.length=a.length+1/\val m=val (S.take a.length)+x*val a+c0 /\
   Zb6 T 89 [.bs (.bor 0) 0 1 0 (P.length+S.length),.i .i64 P.length,.sl (Za a) .an,u32 x,u32 c0] [(.bor 0,⟨0,.own,1,Za (P++S)⟩)] =
    some (.tup [],[(.bor 0,⟨0,.own,1,Za (P++(m++S.drop (a.length+1)))⟩)]):=by
 obtain⟨_,⟨c,m,rfl,hm,hc1,hv⟩,hr⟩:=z1c (T:=T) P S a x c0 hx hS hl (0,c0,[]) ⟨Yu _,hc,rfl,by simp⟩;unfold Zju at hr;simp at hr;refine⟨m++[w32 c],by simp[hm],by rw[zag,hm];simpa[zaf hc1]using hv,?_⟩;have hw2:IntKind.wrap .i64 ((P.length:Int)+a.length)=((P.length+a.length:Nat):Int):=zab _ (by omega);have hlt:P.length+a.length<P.length+S.length:=by omega
 have hlt2:((P.length+a.length:Nat):Int)<(P.length:Int)+S.length:=by omega
 have hg:=zdx (P:=P) hm hS;have hset:=zdj (P:=P) (w32 c) hm hS;rw[zbj Zx.h89 rfl,b89];simp[hr,hw2,hg,hS,zbd _ _ _ hc1,hset]
def Zjv(a b:List UInt32)(y:Nat×List UInt32):St:=
 ⟨[(0,.sl (Za a) .an),(5,.bs (.loc 14) 1 1 0 (a.length+b.length+1)),(15,.sl (Za b) .an),(16,.i .i64 b.length),(17,.i .i64 y.1)],[(.loc 14,⟨1,.own,1,Za (y.2++List.replicate (b.length+1-y.1) 0)⟩)],3⟩
def z1d(a b:List UInt32)(ha:a.length<=100000)(hb:b.length<=100000):∀y:Nat×List UInt32,
  (y.1<=b.length/\y.2.length=a.length+y.1/\val y.2=val a*val (b.take y.1)) ->
  ∃r,(∃out:List UInt32,r=(Ex.n,(⟨[(5,.bs (.loc 14) 1 1 0 (a.length+b.length+1))],[(.loc 14,⟨1,.own,1,Za out⟩)],3⟩:St))/\out.length=a.length+b.length+1/\val out=val a*val b) /\
   Zl T 0 0 (.norm false [5]) l60_0 (Zjv a b y)=some r:=by
 refine zaq _ _ (fun y=>b.length-y.1) _ ?_
 rintro⟨i,X⟩ ⟨hi,hX,hv⟩
 simp only at hi hX hv;by_cases h0:i<b.length
 ·left;have hbg:b[i]? = some (b[i]'h0):=Ya h0;have hw:IntKind.wrap .i64 ((i:Int)+1)=((i+1:Nat):Int):=zab _ (by omega);obtain⟨m,hm1,hm2,hc⟩:=zl1 (T:=T) (X.take i) (X.drop i++List.replicate (b.length+1-i) 0) a (b[i]'h0).toNat 0 (zak _) (by decide) (by simp;omega) (by simp;omega);have e1:X.take i++(X.drop i++List.replicate (b.length+1-i) 0)=X++List.replicate (b.length+1-i) 0:=by rw[<-Yay,Yau]
  have e2:(X.take i).length=i:=by simp;omega
  have e3:(X.drop i++List.replicate (b.length+1-i) 0).length=a.length+b.length+1-i:=by simp;omega
  have e4:i+(a.length+b.length+1-i)=a.length+b.length+1:=by omega
  have e5:(X.drop i++List.replicate (b.length+1-i) 0).drop (a.length+1)=List.replicate (b.length+1-(i+1)) 0:=by
   rw[Ydr,Ya1 (by simp;omega),Ydz];simp only[Ya5,Yby];congr 1;omega
  have e6:(X.drop i++List.replicate (b.length+1-i) 0).take a.length=X.drop i:=by
   rw[Ybp (by simp;omega),Yb (by simp;omega)]
  rw[e1,e2,e3,e4,e5]at hc;rw[e6]at hm2;simp only[<-Yay]at hc;refine⟨(i+1,X.take i++m),⟨h0,by simp only[Yo,e2,hm1];omega,?_⟩,by simp only;omega,?_⟩
  ·simp only;have e7:=zag (X.take i) (X.drop i);rw[Yau,e2]at e7;rw[zag,e2,hm2,zae hbg,Yan (val a),<-hv,e7,Yan,Yan];have e8:4294967296^i*((b[i]'h0).toNat*val a)=val a*(4294967296^i*(b[i]'h0).toNat):=by
    rw[Yah (b[i]'h0).toNat,<-Yag,Yah (4294967296^i) (val a),Yag]
   rw[e8];omega
  ·simp[l60_0,Zjv,h0,hw,hc]
 ·right;have:i=b.length:=by omega
  subst this;rw[Yb (Yd _)]at hv;refine⟨_,⟨X++List.replicate (b.length+1-b.length) 0,rfl,by simp;omega,by rw[zag,zaw,hv];simp⟩,?_,?_⟩<;>simp[l60_0,Zjv]
def zgb(a b:List UInt32)(ha:a.length<=100000)(hb:b.length<=100000):Zb T 60 [.sl (Za a) .an,.sl (Za b) .an]=some (.sl (Za (ofN (val a*val b))) .an):=by
 obtain⟨_,⟨out,rfl,ho,hv⟩,hr⟩:=z1d (T:=T) a b ha hb (0,List.replicate a.length 0) ⟨Yu _,by simp,by simp[zaw]⟩;unfold Zjv at hr;simp at hr;have hw1:IntKind.wrap .i64 ((a.length:Int)+b.length)=(a.length:Int)+b.length:=zab _ (by omega);have hw:IntKind.wrap .i64 ((a.length:Int)+b.length+1)=(a.length:Int)+b.length+1:=zab _ (by omega);have hle:(a.length:Int)+b.length+1<=4294967296:=by omega
 have hn:=zbe (T:=T) out (by omega);rw[hv]at hn;have htk:List.take (a.length+b.length+1) out=out:=Yb (by omega);have he:a.length+(b.length+1)=a.length+b.length+1:=by omega
 rw[he]at hr;rw[zaa Zx.h60 rfl,b60];simp[hw,hw1,hle,hr,ho,htk,hn]
def zx8(a:List UInt32)(x c:Nat)(ha:a.length<=100000)(hx:x<4294967296)(hc:c<4294967296):Zb T 100 [.sl (Za a) .an,u32 x,u32 c]=some (.sl (Za (ofN (val a*x+c))) .an):=by
 obtain⟨m,hm1,hm2,hr⟩:=zl1 (T:=T) [] (List.replicate (a.length+1) 0) a x c hx hc (by simp) (by simp;omega);simp at hr;have hv:val m=val a*x+c:=by
  rw[hm2];have:val ((List.replicate (a.length+1) (0:UInt32)).take a.length)=0:=by rw[List.take_replicate,zaw]
  rw[this,Yah];omega
 have hw:IntKind.wrap .i64 ((a.length:Int)+1)=(a.length:Int)+1:=zab _ (by omega);have hle:(a.length:Int)+1<=4294967296:=by omega
 have hn:=zbe (T:=T) m (by omega);rw[hv]at hn;have htk:List.take (a.length+1) m=m:=Yb (by omega);rw[zaa Zx.h100 rfl,b100];simp[hw,hle,hr,hm1,htk,hn]
end
end Go.Ab