/-
  A calculus of values, boxes and code, and what functions of the program compute, proved in it.
  Conditions: none beyond those that the theorems state. (Part 3.)
-/
import Derived.Test.YthhddiiohgfamaaGreatDoorPart2

set_option linter.unusedSectionVars false
set_option linter.unusedVariables false
set_option linter.unusedSimpArgs false
set_option linter.unnecessarySimpa false
set_option linter.defProp false

namespace Go.Ab
section
open Go.RowKit
theorem zhi(l:List AV)(j:Nat):(wkR l)[j]? = (l[j]?).map wkA:=by
 induction l generalizing j with
 | nil=>simp[wkR]
 | cons c l ih=>cases j<;>simp[wkR,ih]
theorem zhj(l:List AV):(wkR l).length=l.length:=by
 induction l with
 | nil=>rfl
 | cons c l ih=>simp[wkR,ih]
theorem zhk(l:List AV):wkR l=l.map wkA:=by
 induction l with
 | nil=>rfl
 | cons c l ih=>simp[wkR,ih]
theorem zbw(l:List (List AV)):wkL l=l.map wkR:=by
 induction l with
 | nil=>rfl
 | cons c l ih=>simp[wkL,ih]
theorem zud(l:List (List AV))(j:Nat):(wkL l)[j]? = (l[j]?).map wkR:=by rw[zbw];simp
theorem zj9(l:List (List AV)):(wkL l).length=l.length:=by rw[zbw];simp
section
variable{w:World}{S:Nat->Nat->Prop}{M M':Map}{clk clk':Nat}
def CP.wk{v:Value}{x:AV}(h:CP w S v x):CP w S v (wkA x):=by
 induction h with
 | i k n=>exact .i k n
 | b x=>exact .b x
 | s l=>exact .s l
 | raw v=>exact .raw v
 | dead v=>exact .dead v
 | agg vs cs hl h1 _ ih=>
  refine .agg vs _ (by rw[zhj];omega) h1 fun j v c hv hc=>?_
  grind[zhi]
 | tup vs cs hl _ ih=>
  refine .tup vs _ (by rw[zhj];omega) fun j v c hv hc=>?_
  grind[zhi]
 | slnil f hf=>exact .slnil _ (.inr rfl)
 | slz a f hf=>exact .slz a _ (.inr rfl)
 | sl blk off z cap els f u hf hfull hcap hmax hz hSc _ ih=>
  rw[<-zj9 els];refine .sl blk off z cap _ _ u (by grind) (by grind) (by rw[zj9];omega) hmax (fun i r hr=>?_) (fun i j hi hj=>hSc i j (by rw[zj9]at hi;omega) hj) fun i r j c hr hc=>?_
  ·grind[zud,zhj]
  grind[zud,zhi]
 | ep blk off cs o u hSc _ ih=>exact .ep blk off cs o u hSc ‹_›
 | fnv f v x _ ih=>exact .fnv f v _ ih
def C.wk{v:Value}{x:AV}(h:C w S M clk v x):C w S M clk v (wkA x):=by
 induction h with
 | p h=>exact .p h.wk
 | bs id g z off n v hg h h1=>exact .bs id g z off n v hg h h1
 | ptr id g z i o v hg h h1=>exact .ptr id g z i o v hg h h1
 | agg vs cs hl h1 _ ih=>
  refine .agg vs _ (by rw[zhj];omega) h1 fun j v c hv hc=>?_
  grind[zhi]
 | tup vs cs hl _ ih=>
  refine .tup vs _ (by rw[zhj];omega) fun j v c hv hc=>?_
  grind[zhi]
 | ifc t v x h _=>exact .ifc t v x h
 | fnp f id g z i o v hg h h1=>exact .fnp f id g z i o v hg h h1
theorem CP.wkIf{v:Value}{x:AV}(ex:Bool)(h:CP w S v x):CP w S v (wkIf ex x):=by
 unfold Go.Ab.wkIf;split
 ·exact h
 ·exact h.wk
theorem C.wkIf{v:Value}{x:AV}(ex:Bool)(h:C w S M clk v x):C w S M clk v (wkIf ex x):=by
 unfold Go.Ab.wkIf;split
 ·exact h
 ·exact h.wk
structure Rlb (M M':Map) (clk clk':Nat) (σ:Nat->Nat):Prop where
 fwd:∀g,g<clk->(M' (σ g)=M g\/M' (σ g)=none)/\σ g<clk'
theorem C.rlC{v:Value}{x:AV}{σn:BId->BId}{σg:Nat->Nat}(hr:Rlb M M' clk clk' σg)(h:C w S M clk v x):C w S M' clk' v (rlC σn σg x):=by
 cases h with
 | p h=>
  cases h with
  | i k n=>exact .p (.i k n)
  | b x=>exact .p (.b x)
  | s l=>exact .p (.s l)
  | raw v=>exact .p (.raw v)
  | dead v=>exact .p (.dead v)
  | agg=>exact .p (.dead _)
  | tup=>exact .p (.dead _)
  | slnil f hf=>exact .p (.slnil f hf)
  | slz a f hf=>exact .p (.slz a f hf)
  | sl blk off z cap els f u h1 h2 h3 h4 h5 h6 h7=>exact .p (.sl blk off z cap els f u h1 h2 h3 h4 h5 h6 h7)
  | ep blk off cs o u h1 h2=>exact .p (.ep blk off cs o u h1 h2)
  | fnv f v x h=>exact .p (.fnv f v x h)
 | bs id g z off n v hg h h1=>
  obtain⟨h2,h3⟩:=hr.fwd g hg;refine .bs _ _ _ _ _ _ h3 ?_ h1;rcases h2 with h2 | h2<;>rw[h2]
  ·exact h
  ·trivial
 | ptr id g z i o v hg h h1=>
  obtain⟨h2,h3⟩:=hr.fwd g hg;refine .ptr _ _ _ _ _ _ h3 ?_ h1;rcases h2 with h2 | h2<;>rw[h2]
  ·exact h
  ·trivial
 | fnp f id g z i o v hg h h1=>
  obtain⟨h2,h3⟩:=hr.fwd g hg;refine .fnp _ _ _ _ _ _ _ h3 ?_ h1;rcases h2 with h2 | h2<;>rw[h2]
  ·exact h
  ·trivial
 | agg vs cs=>exact .p (.dead _)
 | tup vs cs=>exact .p (.dead _)
 | ifc t v x=>exact .p (.dead _)
theorem getElem?_mapped{α β:Type}{l:List α}{f:α->β}{j:Nat}{y:β}(h:(l.map f)[j]? = some y):∃x,l[j]? = some x/\y=f x:=by
 grind
theorem C.rl1{v:Value}{x:AV}{σn:BId->BId}{σg:Nat->Nat}(hr:Rlb M M' clk clk' σg)(h:C w S M clk v x):C w S M' clk' v (rl1 σn σg x):=by
 cases x
 case agg cs=>
  obtain⟨vs,rfl,hl,h1,hc⟩:=h.inv_agg;refine .agg vs _ (by grind) h1 fun j v c hv hcj=>?_
  grind[rlC]
 all_goals exact h.rlC (σn:=σn) hr
def C.rlA{v:Value}{x:AV}{σn:BId->BId}{σg:Nat->Nat}(hr:Rlb M M' clk clk' σg)(h:C w S M clk v x):C w S M' clk' v (rlA σn σg x):=by
 cases x
 case tup cs=>
  obtain⟨vs,rfl,hl,hc⟩:=h.inv_tup;refine .tup vs _ (by grind) fun j v c hv hcj=>?_
  grind[rl1]
 all_goals exact h.rl1 (σn:=σn) hr
def Zbt.rl{bx:Box}{ex:Bool}{σn:BId->BId}{σg:Nat->Nat}(hr:Rlb M M' clk clk' σg)(hM:M' (σg bx.gen)=M bx.gen)(h:Zbt w S M clk bx):Zbt w S M' clk' (Zaa ex σn σg bx):=by
 obtain⟨h1,h2,m,hm,h3⟩:=h
 -- each row of the new box
 have row:∀(i:Nat) (r:List AV),(Zaa ex σn σg bx).els[i]? = some r->∃r0,bx.els[i]? = some r0/\r.length=r0.length/\∀(j:Nat) c,r[j]? = some c->∃c0,r0[j]? = some c0 /\
   ((bx.kind=.str/\c=Go.Ab.rlC σn σg (wkIf ex c0))\/(bx.kind≠.str/\c=wkIf ex c0)):=by
  grind[Zaa,getElem?_mapped,wkIf,zbw,zhk]
 have hlen:(Zaa ex σn σg bx).els.length=bx.els.length:=by
  grind[Zaa,zj9]
 refine⟨(hr.fwd _ h1).2,fun r hrm=>?_,m,by rw[<-hm];exact hM,?_⟩
 ·obtain⟨i,hi⟩:=Yae hrm;obtain⟨r0,h4,h5,_⟩:=row i r hi;rw[h5];exact h2 r0 (Yc h4)
 ·cases m with
  | none=>
   grind[Zaa]
  | some k=>
   have hkk:(Zaa ex σn σg bx).kind=bx.kind:=rfl;by_cases hmp:bx.kind=.mp
   ·obtain⟨es,c,h4,h5,h7⟩:=ckP' hmp h3;refine ckP (hkk.trans hmp) ⟨es,c,h4,?_,h7⟩;have hels:(Zaa ex σn σg bx).els=if ex then bx.els else wkL bx.els:=by simp[Zaa,hmp]
    rw[hels];cases ex with
    | true=>simpa using h5
    | false=>
     have h8:=Zd1.map (f:=wkA) (fun v x hv=>CP.wk hv) h5;simp only[Yad,if_false,zbw]
     rwa [show wkR=fun r:List AV=>r.map wkA from funext zhk]
   obtain⟨arr,e,h4,h5,h6,h7,h8⟩:=ck' hmp h3;refine ck (by rw[hkk];exact hmp) ⟨arr,e,h4,by rw[hlen];exact h5,fun i r j c hi hj=>?_,h7,by rw[hlen];exact h8⟩;obtain⟨r0,h9,h10,h11⟩:=row i r hi;obtain⟨c0,h12,h13⟩:=h11 j c hj;obtain⟨u,hu,ho,hC,hP⟩:=h6 i r0 j c0 h9 h12;refine⟨u,hu,ho,?_,fun hk=>?_⟩
   ·rcases h13 with ⟨hk,rfl⟩ | ⟨hk,rfl⟩
    ·exact(hC.wkIf ex).rlC hr
    ·exact .p ((hP hk).wkIf ex)
   ·rcases h13 with ⟨hk',rfl⟩ | ⟨hk',rfl⟩
    ·exact absurd hk' hk
    ·exact(hP hk).wkIf ex
def HeapRel.rl{h h2:Heap}{ex:Bool}{σn:BId->BId}{σg:Nat->Nat}{D:Nat->Prop}(hr:Rlb M M' clk clk' σg)(hh:HeapRel w S M clk h)
  (h1:∀b' bx',h2.lookup b'=some bx'->∃b bx,h.lookup b=some bx/\bx'=Zaa ex σn σg bx/\M' (σg bx.gen)=M bx.gen/\b'=σn b/\D bx.gen)
  (h3:∀g' m,M' g'=some m->∃b' bx',h2.lookup b'=some bx'/\bx'.gen=g')
  (h4:∀g1 g2,D g1->D g2->σg g1=σg g2->g1=g2)
  (h5:∀g' m,M' g'=some m->∃g,M g=some m/\σg g=g'):HeapRel w S M' clk' h2:=by
 refine⟨fun b' bx' hb=>?_,h3,fun b1 x1 b2 x2 hb1 hb2 hg=>?_,fun g g' k hg hg'=>?_⟩
 ·obtain⟨b,bx,h6,rfl,h7,_⟩:=h1 b' bx' hb;exact(hh.box b bx h6).rl hr h7
 ·obtain⟨c1,y1,h6,rfl,_,rfl,d1⟩:=h1 b1 x1 hb1;obtain⟨c2,y2,h8,rfl,_,rfl,d2⟩:=h1 b2 x2 hb2;rw[hh.gens _ _ _ _ h6 h8 (h4 _ _ d1 d2 hg)]
 ·obtain⟨g1,h6,rfl⟩:=h5 _ _ hg;obtain⟨g2,h7,rfl⟩:=h5 _ _ hg';rw[hh.inj _ _ _ h6 h7]
def WRel.rl{cx:Cx}{h h2:Heap}{ex:Bool}{σn:BId->BId}{σg:Nat->Nat}{D:Nat->Prop}(hr:Rlb M M' clk clk' σg)(hw:WRel cx S M clk h w)(hc:cx.clk0<=clk')
  (h0:∀g m,g<cx.clk0->M' g=some m->M g=some m)
  (h1:∀b' bx',h2.lookup b'=some bx'->∃b bx,h.lookup b=some bx/\bx'=Zaa ex σn σg bx/\M' (σg bx.gen)=M bx.gen/\b'=σn b/\D bx.gen)
  (h3:∀g' m,M' g'=some m->∃b' bx',h2.lookup b'=some bx'/\bx'.gen=g')
  (h4:∀g1 g2,D g1->D g2->σg g1=σg g2->g1=g2)
  (h5:∀g' m,M' g'=some m->∃g,M g=some m/\σg g=g'):WRel cx S M' clk' h2 w:=
 ⟨hw.heap.rl hr h1 h3 h4 h5,⟨hw.ext.hS,hw.ext.hcell,hc,fun g m hg hm=>hw.ext.hM g m hg (h0 g m hg hm),fun g k arr e hg hm hb=>hw.ext.hblk g k arr e hg (h0 g _ hg hm) hb⟩,hw.fr,hw.Snew,hw.Slt,
  fun g k hm=>let ⟨g1,h6,_⟩:=h5 g _ hm;hw.Mnew g1 k h6⟩
end
end
section
open Go.RowKit
section
variable{α β:Type}{P:Program}{K:St->Prop}
@[simp] def z7h(t d:Nat)(x:AV)(e:Env):Env.get ((d,x)::e) t=if t=d then x else e.get t:=by
 simp only[Env.get,Yas];by_cases h:t=d
 ·subst h;simp
 ·have:(t == d)=false:=by simpa using h
  simp[this,h]
@[simp] def zaap(t:Nat):Env.get [] t=.dead:=rfl
@[simp] def z7i{st:St}:Zdd P [] st K↔K st:=Iff.rfl
@[simp] def z33{o:AO}{l:List AO}{st:St}:Zdd P (o::l) st K↔Zgx P o st fun st'=>Zdd P l st' K:=Iff.rfl
@[simp] def z15{d:Option Nat}{op:AOp}{st:St}:Zgx P ⟨d,none,op⟩ st K↔opK P op d st K:=Iff.rfl
@[simp] def z34(e:Env)(x:AV):Ze e none x=e:=rfl
@[simp] def z35(e:Env)(d:Nat)(x:AV):Ze e (some d) x=(d,x)::e:=rfl
@[simp] def ev_t(e:Nat->AV)(n:Nat):ev e (.t n)=e n:=rfl
@[simp] def ev_c(e:Nat->AV)(x:AV):ev e (.c x)=x:=rfl
@[simp] def zy2{N:St->Prop}{Q:Exit->St->Prop}{st:St}:Zh4 N Q .normal st↔N st:=Iff.rfl
@[simp] def z16{N:St->Prop}{Q:Exit->St->Prop}{st:St}{id:Nat}:Zh4 N Q (.exit id) st↔Q (.exit id) st:=Iff.rfl
@[simp] def z36{N:St->Prop}{Q:Exit->St->Prop}{st:St}:Zh4 N Q .ret st↔Q .ret st:=Iff.rfl
@[simp] def zw4{id:Nat}{Q:Exit->St->Prop}{st:St}:Zd5 id Q .normal st↔Q .normal st:=Iff.rfl
@[simp] def z17{id:Nat}{Q:Exit->St->Prop}{st:St}:Zd5 id Q .ret st↔Q .ret st:=Iff.rfl
@[simp] def zz1{id id':Nat}{Q:Exit->St->Prop}{st:St}:Zd5 id Q (.exit id') st↔if id'=id then Q .normal st else Q (.exit id') st:=Iff.rfl
def gK(P:Program)(x:AV)(want:Bool)(op:AOp)(d:Option Nat)(st:St)(K:St->Prop):Prop:=
 match x with
 | .b v=>if v=want then opK P op d st K else K ⟨Ze st.env d (.tup []),st.heap,st.clk⟩
 | .tup _=>K ⟨Ze st.env d (.tup []),st.heap,st.clk⟩
 | _=>False
@[simp] def z18{d:Option Nat}{op:AOp}{t:Nat}{want:Bool}{st:St}:Zgx P ⟨d,some (t,want),op⟩ st K↔gK P (st.env.get t) want op d st K:=by
 rfl
@[simp] def gK_b{v want:Bool}{op:AOp}{d:Option Nat}{st:St}:gK P (.b v) want op d st K↔if v=want then opK P op d st K else K ⟨Ze st.env d (.tup []),st.heap,st.clk⟩:=Iff.rfl
@[simp] def zafm{vs:List AV}{want:Bool}{op:AOp}{d:Option Nat}{st:St}:gK P (.tup vs) want op d st K↔K ⟨Ze st.env d (.tup []),st.heap,st.clk⟩:=Iff.rfl
@[simp] def zaaq{z n:Nat}{zs:List AV}{ps:List (Nat×Opd)}{d:Option Nat}{st:St}:opK P (.bsl z zs n ps) d st K↔okK (Zds z zs n st.heap (ps.map fun p=>(p.1,ev st.env.get p.2))) fun q=>K ⟨Ze st.env d q.1,q.2,st.clk⟩:=Iff.rfl
@[simp] def zaar{x}{d:Option Nat}{st:St}:opK P (.mov x) d st K↔okK (Zi (.mov x) st.env.get st.heap) fun x=>K ⟨Ze st.env d x,st.heap,st.clk⟩:=Iff.rfl
@[simp] def z7j{c a b}{d:Option Nat}{st:St}:opK P (.pick c a b) d st K↔okK (Zi (.pick c a b) st.env.get st.heap) fun x=>K ⟨Ze st.env d x,st.heap,st.clk⟩:=Iff.rfl
@[simp] def z38{zs ps}{d:Option Nat}{st:St}:opK P (.build zs ps) d st K↔okK (Zi (.build zs ps) st.env.get st.heap) fun x=>K ⟨Ze st.env d x,st.heap,st.clk⟩:=Iff.rfl
@[simp] def z7k{n x}{d:Option Nat}{st:St}:opK P (.load n x) d st K↔okK (Zi (.load n x) st.env.get st.heap) fun x=>K ⟨Ze st.env d x,st.heap,st.clk⟩:=Iff.rfl
@[simp] def zaas{o x y}{d:Option Nat}{st:St}:opK P (.bin o x y) d st K↔okK (Zi (.bin o x y) st.env.get st.heap) fun x=>K ⟨Ze st.env d x,st.heap,st.clk⟩:=Iff.rfl
@[simp] def zaat{g ls x y}{d:Option Nat}{st:St}:opK P (.eqs g ls x y) d st K↔okK (Zi (.eqs g ls x y) st.env.get st.heap) fun x=>K ⟨Ze st.env d x,st.heap,st.clk⟩:=Iff.rfl
@[simp] def z39{g x}{d:Option Nat}{st:St}:opK P (.eqnil g x) d st K↔okK (Zi (.eqnil g x) st.env.get st.heap) fun x=>K ⟨Ze st.env d x,st.heap,st.clk⟩:=Iff.rfl
@[simp] def zaau{g x y}{d:Option Nat}{st:St}:opK P (.eqb g x y) d st K↔okK (Zi (.eqb g x y) st.env.get st.heap) fun x=>K ⟨Ze st.env d x,st.heap,st.clk⟩:=Iff.rfl
@[simp] def zafn{o x}{d:Option Nat}{st:St}:opK P (.un o x) d st K↔okK (Zi (.un o x) st.env.get st.heap) fun x=>K ⟨Ze st.env d x,st.heap,st.clk⟩:=Iff.rfl
@[simp] def z7l{k x}{d:Option Nat}{st:St}:opK P (.conv k x) d st K↔okK (Zi (.conv k x) st.env.get st.heap) fun x=>K ⟨Ze st.env d x,st.heap,st.clk⟩:=Iff.rfl
@[simp] def zaav{z x lo hi mx}{d:Option Nat}{st:St}:opK P (.slc z x lo hi mx) d st K↔okK (Zi (.slc z x lo hi mx) st.env.get st.heap) fun x=>K ⟨Ze st.env d x,st.heap,st.clk⟩:=Iff.rfl
@[simp] def z4a{x lo hi}{d:Option Nat}{st:St}:opK P (.slstr x lo hi) d st K↔okK (Zi (.slstr x lo hi) st.env.get st.heap) fun x=>K ⟨Ze st.env d x,st.heap,st.clk⟩:=Iff.rfl
@[simp] def zaaw{n x}{d:Option Nat}{st:St}:opK P (.fad n x) d st K↔okK (Zi (.fad n x) st.env.get st.heap) fun x=>K ⟨Ze st.env d x,st.heap,st.clk⟩:=Iff.rfl
@[simp] def zaax{o n x}{d:Option Nat}{st:St}:opK P (.fld o n x) d st K↔okK (Zi (.fld o n x) st.env.get st.heap) fun x=>K ⟨Ze st.env d x,st.heap,st.clk⟩:=Iff.rfl
@[simp] def zaay{z x i}{d:Option Nat}{st:St}:opK P (.iad z x i) d st K↔okK (Zi (.iad z x i) st.env.get st.heap) fun x=>K ⟨Ze st.env d x,st.heap,st.clk⟩:=Iff.rfl
@[simp] def zaaz{z n x i}{d:Option Nat}{st:St}:opK P (.iaa z n x i) d st K↔okK (Zi (.iaa z n x i) st.env.get st.heap) fun x=>K ⟨Ze st.env d x,st.heap,st.clk⟩:=Iff.rfl
@[simp] def zaa0{x i}{d:Option Nat}{st:St}:opK P (.ixs x i) d st K↔okK (Zi (.ixs x i) st.env.get st.heap) fun x=>K ⟨Ze st.env d x,st.heap,st.clk⟩:=Iff.rfl
@[simp] def zaa1{z l n x i}{d:Option Nat}{st:St}:opK P (.ixa z l n x i) d st K↔okK (Zi (.ixa z l n x i) st.env.get st.heap) fun x=>K ⟨Ze st.env d x,st.heap,st.clk⟩:=Iff.rfl
@[simp] def zaa2{x}{d:Option Nat}{st:St}:opK P (.len x) d st K↔okK (Zi (.len x) st.env.get st.heap) fun x=>K ⟨Ze st.env d x,st.heap,st.clk⟩:=Iff.rfl
@[simp] def z7m{x}{d:Option Nat}{st:St}:opK P (.lens x) d st K↔okK (Zi (.lens x) st.env.get st.heap) fun x=>K ⟨Ze st.env d x,st.heap,st.clk⟩:=Iff.rfl
@[simp] def z7n{n}{d:Option Nat}{st:St}:opK P (.lenc n) d st K↔okK (Zi (.lenc n) st.env.get st.heap) fun x=>K ⟨Ze st.env d x,st.heap,st.clk⟩:=Iff.rfl
@[simp] def zafo{m xs}{d:Option Nat}{st:St}:opK P (.mm m xs) d st K↔okK (Zi (.mm m xs) st.env.get st.heap) fun x=>K ⟨Ze st.env d x,st.heap,st.clk⟩:=Iff.rfl
@[simp] def zaa3{x n}{d:Option Nat}{st:St}:opK P (.ext x n) d st K↔okK (Zi (.ext x n) st.env.get st.heap) fun x=>K ⟨Ze st.env d x,st.heap,st.clk⟩:=Iff.rfl
@[simp] def z7o{x}{d:Option Nat}{st:St}:opK P (.nilc x) d st K↔okK (Zi (.nilc x) st.env.get st.heap) fun x=>K ⟨Ze st.env d x,st.heap,st.clk⟩:=Iff.rfl
@[simp] def z4b{zs}{d:Option Nat}{st:St}:opK P (.alloc zs) d st K↔okK (stepW (.alloc zs) d st.env.get st.heap st.clk) fun q=>K ⟨Ze st.env d q.1,q.2.1,q.2.2⟩:=Iff.rfl
@[simp] def z4c{n x v}{d:Option Nat}{st:St}:opK P (.store n x v) d st K↔okK (stepW (.store n x v) d st.env.get st.heap st.clk) fun q=>K ⟨Ze st.env d q.1,q.2.1,q.2.2⟩:=Iff.rfl
@[simp] def zaa4{z zs l c}{d:Option Nat}{st:St}:opK P (.mks z zs l c) d st K↔okK (stepW (.mks z zs l c) d st.env.get st.heap st.clk) fun q=>K ⟨Ze st.env d q.1,q.2.1,q.2.2⟩:=Iff.rfl
@[simp] def zaa5{z x y}{d:Option Nat}{st:St}:opK P (.app z x y) d st K↔okK (stepW (.app z x y) d st.env.get st.heap st.clk) fun q=>K ⟨Ze st.env d q.1,q.2.1,q.2.2⟩:=Iff.rfl
@[simp] def z7p(k:IntKind)(n:Int):Zgm .neg (.i k n)=some (.i k (k.wrap (0-n))):=rfl
@[simp] def z7q(t:Bool):Zgm .not (.b t)=some (.b (!t)):=rfl
attribute [simp] Zi stepW Zgl Zgq Zfs Zjr mmL mm2 Zhe Zha Zer Ze5 Zgo Ze4 Zgn Zhb Zej Zf6 Zg9 eqL evO Zlk Zcl resV Zca Zds Zgv Zhf Zx Zh2 Zhm rowOf Zik
@[simp] def zo4{k:IntKind}{a b:Int}:Z5 .add (.i k a) (.i k b)=some (.i k (k.wrap (a+b))):=by simp[Z5,Zfd]
@[simp] def zo5{k:IntKind}{a b:Int}:Z5 .sub (.i k a) (.i k b)=some (.i k (k.wrap (a-b))):=by simp[Z5,Zfd]
@[simp] def zo6{k:IntKind}{a b:Int}:Z5 .mul (.i k a) (.i k b)=some (.i k (k.wrap (a*b))):=by simp[Z5,Zfd]
@[simp] def zo7{k:IntKind}{a b:Int}:Z5 .quo (.i k a) (.i k b)=if b=0 then none else some (.i k (k.wrap (a.tdiv b))):=by simp[Z5,Zfd]
@[simp] def zo8{k:IntKind}{a b:Int}:Z5 .rem (.i k a) (.i k b)=if b=0 then none else some (.i k (a.tmod b)):=by simp[Z5,Zfd]
@[simp] def zo9{k:IntKind}{a b:Int}:Z5 .eql (.i k a) (.i k b)=some (.b (a == b)):=by simp[Z5,Zfd]
@[simp] def zpa{k:IntKind}{a b:Int}:Z5 .neq (.i k a) (.i k b)=some (.b (a != b)):=by simp[Z5,Zfd]
@[simp] def zpb{k:IntKind}{a b:Int}:Z5 .lss (.i k a) (.i k b)=some (.b (a<b)):=by simp[Z5,Zfd]
@[simp] def zw5{k:IntKind}{a b:Int}:Z5 .leq (.i k a) (.i k b)=some (.b (a<=b)):=by simp[Z5,Zfd]
@[simp] def zpc{k:IntKind}{a b:Int}:Z5 .gtr (.i k a) (.i k b)=some (.b (a > b)):=by simp[Z5,Zfd]
@[simp] def zw6{k:IntKind}{a b:Int}:Z5 .geq (.i k a) (.i k b)=some (.b (a>=b)):=by simp[Z5,Zfd]
@[simp] def z4d{a b:List UInt8}:Z5 .eql (.s a) (.s b)=some (.b (a == b)):=by simp[Z5,Zjq]
@[simp] def z4e{a b:List UInt8}:Z5 .add (.s a) (.s b)=if a.length+b.length<=9223372036854775807 then some (.s (a++b)) else none:=by simp[Z5,Zjq]
def zab(n:Int)(h:-9223372036854775808<=n/\n<9223372036854775808):IntKind.wrap .i64 n=n:=by
 simp[IntKind.wrap,IntKind.signed,IntKind.bits]<;>(omega)<;>omega
end
end
section
open Go.RowKit
section
variable{cx:Cx}{Q:Exit->St->Prop}{st:St}{c:AC}{P:Program}{K:St->Prop}
@[simp] def z19{β:Type}(b b':BId)(x:β)(l:List (BId×β)):List.lookup b ((b',x)::l)=if b=b' then some x else List.lookup b l:=by
 grind
attribute [simp] Zez Zbf Zet Zf9 Zlj
attribute [simp] AOp.writes AOp.free Zf7 Zew
@[simp] def zaib(k:IntKind)(n y:Int):bnd (.i k n) y=if 0<=n/\n<=y then some n.toNat else none:=rfl
def WRel.sub{S:Nat->Nat->Prop}{M:Map}{st st':St}{w:World}(hs:Sub st st')(hr:WRel cx S M st.clk st.heap w):∃Mb,WRel cx S Mb st'.clk st'.heap w/\Ext w S M st.clk w S Mb st'.clk:=by
 classical
 generalize hMb:(fun g=>if Live st'.heap g then M g else none:Map)=Mb;have hMb1:∀g m,Mb g=some m->Live st'.heap g/\M g=some m:=by
  grind
 have hMb2:∀g,Live st'.heap g->Mb g=M g:=by grind
 have hx:Ext w S M st.clk w S Mb st'.clk:=⟨fun _ _ hs=>hs,fun _ _ _ _ hc=>hc,hs.clk,fun g m _ hm=>(hMb1 g m hm).2,fun _ _ arr _ _ _ hb=>⟨arr,hb,rfl⟩⟩;refine⟨Mb,⟨⟨fun b bx hb=>?_,fun g m hm=>(hMb1 g m hm).1,fun b bx b' bx' h1 h2 hg=>?_,fun g g' k h1 h2=>hr.heap.inj _ _ _ (hMb1 _ _ h1).2 (hMb1 _ _ h2).2⟩,hr.ext.trans hx,hr.fr,hr.Snew,hr.Slt,fun g k hm=>hr.Mnew g k (hMb1 _ _ hm).2⟩,hx⟩
 ·obtain⟨bx0,h0,h1⟩:=hs.heap b bx hb;have hl:Live st'.heap bx.gen:=⟨b,bx,hb,rfl⟩;have hbox:=hr.heap.box b bx0 h0;rcases h1 with rfl | ⟨hk,rfl⟩
  ·exact hbox.mono hx (hMb2 _ hl) (fun _ _=>rfl) fun _ _ _ hs=>hs
  ·obtain⟨b1,b2,m,hm,b3⟩:=hbox.mono hx (hMb2 bx0.gen hl) (fun _ _=>rfl) fun _ _ _ hs=>hs;refine⟨b1,b2,m,hm,?_⟩;cases m with
   | none=>exact⟨b3.1,by simp,by simp⟩
   | some k=>
    obtain⟨arr,e,c1,c2,c3,c4,c5⟩:=ck' hk.2 b3;exact ck (by simp) ⟨arr,e,c1,c2,fun i r j c hi hj=>let ⟨u,d1,d2,d3,d4⟩:=c3 i r j c hi hj;⟨u,d1,d2,d3,fun _=>d4 hk.1⟩,fun hne=>absurd rfl hne,c5⟩
 ·obtain⟨bx0,h3,h4⟩:=hs.heap b bx h1;obtain⟨bx0',h5,h6⟩:=hs.heap b' bx' h2;have e1:bx.gen=bx0.gen:=by grind
  have e2:bx'.gen=bx0'.gen:=by grind
  exact hr.heap.gens _ _ _ _ h3 h5 (by rw[<-e1,<-e2,hg])
def Zoc(rs:List RV)(post:AV->Heap->Nat->Prop):Exit->St->Prop:=
 fun ex st=>(ex=.normal\/ex=.ret)/\∃r,Zcl st rs=some r/\∃h' c',Sub ⟨[],st.heap,st.clk⟩ ⟨[],h',c'⟩/\post r h' c'
end
end
section
open Go.RowKit
theorem zc7:∀(l:Heap) (g j:Nat),j<=Zcb l g j/\Zcb l g j<=j+l.length
 | [],g,j=>by simp[Zcb]
 | p::l,g,j=>by
  have:=zc7 l g (j+1);simp only[Zcb,Yg];split<;>omega
theorem zgj:∀(l:Heap) (g j:Nat),(∃p∈l,p.2.gen=g)->Zcb l g j<j+l.length
 | [],g,j,h=>by grind
 | p::l,g,j,h=>by
  simp only[Zcb,Yg];split
  ·omega
  ·obtain⟨q,hq,he⟩:=h;have hq':q∈l:=by
    grind
   have:=zgj l g (j+1) ⟨q,hq',he⟩;omega
theorem zka:∀(l:Heap) (g j:Nat),(¬ ∃p∈l,p.2.gen=g)->Zcb l g j=j+l.length
 | [],g,j,h=>by simp[Zcb]
 | p::l,g,j,h=>by
  simp only[Zcb,Yg];rw[if_neg (fun he=>h ⟨p,Yj,he⟩),zka l g (j+1) fun⟨q,hq,he⟩=>h ⟨q,Yh _ hq,he⟩];omega
theorem zhl:∀(l:Heap) (g g' j:Nat),(∃p∈l,p.2.gen=g)->(∃p∈l,p.2.gen=g')->Zcb l g j=Zcb l g' j->g=g'
 | [],g,g',j,h,_,_=>by obtain⟨p,hp,_⟩:=h;simp at hp
 | p::l,g,g',j,h,h',he=>by
  simp only[Zcb]at he;have low:=zc7 l g (j+1);have low':=zc7 l g' (j+1);split at he<;>split at he
  ·rename_i h1 h2;rw[<-h1,<-h2]
  ·omega
  ·omega
  ·rename_i h1 h2;have tl:∀g,p.2.gen≠g->(∃q∈p::l,q.2.gen=g)->∃q∈l,q.2.gen=g:=by
    intro g hne ⟨q,hq,he⟩;rcases Yn.1 hq with rfl | h
    ·exact absurd he hne
    ·exact⟨q,h,he⟩
   exact zhl l g g' (j+1) (tl g h1 h) (tl g' h2 h') he
def zfe{h:Heap}{ids:List BId}{p:BId×Box}(hp:p∈Zdx h ids):h.lookup p.1=some p.2:=by
 obtain⟨b,_,h2⟩:=List.mem_filterMap.1 hp;cases hb:h.lookup b with
 | none=>grind
 | some bx=>grind
def za2{β γ:Type}[BEq β][LawfulBEq β]:∀(l:List (β×γ)) (b:β) (x:γ),l.lookup b=some x->(b,x)∈l:=by
 intro l b x h
 induction l with
 | nil=>cases h
 | cons p l ih=>
  grind
def zfy{γ:Type}:∀(l:List (BId×γ)) (p:BId×γ),p∈l->∃x,l.lookup p.1=some x:=by
 intro l p h
 induction l with
 | nil=>cases h
 | cons q l ih=>
  obtain⟨q1,q2⟩:=q;by_cases hb:p.1=q1
  ·simp_all
  grind
def zl0{h:Heap}{ids:List BId}{p:BId×Box}(hp:p∈Zdx h ids):(Zdx h ids).lookup p.1=some p.2:=by
 obtain⟨x,hx⟩:=zfy _ _ hp;have h1:=zfe (za2 _ _ _ hx);rw[zfe hp]at h1
 grind
def zn1(live:List Nat)(f:Nat->AV)(t:Nat):(live.map fun t=>(t,f t)).lookup t=if t∈live then some (f t) else none:=by
 induction live with
 | nil=>simp
 | cons s l ih=>
  grind
section
variable{cx:Cx}{st:St}{a:Act}{w:World}
def zpj{k:Nat}{hp:Heap}{g g':Nat}(h:∃p∈hp,p.2.gen=g)(h':∃p∈hp,p.2.gen=g')(he:Zci k hp g=Zci k hp g'):g=g':=by
 grind[Zci,zc7,zhl]
def Rel.norm{ex:Bool}{k:Nat}{live:List Nat}(hk:cx.clk0=k+1)(hr:Rel cx st a w):Rel cx (Zcu ex k live st) a w:=by
 obtain⟨S,M,hr⟩:=hr;generalize hids:Zfk st.heap 40 (Zk4 k++(live.map fun t=>(t,st.env.get t)).flatMap fun p=>rfA p.2) []=ids;generalize hhp:Zdx st.heap ids=hp;have hn:Zcu ex k live st=⟨(live.map fun t=>(t,st.env.get t)).map fun p=>(p.1,rlA id (Zci k hp) (wkIf ex p.2)),hp.map fun p=>(p.1,Zaa ex id (Zci k hp) p.2),k+hp.length+2⟩:=by
  rw[<-hhp,<-hids];rfl
 have hlk:∀b bx,hp.lookup b=some bx->st.heap.lookup b=some bx:=by
  intro b bx hb;have:=za2 _ _ _ hb;rw[<-hhp]at this;exact zfe this
 have hml:∀p∈hp,hp.lookup p.1=some p.2:=by
  intro p hm;rw[<-hhp]at hm ⊢;exact zl0 hm
 classical
 generalize hM':(fun g'=>if h:∃g,(∃p∈hp,p.2.gen=g)/\Zci k hp g=g' then M (Classical.choose h) else none:Map)=M';have hM1:∀g,(∃p∈hp,p.2.gen=g)->M' (Zci k hp g)=M g:=by
  intro g hg;rw[<-hM'];have h:∃g0,(∃p∈hp,p.2.gen=g0)/\Zci k hp g0=Zci k hp g:=⟨g,hg,rfl⟩;simp only[dif_pos h];rw[zpj (Classical.choose_spec h).1 hg (Classical.choose_spec h).2]
 have hM2:∀g' m,M' g'=some m->∃g,(∃p∈hp,p.2.gen=g)/\Zci k hp g=g'/\M g=some m:=by
  grind
 have hrl:Rlb M M' st.clk (k+hp.length+2) (Zci k hp):=by
  refine⟨fun g hg=>⟨?_,?_⟩⟩
  ·by_cases hin:∃p∈hp,p.2.gen=g
   ·grind
   ·right;cases hm:M' (Zci k hp g) with
    | none=>rfl
    | some m=>
     obtain⟨g1,h1,h2,_⟩:=hM2 _ _ hm;have hlt:=zgj hp g1 (k+1) h1
     grind[zka,zc7,Zci]
  grind[zc7,Zci]
 have hw:=hr.wr;refine⟨S,M',?_⟩;rw[hn];refine⟨hr.size,hr.defers,fun t=>?_,?_⟩
 ·rw[Ybm];have e1:Env.get (live.map fun t=>(t,rlA id (Zci k hp) (wkIf ex (st.env.get t)))) t=(if t∈live then some (rlA id (Zci k hp) (wkIf ex (st.env.get t))) else none).getD .dead:=by
   rw[<-zn1 live (fun t=>rlA id (Zci k hp) (wkIf ex (st.env.get t)))];rfl
  show C w S M' _ _ (Env.get (live.map fun t=>(t,rlA id (Zci k hp) (wkIf ex (st.env.get t)))) t);rw[e1];split
  ·exact((hr.env t).wkIf ex).rlA hrl
  ·exact .p (.dead _)
 ·refine hw.rl (ex:=ex) (σn:=id) (σg:=Zci k hp) (D:=fun g=>∃p∈hp,p.2.gen=g) hrl (by grind) (fun g m hg hm=>?_) (fun b' bx' hb=>?_) (fun g' m hm=>?_) (fun g1 g2 hd1 hd2 hg=>?_) (fun g' m hm=>?_)
  ·grind[zc7,Zci]
  ·rw[zee (fun _ bx=>Zaa ex id (Zci k hp) bx) b' hp]at hb;obtain⟨bx,h1,rfl⟩:=map_some hb;exact⟨b',bx,hlk _ _ h1,rfl,hM1 _ ⟨_,za2 _ _ _ h1,rfl⟩,rfl,⟨_,za2 _ _ _ h1,rfl⟩⟩
  ·obtain⟨g1,⟨p,h1,h1'⟩,h2,h3⟩:=hM2 _ _ hm;refine⟨p.1,Zaa ex id (Zci k hp) p.2,?_,by show Zci k hp p.2.gen=g';grind⟩;rw[zee (fun _ bx=>Zaa ex id (Zci k hp) bx) p.1 hp,hml p h1]
   rfl
  ·exact zpj hd1 hd2 hg
  grind
def Rel.nil(t:Nat)(id:BId)(z:Nat)(hx:st.env.get t=.sl [] .nl)(hr0:Rel cx st a w):Rel cx ⟨(t,.bs id st.clk z 0 0)::st.env,(id,⟨st.clk,.own,z,[]⟩)::st.heap,st.clk+1⟩ a w:=by
 obtain⟨S,M,hr⟩:=hr0;refine⟨S,Zch M ((id,⟨st.clk,.own,z,[]⟩)::st.heap) st.clk none,?_⟩;have h1:=hr.set (id:=id) (bx':=⟨st.clk,.own,z,[]⟩) (k':=none) (touched:=none) (clk':=st.clk+1) (Ybf _) (.inl rfl) (fun hlt=>absurd hlt (Ya6 _)) (Touch.of_below (Below.refl _ _)) (fun k hk=>by grind)
  ⟨Y1 _,fun r hr=>by grind,none,zam _ _ _ _,rfl,by simp⟩
 refine⟨h1.size,h1.defers,fun t'=>?_,h1.wr⟩;have e1:Env.get ((t,AV.bs id st.clk z 0 0)::st.env)=upd st.env.get (some t) (.bs id st.clk z 0 0):=zbt st.env (some t) _;rw[e1];simp only[upd];split
 ·rename_i ht;subst ht;have hv:=hr.env t';rw[hx]at hv;have hv2:a.tmps.getD t' undef=.slice none 0 0:=by
   rcases hv.inv_sl.inv_sl with ⟨_,b0,hv,_,hb2⟩ | ⟨_,_,_,_,_,_,hf,_⟩
   all_goals grind
  rw[hv2];refine .bs _ _ _ _ _ _ (Y1 _) ?_ rfl
  grind[Zfc,zam]
 ·exact h1.env t'
def Rel.shr(t:Nat){y:AV}(hy:frz st.heap (st.env.get t)=some y)(hr0:Rel cx st a w):Rel cx ⟨st.env,Zx (refs (st.env.get t)) st.heap,st.clk⟩ a w:=by
 obtain⟨S,M,hr⟩:=hr0;exact⟨_,M,hr.share (refs (st.env.get t)) (zc6 hy)⟩
def Rel.frz(t:Nat){y:AV}(hy:frz st.heap (st.env.get t)=some y)(hr0:Rel cx st a w):Rel cx ⟨(t,y)::st.env,Zx (refs (st.env.get t)) st.heap,st.clk⟩ a w:=by
 obtain⟨S,M,hr⟩:=hr0;have hk:=zc6 hy;refine⟨Zbm st.heap M (refs (st.env.get t)) S,M,?_⟩;have h1:=hr.share (refs (st.env.get t)) hk;refine⟨h1.size,h1.defers,fun t'=>?_,h1.wr⟩;have e1:Env.get ((t,y)::st.env)=upd st.env.get (some t) y:=zbt st.env (some t) _;rw[e1];simp only[upd];split
 ·rename_i ht;subst ht;exact .p (zsw hr.wr.heap (hr.env t') hy fun id hid=>hid)
 ·exact h1.env t'
def Rel.fld(b id:BId)(z i o:Nat){bx:Box}{r:List AV}(hb:st.heap.lookup b=some bx)(hk:bx.kind=.str)(hi:bx.els[i]? = some r)(ho:r[o]? = some (.sl [] .nl))(hid:st.heap.lookup id=none)(hr0:Rel cx st a w):Rel cx ⟨st.env,(b,{ bx with els:=bx.els.set i (r.set o (.bs id st.clk z 0 0)) })::(id,⟨st.clk,.own,z,[]⟩)::st.heap,st.clk+1⟩ a w:=by
 obtain⟨S,M,hr⟩:=hr0;refine⟨S,Zch M ((id,⟨st.clk,.own,z,[]⟩)::st.heap) st.clk none,?_⟩;have h1:=hr.set (id:=id) (bx':=⟨st.clk,.own,z,[]⟩) (k':=none) (touched:=none) (clk':=st.clk+1) (Ybf _) (.inl rfl) (fun hlt=>absurd hlt (Ya6 _)) (Touch.of_below (Below.refl _ _)) (fun k hk=>by grind)
  ⟨Y1 _,fun r hr=>by grind,none,zam _ _ _ _,rfl,by simp⟩
 have hb1:List.lookup b ((id,(⟨st.clk,.own,z,[]⟩:Box))::st.heap)=some bx:=by grind
 have hw:=h1.wr;generalize hM':Zch M ((id,⟨st.clk,.own,z,[]⟩)::st.heap) st.clk none=M' at *
 have hself:M' st.clk=some none:=by rw[<-hM'];exact zam _ _ _ _
 generalize hbx':({ bx with els:=bx.els.set i (r.set o (.bs id st.clk z 0 0)) }:Box)=bx' at *
 have hgen:bx'.gen=bx.gen:=by grind
 have hz:bx'.z=bx.z:=by grind
 have hkk:bx'.kind=bx.kind:=by grind
 have hbox:Zbt w S M' (st.clk+1) bx':=by
  obtain⟨b1,b2,m,hm1,b3⟩:=hw.heap.box b bx hb1;refine⟨by omega,fun r' hr'=>?_,m,by grind,?_⟩
  ·grind
  ·cases m with
   | none=>
    grind
   | some k=>
    have hmp:bx.kind≠.mp:=by rw[hk];simp
    obtain⟨arr,e,hh,hsz,hcc,hns,hlt⟩:=ck' hmp b3;refine ck (by rw[hkk];exact hmp) ⟨arr,e,hh,by grind,fun i' r' j c' hi' hj=>?_,by grind,by grind⟩;rw[<-hbx']at hi';simp only[List.getElem?_set]at hi';rw[hz,hkk];split at hi'
    ·rename_i hii;subst hii;split at hi'
     ·cases hi';rw[List.getElem?_set]at hj;split at hj
      ·rename_i hjo;subst hjo;split at hj
       ·cases hj;obtain⟨u,hu,hu1,hC,hP⟩:=hcc i r o _ hi ho;refine⟨u,hu,hu1,?_,fun hne'=>absurd hk hne'⟩;have hv2:u=.slice none 0 0:=by
         rcases hC.inv_sl.inv_sl with ⟨_,b0,hv,_,hb2⟩ | ⟨_,_,_,_,_,_,hf,_⟩
         all_goals grind
        rw[hv2];refine .bs _ _ _ _ _ _ (Y1 _) ?_ rfl
        grind[Zfc]
       grind
      grind
     grind
    grind
 have to:∀q x,List.lookup q ((b,bx')::(id,(⟨st.clk,.own,z,[]⟩:Box))::st.heap)=some x->∃x0,List.lookup q ((id,(⟨st.clk,.own,z,[]⟩:Box))::st.heap)=some x0/\x0.gen=x.gen:=by
  grind
 refine⟨h1.size,h1.defers,h1.env,⟨⟨fun q x hq=>?_,fun g m hm=>?_,fun q1 x1 q2 x2 hq1 hq2 hg=>?_,hw.heap.inj⟩,hw.ext,hw.fr,hw.Snew,hw.Slt,hw.Mnew⟩⟩
 ·by_cases hqb:q=b
  ·grind
  ·rw[zba _ _ hqb]at hq;exact hw.heap.box q x hq
 ·obtain⟨q,x,hq,hg⟩:=hw.heap.live g m hm;by_cases hqb:q=b
  ·grind[zbr]
  ·exact⟨q,x,by grind,hg⟩
 ·obtain⟨y1,hy1,e1⟩:=to q1 x1 hq1;obtain⟨y2,hy2,e2⟩:=to q2 x2 hq2;exact hw.heap.gens _ _ _ _ hy1 hy2 (by rw[e1,e2,hg])
def Rel.str(b:BId){bx:Box}{r:List AV}{i:Nat}(hb:st.heap.lookup b=some bx)(hk:bx.kind≠.sh)(hmp:bx.kind≠.mp)(hi:bx.els[i]? = some r)(hr0:Rel cx st a w):Rel cx ⟨st.env,(b,{ bx with kind:=.str })::st.heap,st.clk⟩ a w:=by
 obtain⟨S,M,hr⟩:=hr0;refine⟨S,M,?_⟩;have hw:=hr.wr;generalize hbx':({ bx with kind:=.str }:Box)=bx' at *
 have hgen:bx'.gen=bx.gen:=by grind
 have hbox:Zbt w S M st.clk bx':=by
  obtain⟨b1,b2,m,hm1,b3⟩:=hw.heap.box b bx hb;refine⟨by omega,by grind,m,by grind,?_⟩;cases m with
  | none=>grind
  | some k=>
   obtain⟨arr,e,hh,hsz,hcc,hns,hlt⟩:=ck' hmp b3;refine ck (by rw[<-hbx'];simp) ⟨arr,e,hh,by grind,fun i' r' j c' hi' hj=>?_,by grind,by grind⟩;obtain⟨u,h1,h2,h3,h4⟩:=hcc i' r' j c' (by grind) hj;exact⟨u,by grind,h2,h3,by grind⟩
 have to:∀q x,List.lookup q ((b,bx')::st.heap)=some x->∃x0,List.lookup q st.heap=some x0/\x0.gen=x.gen:=by
  grind
 refine⟨hr.size,hr.defers,hr.env,⟨⟨fun q x hq=>?_,fun g m hm=>?_,fun q1 x1 q2 x2 hq1 hq2 hg=>?_,hw.heap.inj⟩,hw.ext,hw.fr,hw.Snew,hw.Slt,hw.Mnew⟩⟩
 ·by_cases hqb:q=b
  ·grind
  ·rw[zba _ _ hqb]at hq;exact hw.heap.box q x hq
 ·obtain⟨q,x,hq,hg⟩:=hw.heap.live g m hm;by_cases hqb:q=b
  ·grind[zbr]
  ·exact⟨q,x,by grind,hg⟩
 ·obtain⟨y1,hy1,e1⟩:=to q1 x1 hq1;obtain⟨y2,hy2,e2⟩:=to q2 x2 hq2;exact hw.heap.gens _ _ _ _ hy1 hy2 (by rw[e1,e2,hg])
def Rel.gh{k:Nat}{g:Gh}{st':St}(hk:cx.clk0=k+1)(hg:ghS k g st=some st')(hr:Rel cx st a w):Rel cx st' a w:=by
 cases g with
 | nil t z=>
  simp only[ghS]at hg;split at hg<;>cases hg;rename_i hx;exact hr.nil t _ z hx
 | frz t=>
  obtain⟨y,hy,rfl⟩:=map_some hg;exact hr.frz t hy
 | shr t=>
  simp only[ghS]at hg;obtain⟨y,hy,rfl⟩:=map_some hg;exact hr.shr t hy
 | norm ex live=>
  cases hg;exact hr.norm hk
 | trm live=>
  cases hg;have key:∀(l:List Nat) (t:Nat) (x:AV),(l.map fun t=>(t,st.env.get t)).lookup t=some x->st.env.get t=x:=by
   intro l
   induction l with
   | nil=>simp
   | cons a l ih=>grind [List.lookup]
  have hs:Sub st ⟨live.map fun t=>(t,st.env.get t),st.heap,st.clk⟩:=⟨fun t x h=>key _ _ _ h,fun b bx h=>⟨bx,h,.inl rfl⟩,Yi _⟩;exact Rel.sub hs hr
 | opn t j z=>
  simp only[ghS]at hg;split at hg<;>try (cases hg;done)
  split at hg<;>try (cases hg;done)
  rename_i bx hbx;split at hg<;>try (cases hg;done)
  rename_i r hi;split at hg<;>cases hg;rename_i hc;have hb:=(zaq hbx).1;have h1:=hr.str _ hb hc.1 (zcl hbx) hi;have hn:∀b o,BId.fld b o≠b:=fun b o h=>by
   have h2:SizeOf.sizeOf (BId.fld b o)=SizeOf.sizeOf b:=by rw[h]
   simp at h2;omega
  have h2:=h1.fld (bx:={ bx with kind:=.str }) _ (.fld _ _) z _ 0 (zbr _ _ _) rfl hi rfl (by rw[zba _ _ (hn _ _)];simpa using hc.2);refine Rel.sub ?_ h2;constructor
  ·intro t x h;show (st.env.lookup t).getD .dead=x;rw[show st.env.lookup t=some x from h]
   rfl
  ·intro b' bx' h;refine⟨bx',?_,.inl rfl⟩;simp only[Yb7]
   grind
  ·exact Yi _
 | shi t j=>
  simp only[ghS]at hg;split at hg<;>try (cases hg;done)
  split at hg<;>try (cases hg;done)
  split at hg<;>try (cases hg;done)
  obtain⟨y,hy,rfl⟩:=map_some hg;obtain⟨S,M,hr⟩:=hr;exact⟨_,M,hr.share (refs _) (zc6 hy)⟩
 | shf t i o=>
  simp only[ghS]at hg;split at hg<;>try (cases hg;done)
  split at hg<;>try (cases hg;done)
  split at hg<;>try (cases hg;done)
  split at hg<;>try (cases hg;done)
  obtain⟨y,hy,rfl⟩:=map_some hg;obtain⟨S,M,hr⟩:=hr;exact⟨_,M,hr.share (refs _) (zc6 hy)⟩
 | fld t i o z=>
  simp only[ghS]at hg;split at hg<;>try (cases hg;done)
  split at hg<;>try (cases hg;done)
  rename_i bx hbx;split at hg<;>try (cases hg;done)
  rename_i r hi;split at hg<;>try (cases hg;done)
  rename_i ho;split at hg<;>cases hg;rename_i hc;exact hr.fld _ _ z i o (zaq hbx).1 hc.1 hi ho (by simpa using hc.2)
end
end
section
open Go.RowKit
theorem zl1:∀(l:Heap) (g j:Nat),(∃p∈l,p.2.gen=g)->∃q,l[Zcb l g j-j]? = some q/\q.2.gen=g/\j<=Zcb l g j
 | [],g,j,h=>by grind
 | p::l,g,j,h=>by
  simp only[Zcb];split
  ·grind
  ·obtain⟨q,hq,he⟩:=h;have hq':q∈l:=by
    grind
   obtain⟨q2,h1,h2,h3⟩:=zl1 l g (j+1) ⟨q,hq',he⟩
   grind
theorem zi9:∀(l:List BId) (b b':BId) (j:Nat),b∈l->b'∈l->Zeo l b j=Zeo l b' j->b=b'
 | [],b,b',j,h,_,_=>by cases h
 | c::l,b,b',j,h,h',he=>by
  have low:∀(l:List BId) (x:BId) (j:Nat),j<=Zeo l x j:=by
   intro l x
   induction l with
   | nil=>intro j;exact Yi _
   | cons y l ih=>intro j;simp only[Zeo];split;exact Yi _;exact Yd (Ybf j) (ih (j+1))
  simp only[Zeo]at he;have l1:=low l b (j+1);have l2:=low l b' (j+1);split at he<;>split at he
  ·rename_i h1 h2;rw[<-h1,<-h2]
  ·omega
  ·omega
  ·rename_i h1 h2;have tl:∀x,c≠x->x∈c::l->x∈l:=by
    intro x hne hx;rcases Yn.1 hx with rfl | hx
    ·exact absurd rfl hne
    ·exact hx
   exact zi9 l b b' (j+1) (tl b h1 h) (tl b' h2 h') he
def zd0{γ:Type}:∀(l:List (BId×γ)),(l.map (·.1)).Nodup->∀p∈l,l.lookup p.1=some p.2:=by
 intro l hn p hp
 induction l with
 | nil=>grind
 | cons q l ih=>
  grind
theorem zhm{α:Type}:∀(l:List α),l.Nodup->∀(i j:Nat) (x:α),l[i]? = some x->l[j]? = some x->i=j
 | [],_,i,j,x,h,_=>by simp at h
 | y::l,hn,i,j,x,hi,hj=>by
  simp only[Yd9]at hn;cases i with
  | zero=>
   cases j with
   | zero=>rfl
   | succ j=>
    simp at hi hj;subst hi;exact absurd (Yc hj) hn.1
  | succ i=>
   cases j with
   | zero=>
    simp at hi hj;subst hj;exact absurd (Yc hi) hn.1
   | succ j=>rw[zhm l hn.2 i j x hi hj]
def Zdt.rl{P:Program}{f:FuncId}{ys:List AV}{hp:Heap}{clk d:Nat}{ex:Bool}{l:List BId}{r0:AV}{hb':Heap}{c':Nat}
  (hkeys:hp.map (·.1)=l) (hnd:l.Nodup)
  (hnd2:((hb'.map fun p=>(Zax l d p.1,Zaa true (Zax l d) (Za7 hp clk) p.2)).map (·.1)).Nodup)
  (hA:Zdt P f (ys.map fun y=>rlA (inN l) (inG hp) (wkIf ex y)) (hp.map fun p=>(inN l p.1,Zaa ex (inN l) (inG hp) p.2)) (hp.length+1) (fun r h c=>r=r0/\h=hb'/\c=c')) :
  Zdt P f ys hp clk (fun r h c=>r=rlA (Zax l d) (Za7 hp clk) r0/\h=hb'.map (fun p=>(Zax l d p.1,Zaa true (Zax l d) (Za7 hp clk) p.2))/\c=clk+(c'-hp.length)):=by
 refine⟨hA.1,fun w S M cargs hl hC hh hS hM=>?_⟩;have hml:∀p∈hp,hp.lookup p.1=some p.2:=zd0 hp (by grind);have hnd':(hb'.map (·.1)).Nodup:=by
  grind
 classical
 -- the call's own numbering
 generalize hM1:(fun g'=>if h:∃g,(∃p∈hp,p.2.gen=g)/\inG hp g=g' then M (Classical.choose h) else none:Map)=M1;have inj1:∀g1 g2,(∃p∈hp,p.2.gen=g1)->(∃p∈hp,p.2.gen=g2)->inG hp g1=inG hp g2->g1=g2:=fun g1 g2 h1 h2 he=>zhl hp g1 g2 0 h1 h2 he;have hM1a:∀g,(∃p∈hp,p.2.gen=g)->M1 (inG hp g)=M g:=by
  intro g hg;rw[<-hM1];have h:∃g0,(∃p∈hp,p.2.gen=g0)/\inG hp g0=inG hp g:=⟨g,hg,rfl⟩;simp only[dif_pos h];rw[inj1 _ _ (Classical.choose_spec h).1 hg (Classical.choose_spec h).2]
 have hM1b:∀g' m,M1 g'=some m->∃g,(∃p∈hp,p.2.gen=g)/\inG hp g=g'/\M g=some m:=by
  grind
 have rl1:Rlb M M1 clk (hp.length+1) (inG hp):=by
  refine⟨fun g _=>⟨?_,?_⟩⟩
  ·by_cases hin:∃p∈hp,p.2.gen=g
   ·grind
   ·right;cases hm:M1 (inG hp g) with
    | none=>rfl
    | some m=>
     obtain⟨g1,h1,h2,_⟩:=hM1b _ _ hm;have hlt:=zgj hp g1 0 h1
     grind[zka,inG]
  grind[zc7,inG]
 have mem_keys:∀p∈hp,p.1∈l:=fun p hpm=>by grind
 have heap1:HeapRel w S M1 (hp.length+1) (hp.map fun p=>(inN l p.1,Zaa ex (inN l) (inG hp) p.2)):=by
  refine hh.rl (ex:=ex) (σn:=inN l) (σg:=inG hp) (D:=fun g=>∃p∈hp,p.2.gen=g) rl1 (fun b' bx' hb=>?_) (fun g' m hm=>?_) inj1 (fun g' m hm=>?_)
  ·obtain⟨p,hpm,he⟩:=Yy.1 (za2 _ _ _ hb)
   grind
  ·obtain⟨g1,⟨p,hpm,h1⟩,h2,h3⟩:=hM1b _ _ hm;obtain⟨x,hx⟩:=zfy (hp.map fun p=>(inN l p.1,Zaa ex (inN l) (inG hp) p.2)) (inN l p.1,Zaa ex (inN l) (inG hp) p.2) (Yy.2 ⟨p,hpm,rfl⟩);refine⟨_,x,hx,?_⟩;obtain⟨q,hqm,he⟩:=Yy.1 (za2 _ _ _ hx);simp only[Prod.mk.injEq]at he;have hqp:q.1=p.1:=by
    grind[inN,zi9]
   have:q.2=p.2:=by
    grind
   rw[<-he.2,this];show inG hp p.2.gen=g'
   grind
  grind
 have range1:∀g k,M1 g=some (some k)->∃g0,M g0=some (some k):=fun g k hm=>let ⟨g1,_,_,h3⟩:=hM1b g _ hm;⟨g1,h3⟩
 refine(hA.2 w S M1 cargs (by grind) (fun j v c hv hc=>?_) heap1 hS (fun g k hm=>let ⟨g0,h0⟩:=range1 g k hm;hM g0 k h0)).mono ?_
 ·obtain⟨c0,h1,rfl⟩:=getElem?_mapped hc;exact((hC j v c0 hv h1).wkIf ex).rlA rl1
 intro e w' ⟨v,r,h',S',M2,clk2,he,⟨hr0,hh',hc2⟩,hCr,hw⟩;subst hr0;subst hh';subst hc2;have hw:=hw 0
 -- back
 have gens:∀(i:Nat) p,hp[i]? = some p->∀(j:Nat) q,hp[j]? = some q->p.2.gen=q.2.gen->i=j:=by
  intro i p hi j q hj hg;have h1:=hh.gens _ _ _ _ (hml p (Yc hi)) (hml q (Yc hj)) hg;refine zhm l hnd i j p.1 ?_ ?_
  all_goals grind
 have low:∀g m,M2 g=some m->g<hp.length\/hp.length+1<=g:=by
  intro g m hm;rcases Yv g (hp.length+1) with h1 | h1
  ·obtain⟨g1,h2,h3,_⟩:=hM1b g m (hw.ext.hM g m h1 hm);have:=zgj hp g1 0 h2;unfold inG at h3;omega
  omega
 have outLt:∀g,g<hp.length->∃p,hp[g]? = some p/\Za7 hp clk g=p.2.gen/\p.2.gen<clk:=by
  intro g hg;have h1:hp[g]? = some (hp[g]'hg):=Ya hg;refine⟨_,h1,by simp[Za7,h1],(hh.box _ _ (hml _ (Y0 hg))).1⟩
 have outGe:∀g,hp.length<=g->Za7 hp clk g=clk+(g-hp.length):=by
  grind[Za7]
 have inj2:∀g1 g2,(∃m,M2 g1=some m)->Za7 hp clk g1=Za7 hp clk g2->g1=g2:=by
  intro g1 g2 ⟨m,hm⟩ he;rcases Yv g1 hp.length with h1 | h1<;>rcases Yv g2 hp.length with h2 | h2
  all_goals grind
 generalize hM3:(fun g'=>if h:∃g,(∃m,M2 g=some m)/\Za7 hp clk g=g' then M2 (Classical.choose h) else none:Map)=M3;have hM3a:∀g,(∃m,M2 g=some m)->M3 (Za7 hp clk g)=M2 g:=by
  intro g hg;have h:∃g0,(∃m,M2 g0=some m)/\Za7 hp clk g0=Za7 hp clk g:=⟨g,hg,rfl⟩
  grind
 have hM3b:∀g' m,M3 g'=some m->∃g,Za7 hp clk g=g'/\M2 g=some m:=by
  grind
 have rl2:Rlb M2 M3 clk2 (clk+(clk2-hp.length)) (Za7 hp clk):=by
  refine⟨fun g hg=>⟨?_,?_⟩⟩
  ·grind
  ·rcases Yv g hp.length with h1 | h1
   all_goals grind
 have back:∀g m,g<clk->M3 g=some m->∃g1,g1<hp.length/\M2 g1=some m/\M1 g1=some m/\M g=some m:=by
  intro g m hg hm;obtain⟨g1,h1,h2⟩:=hM3b _ _ hm;have hlt:g1<hp.length:=by
   grind
  have h3:=hw.ext.hM g1 m (by grind) h2;obtain⟨g2,h4,h5,h6⟩:=hM1b _ _ h3;obtain⟨p,a1,a2,_⟩:=outLt g1 hlt;obtain⟨q,b1,b2,_⟩:=zl1 hp g2 0 h4
  grind[inG]
 refine⟨v,_,_,S',M3,_,he,⟨rfl,rfl,rfl⟩,hCr.rlA rl2,fun nt=>⟨?_,?_,?_,fun k o hs=>?_,hw.Slt,fun g k hm=>?_⟩⟩
 ·refine hw.heap.rl (ex:=true) (σn:=Zax l d) (σg:=Za7 hp clk) (D:=fun g=>∃m,M2 g=some m) rl2 (fun b' bx' hb=>?_) (fun g' m hm=>?_) (fun g1 g2 h1 _ he=>inj2 g1 g2 h1 he) (fun g' m hm=>?_)
  ·obtain⟨p,hpm,he⟩:=Yy.1 (za2 _ _ _ hb);cases he;have h1:=zd0 h' hnd' p hpm;obtain⟨_,_,m,hm,_⟩:=hw.heap.box _ _ h1
   grind
  ·obtain⟨g1,h1,h2⟩:=hM3b _ _ hm;obtain⟨b,bx,h3,h4⟩:=hw.heap.live g1 m h2;refine⟨Zax l d b,Zaa true (Zax l d) (Za7 hp clk) bx,?_,by show Za7 hp clk bx.gen=g';grind⟩;exact zd0 _ hnd2 (Zax l d b,Zaa true (Zax l d) (Za7 hp clk) bx) (Yy.2 ⟨(b,bx),za2 _ _ _ h3,rfl⟩)
  grind
 ·refine⟨hw.ext.hS,hw.ext.hcell,by grind,fun g m hg hm=>?_,fun g k arr e hg hm hb=>?_⟩
  ·grind
  ·obtain⟨g1,h1,h2,_,_⟩:=back g _ hg hm;exact hw.ext.hblk g1 k arr e (by grind) h2 hb
 ·exact⟨hw.fr.os,hw.fr.tape,hw.fr.output,hw.fr.size,fun k hk hn=>hw.fr.block k hk fun⟨g,hm⟩=>hn (range1 g k hm)⟩
 ·rcases hw.Snew k o hs with h1 | h1 | ⟨g,h1⟩
  ·grind
  ·grind
  ·exact .inr (.inr (range1 g k h1))
 ·obtain⟨g1,h1,h2⟩:=hM3b _ _ hm;obtain⟨h3,h4⟩:=hw.Mnew g1 k h2;refine⟨h3,?_⟩;rcases h4 with h4 | ⟨g,h4⟩
  ·grind
  ·exact .inr (range1 g k h4)
def Z6.wk{P:Program}{f:FuncId}{xs:List AV}{post:AV->Prop}{ex:Bool}(h:Z6 P f (xs.map (wkIf ex)) post):Z6 P f xs post:=
 ⟨h.1,fun w S cargs hl hC hS=>h.2 w S cargs (by grind) (fun j v c hv hc=>by
  obtain⟨c0,h1,rfl⟩:=getElem?_mapped hc;exact(hC j v c0 hv h1).wkIf ex) hS⟩
end
section
open Go.RowKit
def Zcw(ν:Nat->FuncId)(τ:Nat->Nat):AOp->AOp
 | .call u args=>.call (ν u) args
 | .ifc k x=>.ifc (τ k) x
 | .inv nm _ _ r args=>.inv nm 0 (if nm="()" then 1 else 0) r args
 | .xop (.mkf k) xs=>.xop (.mkf (τ k)) xs
 | .xop (.mkv k) xs=>.xop (.mkv (τ k)) xs
 | op=>op
def Zo(ν:Nat->FuncId)(τ:Nat->Nat)(o:AO):AO:=⟨o.dst,o.guard,Zcw ν τ o.op⟩
def Zcf(ν:Nat->FuncId)(τ:Nat->Nat)(o:DO):DO:=⟨Zo ν τ o.ao,o.lo,o.hi⟩
def er(ν:Nat->FuncId)(τ:Nat->Nat):AX->AC
 | .skip=>.skip
 | .reg l=>.reg (l.map (Zo ν τ))
 | .draw l=>.draw (l.map (Zcf ν τ))
 | .seq a b=>.seq (er ν τ a) (er ν τ b)
 | .cond c x y=>.cond c (er ν τ x) (er ν τ y)
 | .block id c=>.block id (er ν τ c)
 | .loop c=>.loop (er ν τ c)
 | .exit id=>.exit id
 | .ret=>.ret
 | .note c _=>er ν τ c
 | .pre _ c=>er ν τ c
 | .scope c=>.scope (er ν τ c)
 | .lp id _ c _=>.block id (.loop (er ν τ c))
 | .bad=>.bad
 | .drawT hd tl=>.drawT (hd.map (Zo ν τ)) (tl.map (Zo ν τ))
 | .drawM hd tl=>.drawM (hd.map (Zo ν τ)) (tl.map (Zo ν τ))
 | .drawC l1 o l2 tl=>.drawT (l1.map (Zo ν τ)++Zo ν τ o::l2.map (Zo ν τ)) (tl.map (Zo ν τ))
 | .drawN l1 o l2=>.draw (l1.map (Zcf ν τ) ++ ⟨Zo ν τ o,0,0⟩::l2.map (Zcf ν τ))
 | .drawR hd tl=>.drawT (hd.map (Zo ν τ)) (tl.map (Zo ν τ))
 | .drawP l1 o l2 da cs n xs vs=>.draw (l1.map (Zcf ν τ) ++ ⟨Zo ν τ o,0,1⟩::(l2.map (Zcf ν τ)++[⟨⟨some da,none,.alloc cs⟩,0,1⟩,⟨⟨none,none,.store n xs vs⟩,1,2⟩]))
 | .prim _=>.bad
 | .label l=>.label l
 | .goto l=>.goto l
 | .gsc l c r=>.gsc l (er ν τ c) (er ν τ r)
def erF(ν:Nat->FuncId)(τ:Nat->Nat)(af:AFx):AF:=⟨af.np,af.nt,af.res,er ν τ af.body⟩
def Ex.out:Ex->Exit
 | .n=>.normal
 | .x id=>.exit id
 | .r=>.ret
 | .g l=>.goto l
def LWp(cx:Cx)(c:AC)(Q:Exit->St->Prop)(st:St):Prop:=
 ∀code,Zl cx.P cx.nt code=some c->cx.P.follows .mixedOrders=true->∀a w,Rel cx st a w->∀(b:Frame) (k:List Item) (cs:List Frame),
  ∃e a' w',(∃st',Q e st'/\Rel cx st' a' w')/\Arrives cx.P (lone (b.at a (.code code :: .inLoop code::k)) cs w) b k cs e a' w'
def zxc{cx:Cx}{c:AC}{Q:Exit->St->Prop}{st:St}(h:AWp cx c (Zh4 (fun s=>LWp cx c Q s) Q) st):LWp cx c Q st:=by
 intro code hc hm a w hr b k cs;obtain⟨ex,a1,w1,⟨st1,hq1,hrel1⟩,harr⟩:=h code hc hm a w hr b (.inLoop code::k) cs;cases ex with
 | normal=>
  obtain⟨e2,a2,w2,hq2,harr2⟩:=hq1 code hc hm a1 w1 hrel1 b k cs;exact⟨e2,a2,w2,hq2,.of_steps (Steps.trans harr (.one step_inLoop)) harr2⟩
 | exit id=>exact⟨_,a1,w1,⟨st1,hq1,hrel1⟩,.pass (x:=.inLoop code) rfl (fun _ _=>.inl (by simp)) harr⟩
 | goto l=>exact⟨_,a1,w1,⟨st1,hq1,hrel1⟩,.pass (x:=.inLoop code) rfl (fun _ _=>.inl (by simp)) harr⟩
 | ret=>exact⟨_,a1,w1,⟨st1,hq1,hrel1⟩,.pass (x:=.inLoop code) rfl (fun _ _=>.inl (by simp)) harr⟩
 | panic ch=>exact⟨_,a1,w1,⟨st1,hq1,hrel1⟩,.pass (x:=.inLoop code) rfl (fun _ _=>.inl (by simp)) harr⟩
 | outgrown=>exact⟨_,a1,w1,⟨st1,hq1,hrel1⟩,.pass (x:=.inLoop code) rfl (fun _ _=>.inl (by simp)) harr⟩
def zhn{cx:Cx}{c:AC}{Q:Exit->St->Prop}{st:St}(h:LWp cx c Q st):AWp cx (.loop c) Q st:=by
 intro code hc hm a w hr;have hcode:=hc;cases code<;>simp only[Zl]at hc<;>try cases hc
 case loop c1=>
  obtain⟨x',hx,he⟩:=map_some hc;cases he;intro b k cs;obtain⟨e,a',w',hq,harr⟩:=h c1 hx hm a w hr b k cs;exact⟨e,a',w',hq,.of_steps (.one step_loop) harr⟩
 case region id ops draw=>
  rcases zah hcode with ⟨_,l,_,h1⟩ | ⟨_,l,_,⟨n,_,h1⟩ | ⟨_,h1⟩ | ⟨n,_,h1⟩ | h1⟩<;>cases h1
 all_goals simp[Yf]at hc
def LWp.mono{cx:Cx}{c:AC}{Q Q':Exit->St->Prop}{st:St}(h:LWp cx c Q st)(hq:∀ex st,Q ex st->Q' ex st):LWp cx c Q' st:=
 fun code hc hm a w hr b k cs=>let ⟨e,a',w',⟨st',h1,h2⟩,h3⟩:=h code hc hm a w hr b k cs;⟨e,a',w',⟨st',hq _ _ h1,h2⟩,h3⟩
def Is(e:Ex)(st':St):Exit->St->Prop:=fun ex s=>ex=e.out/\s=st'
def zbf{ν:Nat->FuncId}{τ:Nat->Nat}(op:AOp):(Zcw ν τ op).writes=op.writes:=by
 cases op<;>first | rfl | (rename_i k xs;cases k<;>rfl)
theorem zxd(j:Nat):Zj0 j≠"()":=by
 unfold Zj0
 grind
def zl2{T:Tbl}{k:Nat}{nm:String}{u:Nat}(h:(nm,u)∈Zb5 T k):nm≠"()":=by
 grind[Zb5,Zhu,zxd]
structure GoodO (P:Program) (ν:Nat->FuncId) (T:Tbl) (O:Orc):Prop where
 meth:∀k nm u,(nm,u)∈Zb5 T k->Zd6 P (Zd T k) nm=some (ν u)
 fnn:∀k u,Zgh T k=some u->Zd T k=ν u
 pure:∀u af xs r h,T u=some af->af.lent=none->O.call u xs []=some (r,h)->Z6 P (ν u) xs (·=r)
 lent:∀u af ms xs hb r hb',T u=some af->af.lent=some ms->O.call u xs hb=some (r,hb')->Zdt P (ν u) xs hb (hb.length+1) (fun r1 h1 c1=>r1=r/\h1=hb'/\c1=hb.length+hb'.length+2)
 loop:∀k c st e st',O.loop k c st=some (e,st')->∀cx:Cx,cx.P=P->cx.clk0=k+1->LWp cx (er ν (Zd T) c) (Is e st') st
section
variable{P:Program}{ν:Nat->FuncId}{T:Tbl}{O:Orc}
def zio(q:BId->Bool)(h:Heap)(b:BId):(h.filter fun p=>!q p.1).lookup b=if q b=true then none else h.lookup b:=by
 induction h with
 | nil=>simp
 | cons p h ih=>
  grind
def zc0(hO:GoodO P ν T O){u:Nat}{xs:List AV}{d:Option Nat}{st st':St}{K:St->Prop}(h:Zah O T u xs d st=some st')(hK:K st') :
  Zfg P (ν u) xs st.heap (fun r h=>K ⟨Ze st.env d r,h,st.clk⟩)\/Zfh P (ν u) xs st.heap st.clk (fun r h c=>K ⟨Ze st.env d r,h,c⟩):=by
 unfold Zah at h;split at h
 ·cases h
 rename_i af hT;split at h
 ·rename_i hl;obtain⟨ys,h1,h2⟩:=bind_some h;obtain⟨r,h3,h4⟩:=bind_some h2;refine .inl ⟨ys,(·=r.1),h1,(hO.pure u af _ r.1 r.2 hT hl h3).wk,?_⟩
  grind
 ·rename_i ms hl;obtain⟨ys,h1,h2⟩:=bind_some h;simp only at h2;generalize hh1:Zx (Zc4 ms xs) st.heap=h1' at *
  generalize hll:Zfk h1' 40 (Zfv ms xs) []=l at *
  generalize hhp:Zdx h1' l=hp at *
  split at h2
  ·rename_i hc;obtain⟨r,h3,h4⟩:=bind_some h2;generalize hhb:(r.2.map fun p=>(Zax l (d.getD 0) p.1,Zaa true (Zax l (d.getD 0)) (Za7 hp st.clk) p.2))=hb' at *
   split at h4
   ·rename_i hchk;cases h4;simp only[Yk,decide_eq_true_eq]at hchk;obtain⟨⟨k2,k3⟩,k4⟩:=hchk;have hmem:∀b bx,hp.lookup b=some bx->h1'.lookup b=some bx:=by
     intro b bx hb;have:=za2 _ _ _ hb;rw[<-hhp]at this;exact zfe this
    have hin:∀b,(hp.lookup b).isSome=true↔b∈l:=by
     intro b;constructor
     ·intro hb;obtain⟨bx,hb⟩:=Ycb.1 hb;rw[<-hc.1];exact Yy.2 ⟨_,za2 _ _ _ hb,rfl⟩
     ·intro hb;rw[<-hc.1]at hb;obtain⟨p,hp1,rfl⟩:=Yy.1 hb;obtain⟨x,hx⟩:=zfy _ _ hp1
      grind
    have hlk:∀id,(h1'.filter fun p=>!(l.contains p.1 || (hb'.map (·.1)).contains p.1)).lookup id=if (l.contains id || (hb'.map (·.1)).contains id)=true then none else h1'.lookup id:=
     fun id=>zio (fun b=>l.contains b || (hb'.map (·.1)).contains b) h1' id
    refine .inr ⟨ms,ys,h1,hp,h1'.filter (fun p=>!(l.contains p.1 || (hb'.map (·.1)).contains p.1)),_,⟨fun id bx hid=>?_,fun id bx hid=>?_⟩,fun id hid=>?_,Zdt.rl hc.1 hc.2 (by rw[hhb];omega) (by
     have:=hO.lent u af ms _ _ r.1 r.2 hT hl h3;rw[Yw]at this;exact this),?_⟩
    ·grind
    ·grind
    ·rw[hlk,if_pos (by grind)]
    ·rintro r' h' c' hle ⟨rfl,rfl,rfl⟩
     rw[hhb]
     grind
   grind
  grind
theorem zue(hO:GoodO P ν T O){op:AOp}{d:Option Nat}{st st':St}{K:St->Prop}(h:opX O T op d st=some st')(hK:K st'):opK P (Zcw ν (Zd T) op) d st K:=by
 cases op<;>simp only[opX]at h
 case call u args=>exact zc0 hO h hK
 case ifc k x=>
  cases h;exact⟨_,rfl,hK⟩
 case inv nm k u r args=>
  split at h
  ·rename_i t y hy;split at h
   ·rename_i hc;obtain⟨rfl,hm⟩:=hc;exact .inl ⟨if_neg (zl2 hm),_,y,_,hy,hO.meth k nm u hm,zc0 hO h hK⟩
   grind
  ·rename_i f x hy;split at h
   ·rename_i hc;obtain⟨rfl,rfl,hm⟩:=hc;have hc:=zc0 hO h hK;rw[<-hO.fnn k u hm]at hc;exact .inr (.inl ⟨rfl,_,x,hy,hc⟩)
   grind
  ·rename_i f id g z i o hy;split at h
   ·rename_i hc;obtain⟨rfl,rfl,hm⟩:=hc;have hc:=zc0 hO h hK;rw[<-hO.fnn k u hm]at hc;exact .inr (.inr ⟨rfl,_,id,g,z,i,o,hy,zz2 hm,hc⟩)
   grind
  grind
 case xop k xs=>
  cases k
  all_goals
   obtain⟨q,h1,rfl⟩:=map_some h;exact⟨q,h1,hK⟩
 all_goals
  obtain⟨q,h1,rfl⟩:=map_some h;exact⟨q,h1,hK⟩
def zl3(hO:GoodO P ν T O){o:AO}{st st':St}{K:St->Prop}(h:Zga O T o st=some st')(hK:K st'):Zgx P (Zo ν (Zd T) o) st K:=by
 grind[Zga,Zgx,Zo,zue,gX]
theorem zcq(hO:GoodO P ν T O):∀(l:List AO) (st st':St) (K:St->Prop),Zdf O T l st=some st'->K st'->Zdd P (l.map (Zo ν (Zd T))) st K
 | [],st,st',K,h,hK=>by cases h;exact hK
 | o::l,st,st',K,h,hK=>by
  obtain⟨s1,h1,h2⟩:=bind_some h;exact zl3 hO h1 (zcq hO l s1 st' K h2 hK)
theorem zl4(hO:GoodO P ν T O){op:AOp}{e:Env}{h:Heap}{older:List Heap}{x:AV}{K:AV->Prop}(hx:opD O T op e h older=some x)(hK:K x):opQ P (Zcw ν (Zd T) op) e h older K:=by
 by_cases hap:∃z x0 y,op=.app z x0 y
 ·obtain⟨z,x0,y,rfl⟩:=hap;by_cases hc:x0=.c (.sl [] .nl)
  ·subst hc;exact⟨x,hx,hK⟩
  ·exfalso;cases x0 with
   | t n=>simp[opD,Zi]at hx
   | c a=>
    cases a
    case sl els f=>
     cases els with
     | nil=>cases f<;>first | exact hc rfl | simp[opD,Zi]at hx
     | cons r l=>simp[opD,Zi]at hx
    all_goals simp[opD,Zi]at hx
 cases op<;>(try exact absurd ⟨_,_,_,rfl⟩ hap)<;>simp only[opD]at hx
 case call u args=>
  split at hx
  ·grind
  rename_i af hT;split at hx
  ·rename_i hc;simp only[Yk]at hc;obtain⟨r,h1,rfl⟩:=map_some hx;exact⟨_,⟨zdk hc.2,fun hf=>by grind⟩,r.1,(hO.pure u af _ r.1 r.2 hT (by simp_all) h1).wk,hK⟩
  grind
 case ifc k x=>
  cases hx;exact⟨_,rfl,trivial,hK⟩
 case inv nm k u r args=>
  split at hx
  ·rename_i t y hy;split at hx
   ·rename_i hc0;obtain⟨rfl,hm⟩:=hc0;split at hx
    ·grind
    rename_i af hT;split at hx
    ·rename_i hc;simp only[Yk]at hc;obtain⟨r,h1,rfl⟩:=map_some hx;exact⟨if_neg (zl2 hm),_,y,_,hy,hO.meth k nm u hm,hc.2,r.1,(hO.pure u af _ r.1 r.2 hT (by simp_all) h1).wk,hK⟩
    grind
   grind
  grind
 case bsl z zs len ps=>
  split at hx
  ·rename_i hc;obtain⟨q,h1,rfl⟩:=map_some hx;exact⟨hc,q,h1,hK⟩
  grind
 case xop k xs=>
  simp_all
 all_goals
  obtain⟨q,h1,h2⟩:=bind_some hx;split at h2
  ·rename_i hc;cases h2;refine⟨_,h1,?_,hK⟩;rcases zq4 hc with hc | hc
   ·simp only[Zcw];rw[hc]
    trivial
   ·simp only[Zcw];split
    ·trivial
    ·exact hc
  ·cases h2
def zpk{o:AO}{e:Env}{h':Heap}{x:AV}(hf:o.op.free=false)(hw:o.op.writes=false)(hg:o.guard=none\/∃t want,o.guard=some (t,want)/\e.get t=.b want)(hs:Zgb o.op e.get h'=some x):QF P h' (Zo ν (Zd T) o) e.get x:=by
 have hq:QOp P (Zcw ν (Zd T) o.op) e.get h' x:=by
  obtain⟨d,g,op⟩:=o;by_cases hap:∃z x0 y,op=.app z x0 y
  ·obtain⟨z,x0,y,rfl⟩:=hap;by_cases hc:x0=.c (.sl [] .nl)
   all_goals simp_all
  cases op<;>first | exact absurd ⟨_,_,_,rfl⟩ hap | exact hs | (cases hf;done) | (cases hw;done) | (cases hs)
 grind[QF,Zo]
def zuf{o:AO}{e:Env}{h':Heap}(hg:∃t want,o.guard=some (t,want)/\(e.get t=.b (!want)\/e.get t=.tup [])):QF P h' (Zo ν (Zd T) o) e.get (.tup []):=by
 grind[QF,Zo]
def zpl{o:AO}{e:Env}{h h':Heap}{x:AV}(hf:o.op.freeE e.get=true)(hq:QF P h (Zo ν (Zd T) o) e.get x):QF P h' (Zo ν (Zd T) o) e.get x:=
 zj2 (o:=Zo ν (Zd T) o) (by show (Zcw ν (Zd T) o.op).freeE e.get=true;cases hop:o.op<;>rw[hop]at hf<;>first | rfl | exact hf | cases hf) h h' hq
def zpm{o:AO}{e:Env}{h:Heap}{older:List Heap}{r:AV×Bool}(hx:qX O T o e h older=some r)(hr:r.2=true)(hf:o.op.free=true):o.op.freeE e.get=true:=by
 cases hop:o.op
 case call u args=>
  have key:∀x,opD O T (.call u args) e h older=some x->(args.map (ev e.get)).all noRef=true:=by
   grind[opD]
  unfold qX at hx;rw[hop]at hx;split at hx
  ·obtain⟨x,h1,_⟩:=map_some hx;exact key x h1
  ·split at hx
   ·split at hx
    ·obtain⟨x,h1,_⟩:=map_some hx;exact key x h1
    grind
   all_goals grind
 all_goals (rw[hop]at hf;exact hf)
def zei(hO:GoodO P ν T O){o:AO}{e:Env}{h:Heap}{older:List Heap}{r:AV×Bool}{K:AV->Prop}(hx:qX O T o e h older=some r)(hK:K r.1) :
  qK P (Zo ν (Zd T) o) e h older K/\(r.2=true->(o.guard=none\/∃t want,o.guard=some (t,want)/\e.get t=.b want))/\(r.2=false->r.1=.tup []/\∃t want,o.guard=some (t,want)/\(e.get t=.b (!want)\/e.get t=.tup [])):=by
 unfold qX at hx;unfold qK;simp only[Zo];cases hg:o.guard with
 | none=>
  rw[hg]at hx;obtain⟨x,h1,rfl⟩:=map_some hx
  grind[zl4]
 | some p=>
  obtain⟨t,want⟩:=p;rw[hg]at hx;simp only at hx ⊢;cases hx2:e.get t with
  | b v=>
   rw[hx2]at hx;simp only at hx ⊢;split at hx
   ·rename_i hv;obtain⟨x,h1,rfl⟩:=map_some hx
    grind[zl4]
   ·rename_i hv;rw[if_neg hv];cases hx;refine⟨hK,?_,?_⟩
    ·grind
    intro _;refine⟨rfl,t,want,rfl,.inl ?_⟩;cases v<;>cases want<;>simp_all
  | tup l=>
   grind
  | _=>rw[hx2]at hx;simp at hx
def zb8{pend:Zae}{h:Heap}(hp:Z9 pend h=true):∀p∈pend,0<p.1->Zgb p.2.1 p.2.2.1.get h=some p.2.2.2:=by
 grind[Z9]
def Zev(pendX:Zae)(pend:Zho):Prop:=∀q∈pend,(∀h',q.2 h')\/q.1=0\/∃p∈pendX,p.1=q.1/\∀h',Zgb p.2.1 p.2.2.1.get h'=some p.2.2.2->q.2 h'
def Zev.next{pendX:Zae}{pend:Zho}(h:Zev pendX pend):Zev (pendX.map fun p=>(p.1-1,p.2)) (pend.map fun p=>(p.1-1,p.2)):=by
 intro q hq;obtain⟨q0,h1,rfl⟩:=Yy.1 hq;rcases h q0 h1 with h2 | h2 | ⟨p,h2,h3,h4⟩
 ·grind
 ·omega
 ·exact .inr (.inr ⟨_,Yy.2 ⟨p,h2,rfl⟩,by omega,h4⟩)
theorem zc1(hO:GoodO P ν T O):∀(l:List DO) (e:Env) (h:Heap) (clk:Nat) (older:List Heap) (pendX:Zae) (pend:Zho) (st':St) (K:St->Prop),Zev pendX pend->Zbl O T l e h clk older pendX=some st'->K st'->Ze0 P (l.map (Zcf ν (Zd T))) e h clk older pend K
 | [],e,h,clk,older,pendX,pend,st',K,hpr,hx,hK=>by cases hx;exact hK
 | o::l,e,h,clk,older,pendX,pend,st',K,hpr,hx,hK=>by
  simp only[Zbl]at hx;simp only[Yx,Ze0];have hw:(Zcf ν (Zd T) o).ao.op.writes=o.ao.op.writes:=by
   exact zbf _
  rw[hw];cases ho:o.ao.op.writes with
  | true=>
   rw[ho]at hx;simp only at hx ⊢;split at hx
   ·rename_i hg;obtain⟨q,h1,h2⟩:=bind_some hx;split at h2
    ·rename_i hpd;have e1:Zcw ν (Zd T) o.ao.op=o.ao.op:=by
      cases hop:o.ao.op<;>rw[hop]at ho<;>first | rfl | (simp[AOp.writes]at ho;done) | (rename_i k xs;cases k<;>first | rfl | simp_all)
     refine⟨by show o.ao.guard=none;simpa using hg,q,?_,fun p hp h0=>?_,zc1 hO l _ _ _ _ _ _ st' K hpr.next h2 hK⟩
     ·show stepW (Zcw ν (Zd T) o.ao.op) o.ao.dst e.get h clk=some q
      grind
     ·rcases hpr p hp with h3 | h3 | ⟨p',h3,h4,h5⟩
      ·grind
      ·omega
      ·exact h5 _ (zb8 hpd p' h3 (by omega))
    grind
   grind
  | false=>
   rw[ho]at hx;simp only at hx ⊢;split at hx
   rotate_left
   ·rename_i p hrow;obtain⟨x,h1,h2⟩:=bind_some hx;obtain⟨hg,args,hop,hfr,hold⟩:=zfd hrow;unfold Zdy at h1;split at h1
    ·grind
    rename_i af hT;split at h1
    rotate_left
    ·grind
    obtain⟨r,h3,rfl⟩:=map_some h1;have hcall:Z6 P (ν p.1) p.2 (·=r.1):=(hO.pure p.1 af _ r.1 r.2 hT (by simp_all) h3).wk;have hao:Zo ν (Zd T) o.ao=⟨o.ao.dst,none,.call (ν p.1) args⟩:=by unfold Zo;rw[hg,hop];rfl
    show qK P (Zo ν (Zd T) o.ao) e h (older.take (older.length-o.lo)) _;rw[hao];refine⟨p.2,⟨hfr,fun _=>hold⟩,r.1,hcall,?_⟩;refine zc1 hO l _ _ _ _ _ _ st' K ?_ h2 hK;intro q hq;rcases Yn.1 hq with rfl | hq
    ·by_cases hn:older.length<o.hi
     ·refine .inr (.inr ⟨(o.hi-older.length,o.ao.op,e,.tup p.2),?_,rfl,fun h' hs=>?_⟩)
      ·grind
      ·simp only[hop,Zgb]at hs;obtain⟨zs,h6,h7⟩:=map_some hs;cases h7;show QF P h' (Zo ν (Zd T) o.ao) e.get r.1;rw[hao];exact⟨_,h6,hcall⟩
     ·exact .inr (.inl (by show o.hi-older.length=0;omega))
    ·rcases hpr q hq with h3 | h3 | ⟨p',h3,h4,h5⟩
     all_goals grind
   obtain⟨r,h1,h2⟩:=bind_some hx;have key:=fun(K':AV->Prop) (hk:K' r.1)=>zei hO (K:=K') h1 hk;refine(key _ ?_).1;refine zc1 hO l _ _ _ _ _ _ st' K ?_ h2 hK;obtain⟨_,k1,k2⟩:=key (fun _=>True) trivial;intro q hq;rcases Yn.1 hq with rfl | hq
   ·cases hr2:r.2 with
    | false=>
     obtain⟨h3,h4⟩:=k2 hr2;exact .inl fun h'=>by
      rw[h3];exact zuf h4
    | true=>
     cases hf:o.ao.op.free with
     | true=>
      obtain⟨hqk,_⟩:=key (fun x=>x=r.1) rfl;obtain⟨x,hq1,_,hxr⟩:=zqn (o:=Zo ν (Zd T) o.ao) (by rw[<-ho];exact hw) hqk;subst hxr;exact .inl fun h'=>zpl (zpm h1 hr2 hf) hq1
     | false=>
      by_cases hn:older.length<o.hi
      ·refine .inr (.inr ⟨(o.hi-older.length,o.ao.op,e,r.1),?_,rfl,fun h' hs=>zpk hf ho (k1 hr2) hs⟩)
       grind[Zbh]
      ·exact .inr (.inl (by show o.hi-older.length=0;omega))
   ·rcases hpr q hq with h3 | h3 | ⟨p,h3,h4,h5⟩
    ·grind
    ·omega
    grind[Zbh]
theorem zho(hO:GoodO P ν T O)(tl:List AO):∀(l:List AO) (e:Env) (h:Heap) (clk:Nat) (st':St) (K:St->Prop),Zdz O T tl l e h clk=some st'->K st'->Zem P (tl.map (Zo ν (Zd T))) (l.map (Zo ν (Zd T))) e h clk K
 | [],e,h,clk,st',K,hx,hK=>zcq hO tl _ st' K hx hK
 | o::l,e,h,clk,st',K,hx,hK=>by
  obtain⟨r,h1,h2⟩:=bind_some hx;exact(zei hO (K:=fun x=>Zem P (tl.map (Zo ν (Zd T))) (l.map (Zo ν (Zd T))) (Ze e o.dst x) h clk K) h1 (zho hO tl l _ h clk st' K h2 hK)).1
theorem zex(hO:GoodO P ν T O)(tl:List AO):∀(l:List AO) (e:Env) (h:Heap) (clk:Nat) (st':St) (K:St->Prop),Zce O T tl l e h clk=some st'->K st'->Zem P (tl.map (Zo ν (Zd T))) (l.map (Zo ν (Zd T))) e h clk K
 | [],e,h,clk,st',K,hx,hK=>zcq hO tl _ st' K hx hK
 | o::l,e,h,clk,st',K,hx,hK=>by
  unfold Zce at hx;split at hx
  ·obtain⟨r,h1,h2⟩:=bind_some hx;exact(zei hO (K:=fun x=>Zem P (tl.map (Zo ν (Zd T))) (l.map (Zo ν (Zd T))) (Ze e o.dst x) h clk K) h1 (zex hO tl l _ h clk st' K h2 hK)).1
  ·rename_i p hrow;obtain⟨x,h1,h2⟩:=bind_some hx;obtain⟨hg,args,hop,hfr,hold⟩:=zfd hrow;unfold Zdy at h1;split at h1
   ·grind
   rename_i af hT;split at h1
   rotate_left
   ·grind
   obtain⟨r,h3,rfl⟩:=map_some h1;have hcall:Z6 P (ν p.1) p.2 (·=r.1):=(hO.pure p.1 af _ r.1 r.2 hT (by simp_all) h3).wk;have hao:Zo ν (Zd T) o=⟨o.dst,none,.call (ν p.1) args⟩:=by unfold Zo;rw[hg,hop];rfl
   have ih:=zex hO tl l _ h clk st' K h2 hK;show qK P (Zo ν (Zd T) o) e h [] _;rw[hao];exact⟨p.2,⟨hfr,fun _=>hold⟩,r.1,hcall,ih⟩
def zfz{c0:Nat}{op:AOp}{e:Env}{l:List Nat}{ν:Nat->FuncId}{τ:Nat->Nat}(h:Zhg c0 op e l=true):∀g∈l,Zfi c0 (Zcw ν τ op) e.get g:=by
 intro g hg;have h1:=Yl.1 h g hg;simp only[Yck,decide_eq_true_eq,List.any_eq_true,List.contains_iff_mem]at h1;rcases h1 with h1 | ⟨t,ht,h2⟩
 ·exact .inl h1
 ·refine .inr ⟨t,?_,h2⟩;cases op<;>first | exact ht | (cases ht;done) | (rename_i k xs;cases k<;>first | exact ht | cases ht)
def zn2(hO:GoodO P ν T O){u:Nat}{xs:List AV}{d clk:Nat}{q:AV×Heap×Nat}(h:Ze1 O T u xs d clk=some q):∃m,q.2.2=clk+m/\Zjx P (ν u) xs clk q.1 q.2.1 m:=by
 unfold Ze1 at h;split at h
 ·cases h
 rename_i af hT;split at h
 ·cases h
 rename_i ms hl;split at h
 ·rename_i hn;obtain⟨r,h3,h4⟩:=bind_some h;simp only at h4;split at h4
  ·rename_i hc;cases h4;obtain⟨hnd,hg1,hg2⟩:=hc;refine⟨r.2.length+2,rfl,hn,?_,hnd,fun g hg=>?_,fun p hp g hg=>?_⟩
   ·have hA:=hO.lent u af ms _ _ r.1 r.2 hT hl h3;have:=Zdt.rl (ys:=xs) (hp:=[]) (clk:=clk) (d:=d) (ex:=af.exact) (l:=[]) (r0:=r.1) (hb':=r.2) (c':=0+r.2.length+2) rfl List.nodup_nil (by grind) (by simpa using hA)
    grind
   ·have:=Yl.1 hg1 g hg
    grind
   ·obtain⟨hk,rr,hr,y,hy,hgy⟩:=hg;have h5:=Yl.1 hg2 p hp;simp only[hk,if_true]at h5;have h6:=Yl.1 (Yl.1 h5 rr hr) y hy;have:=Yl.1 h6 g hgy
    grind
  grind
 grind
def zja{op:AOp}{ua:Nat×List Opd}(h:op.lentN=some ua):op=.call ua.1 ua.2:=by
 cases op<;>simp only[AOp.lentN]at h<;>try cases h
 grind
theorem zff(q:BId->Bool):∀(h:Heap) (id:BId),(h.filter fun p=>q p.1).lookup id=if q id then h.lookup id else none
 | [],id=>by grind
 | (c,x)::h,id=>by
  have ih:=zff q h id
  grind
def zey(ids:List BId)(h:Heap):Zcq (Zeu ids h) h:=by
 intro id bx hb;unfold Zeu at hb;split at hb
 ·omega
 ·rw[zff fun b=>!ids.contains b]at hb
  grind
def zug{z d g g' z' off n:Nat}{x' y:Opd}{ρ:Nat->AV}{x:AV}{hp:Heap}{c:Nat}{b:BId}{o:Box}(hv:ev ρ x'=.bs b g' z' off n)(h:stepW (.app z x' y) (some d) ρ [(b,o)] g=some (x,hp,c)) :
  ∃bx,hp=[(b,bx),(b,o)]/\c=g+1/\bx.gen=g:=by
 obtain⟨ys,_,h1⟩:=bind_some h;rw[hv]at h1;obtain⟨b0,_,h2⟩:=bind_some h1
 grind
def Inv(X h:Heap)(c0:Nat):Prop:=∀id o,X.lookup id=some o->h.lookup id=some o\/∃o',h.lookup id=some o'/\c0<=o'.gen
theorem zb9(hO:GoodO P ν T O)(tl:List AO)(h0 X:Heap)(c0:Nat)(hX0:Zcq h0 X):∀(l:List AO) (e:Env) (h:Heap) (clk:Nat) (st':St) (K:St->Prop),Zcq h0 h->c0<=clk->Inv X h c0->Zau O T tl h0 c0 X l e h clk=some st'->K st'->Zbn P h0 c0 X (fun e h clk=>Zdd P (tl.map (Zo ν (Zd T))) ⟨e,h,clk⟩ K) (l.map (Zo ν (Zd T))) e h clk
 | [],e,h,clk,st',K,_,_,_,hx,hK=>zcq hO tl _ st' K hx hK
 | o::l,e,h,clk,st',K,hsb,hck,hinv,hx,hK=>by
  simp only[Zau]at hx;simp only[Yx,Zbn];have hmk:(Zo ν (Zd T) o).op.maker=o.op.maker:=by
   obtain⟨d,g,op⟩:=o;cases op<;>first | rfl | (rename_i k xs;cases k<;>rfl)
  have hsE:(Zo ν (Zd T) o).op.isStore=o.op.isStore:=by
   obtain⟨d,g,op⟩:=o;cases op<;>first | rfl | (rename_i k xs;cases k<;>rfl)
  have hadd:∀(B:Heap),(∀p∈B,h.lookup p.1=none)->Zcq h0 (B++h):=by
   intro B hB id bx hid;have h1:=hsb id bx hid
   grind
  have hiadd:∀(B:Heap),(∀p∈B,h.lookup p.1=none)->Inv X (B++h) c0:=by
   intro B hB id o ho;have hn:B.lookup id=none:=by
    cases hl:B.lookup id with
    | none=>rfl
    | some y=>
     rcases hinv id o ho with h2 | ⟨o',h2,_⟩<;>(grind)
   rw[zck,hn];simpa using hinv id o ho
  have hXn:∀id,h.lookup id=none->X.lookup id=none:=by
   intro id hid;cases hl:X.lookup id with
   | none=>rfl
   | some o=>rcases hinv id o hl with h2 | ⟨o',h2,_⟩<;>(grind)
  have h0n:∀id,X.lookup id=none->h0.lookup id=none:=by
   intro id hid;cases hl:h0.lookup id with
   | none=>rfl
   | some o=>have:=hX0 _ _ hl;grind
  rw[hmk,hsE];cases hm:o.op.maker with
  | true=>
   rw[hm]at hx;simp only at hx ⊢;split at hx
   ·rename_i d hg hd;have hop:Zcw ν (Zd T) o.op=o.op:=by
     obtain⟨d,g,op⟩:=o;cases op<;>first | rfl | (cases hm;done) | (rename_i k xs;cases k<;>first | rfl | cases hm)
    split at hx
    rotate_left
    ·rename_i p how;obtain⟨q,h1,h2⟩:=bind_some hx;split at h2
     ·rename_i hc;obtain⟨x,hp,c'⟩:=q;obtain⟨b,bo⟩:=p;obtain⟨z,x',y,g',z',off,n,hopa,hev⟩:∃z x' y g' z' off n,o.op=.app z x' y/\ev e.get x'=.bs b g' z' off n:=by
       unfold Zg7 at how;split at how
       ·rename_i z x' y hoa;cases hv:ev e.get x'<;>rw[hv]at how<;>simp only[Zji]at how<;>try (cases how;done)
        unfold Zj2 at how
        grind
       grind
      obtain⟨hb1,⟨ox,hb2⟩,hb3,hb4⟩:h0.lookup b=none/\(∃ox,X.lookup b=some ox)/\h.lookup b=some bo/\bo.gen<c0:=by
       rw[hopa]at how;simp only[Zg7,hev,Zji]at how;unfold Zj2 at how
       grind
      have hbx:X.lookup b=some bo:=by
       rcases hinv b ox hb2 with h3 | ⟨o',h3,h4⟩
       all_goals grind
      obtain⟨bx,rfl,rfl,hbg⟩:=zug hev (by rw[hopa]at h1;exact h1);simp only[List.take_succ_cons,Ycf]at h2 hc;refine⟨hg,d,x,b,bx,some bo,hd,by rw[show (Zo ν (Zd T) o).op=o.op from hop];exact h1,hb3,hbx,hb1,fun o2 ho2=>by grind,fun g hgb=>?_,zb9 hO tl h0 X c0 hX0 l _ _ _ st' K (fun id y hy=>?_) (by omega) (fun id o2 ho2=>?_) h2 hK⟩
      ·obtain⟨hk,r,hr,y,hy,hgy⟩:=hgb;simp only[Zhv,Ybk,Ycd,Ydj,hk,if_true,Yl]at hc;exact zfz (hc r hr y hy) g hgy
      ·have hne:(id == b)=false:=by
        grind
       rw[Yas,hne];exact hsb id y hy
      ·rw[Yas];by_cases hi:id=b
       ·grind
       ·have hne:(id == b)=false:=by grind
        rw[hne];exact hinv id o2 ho2
     grind
    obtain⟨q,h1,h2⟩:=bind_some hx;split at h2
    ·rename_i hc;simp only[Yk]at hc;obtain⟨x,hp,c'⟩:=q;obtain⟨bx,rfl,rfl⟩:∃bx,hp=[(.loc d,bx)]/\c'=clk+1:=znm hm h1;have hln:h.lookup (.loc d)=none:=Ycu.1 hc.1;have hB1:∀p∈[((.loc d:BId),bx)],h.lookup p.1=none:=fun p hp=>by grind
     refine⟨hg,d,x,.loc d,bx,none,hd,by rw[show (Zo ν (Zd T) o).op=o.op from hop];exact h1,hln,hXn _ hln,h0n _ (hXn _ hln),fun o2 ho2=>(by grind),fun g hgb=>?_,zb9 hO tl h0 X c0 hX0 l _ _ _ st' K (hadd [(.loc d,bx)] hB1) (by omega) (hiadd _ hB1) h2 hK⟩;obtain⟨hk,r,hr,y,hy,hgy⟩:=hgb;have h3:=hc.2;simp only[Zhv,Ybk,Ycd,Ydj,hk,if_true,Yl]at h3;exact zfz (h3 r hr y hy) g hgy
    grind
   grind
  | false=>
   rw[hm]at hx;cases hst:o.op.isStore with
   | true=>
    rw[hst]at hx;simp only at hx ⊢;split at hx
    ·rename_i hg hd;obtain⟨q,h1,h2⟩:=bind_some hx;split at h2
     ·rename_i hfr;obtain⟨dd,gg,op⟩:=o;subst hg hd;cases op<;>try (cases hst;done)
      rename_i n x v;obtain⟨h',e1,rfl⟩:=map_some h1;refine⟨rfl,rfl,h',?_,?_,zb9 hO tl h0 X c0 hX0 l e h' clk st' K ?_ hck ?_ h2 hK⟩
      ·show stepW (.store n x v) none e.get h clk=_;simp only[stepW,e1]
       rfl
      rotate_left 2
      ·intro id bx hid;simp only[Zfw]at hfr;unfold Zbf at e1;split at e1
       ·rename_i id2 g z i o hx2;rw[hx2]at hfr;obtain⟨bx2,_,e2⟩:=bind_some e1;obtain⟨r2,_,e3⟩:=bind_some e2;obtain⟨cs,_,e4⟩:=bind_some e3;split at e4
        ·cases e4;have hne:(id == id2)=false:=by
          grind
         simp only[Yas,hne];exact hinv id bx hid
        grind
       grind
      all_goals
       intro id bx hid;have h3:=hsb id bx hid;replace hid:=hX0 id bx hid;simp only[Zfw]at hfr;unfold Zbf at e1;split at e1
       ·rename_i id2 g z i o hx2;rw[hx2]at hfr;simp only[Ycu]at hfr;obtain⟨bx2,_,e2⟩:=bind_some e1;obtain⟨r2,_,e3⟩:=bind_some e2;obtain⟨cs,_,e4⟩:=bind_some e3
        grind
       grind
     grind
    grind
   | false=>
   rw[hst]at hx;cases hlN:o.op.lentN with
   | some ua=>
    rw[hlN]at hx;simp only at hx;split at hx
    ·rename_i d hg hd;obtain⟨q,h1,h2⟩:=bind_some hx;split at h2
     ·rename_i hfr;obtain⟨m,hm2,hcb⟩:=zn2 hO h1;obtain⟨dd,gg,op⟩:=o;subst hg hd;have hop:=zja hlN;subst hop;rw[hm2]at h2;exact .inr ⟨rfl,ν ua.1,ua.2,d,q.1,q.2.1,m,rfl,rfl,hcb,fun p hp=>by simpa using Yl.1 hfr p hp,zb9 hO tl h0 X c0 hX0 l _ _ _ st' K (hadd _ fun p hp=>by simpa using Yl.1 hfr p hp) (by omega) (hiadd _ fun p hp=>by simpa using Yl.1 hfr p hp) h2 hK⟩
     grind
    grind
   | none=>
   rw[hlN]at hx;obtain⟨x,h1,h2⟩:=bind_some hx;split at h2
   ·rename_i hc;refine .inl ?_;exact(zei hO (K:=fun x=>(∀g∈gnA x,Zfi c0 (Zo ν (Zd T) o).op e.get g)/\Zbn P h0 c0 X (fun e h clk=>Zdd P (tl.map (Zo ν (Zd T))) ⟨e,h,clk⟩ K) (l.map (Zo ν (Zd T))) (Ze e o.dst x) h clk) h1 ⟨zfz hc,zb9 hO tl h0 X c0 hX0 l _ h clk st' K hsb hck hinv h2 hK⟩).1
   grind
def zuh{O:Orc}{u:Nat}{xs:List AV}{d:Option Nat}{st s:St}(h:Zah O T u xs d st=some s):∃r,s.env=Ze st.env d r:=by
 unfold Zah at h;split at h
 ·cases h
 split at h
 ·obtain⟨ys,h1,h2⟩:=bind_some h;obtain⟨r,h3,h4⟩:=bind_some h2;cases h4;exact⟨_,rfl⟩
 ·obtain⟨ys,h1,h2⟩:=bind_some h;simp only at h2;split at h2
  ·obtain⟨r,h3,h4⟩:=bind_some h2;split at h4
   ·cases h4;exact⟨_,rfl⟩
   ·cases h4
  ·cases h2
def zq6{f:FuncId}{xs:List AV}{h:Heap}{K K':AV->Heap->Prop}(hk:∀r h,K r h->K' r h)(hc:Zfg P f xs h K):Zfg P f xs h K':=by
 obtain⟨ys,post,h1,h2,h3⟩:=hc;exact⟨ys,post,h1,h2,fun r hr=>hk _ _ (h3 r hr)⟩
def zq7{f:FuncId}{xs:List AV}{h:Heap}{clk:Nat}{K K':AV->Heap->Nat->Prop}(hk:∀r h c,K r h c->K' r h c)(hc:Zfh P f xs h clk K):Zfh P f xs h clk K':=by
 obtain⟨ms,ys,h1,hb,hr,post,h2,h3,h4,h5⟩:=hc;refine⟨ms,ys,h1,hb,hr,post,h2,h3,h4,fun r hb' c' h6 h7=>?_⟩;obtain⟨e1,e2,e3,e4⟩:=h5 r hb' c' h6 h7;exact⟨e1,e2,e3,hk _ _ _ e4⟩
def zpn{op:AOp}{e:Env}{h:Heap}{older:List Heap}{K K':AV->Prop}(hk:∀x,K x->K' x)(hc:opQ P op e h older K):opQ P op e h older K':=by
 by_cases hap:∃z x0 y,op=.app z x0 y
 ·obtain⟨z,x0,y,rfl⟩:=hap;by_cases hx:x0=.c (.sl [] .nl)
  ·subst hx;obtain⟨x,h1,h2⟩:=hc;exact⟨x,h1,hk _ h2⟩
  ·cases x0 with
   | t n=>
    obtain⟨x,h1,h2,h3⟩:=hc;exact⟨x,h1,h2,hk _ h3⟩
   | c a=>
    cases a
    case sl els f=>
     cases els with
     | nil=>
      cases f
      case nl=>exact absurd rfl hx
      all_goals
       obtain⟨x,h1,h2,h3⟩:=hc;exact⟨x,h1,h2,hk _ h3⟩
     | cons r l=>
      obtain⟨x,h1,h2,h3⟩:=hc;exact⟨x,h1,h2,hk _ h3⟩
    all_goals
     obtain⟨x,h1,h2,h3⟩:=hc;exact⟨x,h1,h2,hk _ h3⟩
 cases op<;>(try exact absurd ⟨_,_,_,rfl⟩ hap)
 case call f args=>
  obtain⟨ys,h1,r,h3,h4⟩:=hc;exact⟨ys,h1,r,h3,hk _ h4⟩
 case inv=>
  obtain⟨h0,t,y,f,h1,h2,h3,r,h4,h5⟩:=hc;exact⟨h0,t,y,f,h1,h2,h3,r,h4,hk _ h5⟩
 case bsl=>
  obtain⟨h1,q,h2,h3⟩:=hc;exact⟨h1,q,h2,hk _ h3⟩
 all_goals
  obtain⟨x,h1,h2,h3⟩:=hc;exact⟨x,h1,h2,hk _ h3⟩
def zz6{o:AO}{e:Env}{h:Heap}{older:List Heap}{K K':AV->Prop}(hk:∀x,K x->K' x)(hc:qK P o e h older K):qK P o e h older K':=by
 unfold qK at hc ⊢;split at hc
 ·exact zpn hk hc
 ·split at hc
  ·split at hc
   ·rename_i hv;simp only[hv,if_true];exact zpn hk hc
   ·rename_i hv;simp only[hv,if_false];exact hk _ hc
  ·exact hk _ hc
  ·exact hc
def zdn(hO:GoodO P ν T O){o:AO}{e:Env}{h:Heap}{clk:Nat}{s:St}(hx:Zed O T o ⟨e,h,clk⟩=some s):∃x,Zdv P (Zo ν (Zd T) o) e.get h clk x s.heap s.clk/\s.env=Ze e o.dst x:=by
 obtain⟨dst,g,op⟩:=o;unfold Zed at hx;simp only at hx;split at hx
 ·rename_i d u args;obtain⟨x,hx2⟩:=zuh hx;have hc:=zc0 hO (K:=fun s'=>s'=s) hx rfl;refine⟨x,⟨rfl,ν u,args,rfl,?_⟩,hx2⟩;have key:∀r (h':Heap) (c:Nat),(⟨Ze e (some d) r,h',c⟩:St)=s->r=x/\h'=s.heap/\c=s.clk:=by
   intro r h' c he;subst he;simp only[Ze]at hx2
   simp_all
  rcases hc with hc | hc
  ·exact .inl (zq6 (fun r h' hk=>key r h' clk hk) hc)
  ·exact .inr (zq7 (fun r h' c hk=>key r h' c hk) hc)
 ·cases hx
def QS(P:Program)(h0 h1:Heap):List AO->Env->Env->Prop
 | [],e,e'=>e=e'
 | o::r,e,e'=>∃x,QF P h0 o e.get x/\QF P h1 o e.get x/\QS P h0 h1 r (Ze e o.dst x) e'
def zfg(hO:GoodO P ν T O){o:DO}{e:Env}{h:Heap}{older:List Heap}{r:AV×Bool}(hw:o.ao.op.writes=false)(hx:qX O T o.ao e h older=some r) :
  QF P h (Zo ν (Zd T) o.ao) e.get r.1/\(∀h'∈older,QF P h' (Zo ν (Zd T) o.ao) e.get r.1)/\((∀h',QF P h' (Zo ν (Zd T) o.ao) e.get r.1)\/(r.2=true/\o.ao.op.free=false/\∀h',Zgb o.ao.op e.get h'=some r.1->QF P h' (Zo ν (Zd T) o.ao) e.get r.1)):=by
 have hw':(Zo ν (Zd T) o.ao).op.writes=false:=by
  rw[<-hw];exact zbf _
 obtain⟨hqk,k1,k2⟩:=zei hO (K:=fun x=>x=r.1) hx rfl;obtain⟨x,hq1,hq2,hxr⟩:=zqn hw' hqk;subst hxr;refine⟨hq1,fun h' hh=>?_,?_⟩
 ·cases hf:(Zo ν (Zd T) o.ao).op.freeE e.get with
  | true=>exact zj2 hf h _ hq1
  | false=>exact hq2 hf h' hh
 ·cases hr2:r.2 with
  | false=>
   obtain⟨h3,h4⟩:=k2 hr2;exact .inl fun h'=>by
    rw[h3];exact zuf h4
  | true=>
   cases hf:o.ao.op.free with
   | true=>exact .inl fun h'=>zpl (zpm hx hr2 hf) hq1
   | false=>exact .inr ⟨rfl,rfl,fun h' hs=>zpk hf hw (k1 hr2) hs⟩
theorem zjb(hO:GoodO P ν T O){K:Env->Zae->Option St}{h:Heap}:∀(l:List DO) (e:Env) (pend:Zae) (st':St),(∀o∈l,0<o.hi)->Zc6 O T K h l e pend=some st' ->
  ∃e' pend',K e' pend'=some st'/\∀h1,Z9 pend' h1=true->Z9 pend h1=true/\QS P h h1 (l.map fun o=>Zo ν (Zd T) o.ao) e e'
 | [],e,pend,st',_,hx=>⟨e,pend,hx,fun h1 hp=>⟨hp,rfl⟩⟩
 | o::l,e,pend,st',hhi,hx=>by
  unfold Zc6 at hx;split at hx
  ·cases hx
  rename_i hw;obtain⟨r,h1,h2⟩:=bind_some hx;obtain⟨e',pend',h3,h4⟩:=zjb hO l _ _ st' (fun o ho=>hhi o (Yh _ ho)) h2;obtain⟨q1,_,q2⟩:=zfg hO hw h1;refine⟨e',pend',h3,fun hp1 hp=>?_⟩;obtain⟨h5,h6⟩:=h4 hp1 hp;have hpn:=hhi o Yj;have hold:Z9 pend hp1=true:=by
   classical
   unfold Z9;refine decide_eq_true fun p hp h0=>zb8 h5 p ?_ h0;unfold Zbh;split
   ·exact Yh _ hp
   ·exact hp
  refine⟨hold,r.1,q1,?_,h6⟩;rcases q2 with q2 | ⟨e1,e2,q2⟩
  ·exact q2 hp1
  ·refine q2 hp1 (zb8 h5 (o.hi-0,o.ao.op,e,r.1) ?_ (by simpa using hpn));unfold Zbh;rw[e1,e2];simp[hpn]
theorem zl5{h0 h1:Heap}{c0 c1:Nat}{K:St->Prop}{tl:List AO}:∀(l r:List AO) (e e':Env),QS P h0 h1 l e e'->Zc5 P tl h0 c0 h1 c1 K false r e'->Zc5 P tl h0 c0 h1 c1 K false (l++r) e
 | [],r,e,e',hq,hk=>by cases hq;exact hk
 | o::l,r,e,e',⟨x,h2,h3,h4⟩,hk=>.inl ⟨x,h2,h3,zl5 l r _ e' h4 hk⟩
theorem zhp(hO:GoodO P ν T O){K:Env->Option St}{h0 h1:Heap}{c0 c1:Nat}{Q:St->Prop}{tl:List AO}{st':St}(hK:∀e,K e=some st'->Zdd P tl ⟨e,h1,c1⟩ Q):∀(l:List AO) (e:Env),Zc7 O T K h0 h1 l e=some st' ->
  Zc5 P tl h0 c0 h1 c1 Q true (l.map (Zo ν (Zd T))) e
 | [],e,hx=>⟨rfl,hK e hx⟩
 | o::l,e,hx=>by
  unfold Zc7 at hx;split at hx
  ·cases hx
  rename_i hw;obtain⟨r,e1,e2⟩:=bind_some hx;obtain⟨q1,q2,_⟩:=zfg hO (o:=⟨o,0,0⟩) hw e1;exact .inl ⟨r.1,q2 h0 Yj,q1,zhp hO hK l _ e2⟩
def zn3(hO:GoodO P ν T O){l1 l2 tl:List AO}{o:AO}{st st':St}{K:St->Prop}(hx:Zgc O T l1 o l2 tl st=some st')(hK:K st') :
  ∃h1 c1,Zc5 P (tl.map (Zo ν (Zd T))) st.heap st.clk h1 c1 K false (l1.map (Zo ν (Zd T))++Zo ν (Zd T) o::l2.map (Zo ν (Zd T))) st.env:=by
 unfold Zgc at hx;obtain⟨e',pend',h1,h2⟩:=zjb hO _ _ _ st' (fun o ho=>by
  obtain⟨o',_,rfl⟩:=Yy.1 ho;exact Nat.one_pos) hx
 obtain⟨s,h3,h4⟩:=bind_some h1;split at h4
 ·rename_i hpd;obtain⟨x,hcd,henv⟩:=zdn hO h3;obtain⟨_,hqs⟩:=h2 s.heap hpd;refine⟨s.heap,s.clk,zl5 _ _ _ e' (by simpa[Ybm,Function.comp_def]using hqs) (.inr ⟨rfl,x,hcd,?_⟩)⟩;show Zc5 P _ st.heap st.clk s.heap s.clk K true _ (Ze e' o.dst x);rw[<-henv];exact zhp hO (fun e he=>zcq hO tl _ st' K he hK) l2 _ h4
 ·cases h4
theorem zd1{K:St->Prop}:∀(l:List DO) (e:Env) (h:Heap) (clk:Nat) (older:List Heap) (pend:Zho),Ze0 P l e h clk older pend K->Zbo P (l.map fun o=>(false,o)) e h clk older pend K
 | [],_,_,_,_,_,h=>h
 | o::l,e,h,clk,older,pend,hk=>by
  simp only[Yx,Zbo];simp only[Ze0]at hk;cases hw:o.ao.op.writes with
  | true=>
   rw[hw]at hk;obtain⟨h1,q,h2,h3,h4⟩:=hk;exact⟨h1,q,h2,h3,zd1 l _ _ _ _ _ h4⟩
  | false=>
   rw[hw]at hk;simp only at hk ⊢;exact zz6 (fun x hx=>zd1 l _ _ _ _ _ hx) hk
theorem zjc(hO:GoodO P ν T O){K:Env->Zae->Option St}{h:Heap}{clk:Nat}{rest:List (Bool×DO)}{Q:St->Prop}{st':St}(hK:∀e pendX pend,Zev pendX pend->K e pendX=some st'->Zbo P rest e h clk [] pend Q) :
  ∀(l:List DO) (e:Env) (pendX:Zae) (pend:Zho),Zev pendX pend->Zc6 O T K h l e pendX=some st'->Zbo P ((l.map fun o=>(false,Zcf ν (Zd T) o))++rest) e h clk [] pend Q
 | [],e,pendX,pend,hpr,hx=>hK e pendX pend hpr hx
 | o::l,e,pendX,pend,hpr,hx=>by
  unfold Zc6 at hx;split at hx
  ·cases hx
  rename_i hw;have hw':(Zcf ν (Zd T) o).ao.op.writes=false:=by
   rw[<-hw];exact zbf _
  obtain⟨r,h1,h2⟩:=bind_some hx;simp only[Yx,Ycv,Zbo,hw',List.take_nil];have hk2:Zbo P ((l.map fun o=>(false,Zcf ν (Zd T) o))++rest) (Ze e o.ao.dst r.1) h clk [] ((o.hi,fun h'=>QF P h' (Zo ν (Zd T) o.ao) e.get r.1)::pend) Q:=by
   refine zjc hO hK l _ _ _ ?_ h2;obtain⟨_,_,q2⟩:=zfg hO hw h1;intro q hq;rcases Yn.1 hq with rfl | hq
   ·rcases q2 with q2 | ⟨e1,e2,q2⟩
    ·exact .inl q2
    ·by_cases hn:0<o.hi
     ·refine .inr (.inr ⟨(o.hi-0,o.ao.op,e,r.1),?_,rfl,q2⟩);unfold Zbh;rw[e1,e2];simp[hn]
     ·exact .inr (.inl (by show o.hi=0;omega))
   ·rcases hpr q hq with h3 | h3 | ⟨p,h3,h4,h5⟩
    ·exact .inl h3
    ·exact .inr (.inl h3)
    ·refine .inr (.inr ⟨p,?_,h4,h5⟩);unfold Zbh;split
     ·exact Yh _ h3
     ·exact h3
  exact(zei hO (K:=fun x=>Zbo P ((l.map fun o=>(false,Zcf ν (Zd T) o))++rest) (Ze e o.ao.dst x) h clk [] ((o.hi,fun h'=>QF P h' (Zo ν (Zd T) o.ao) e.get x)::pend) Q) h1 hk2).1
def zn4(hO:GoodO P ν T O){l1 l2:List DO}{o:AO}{st st':St}{K:St->Prop}(hx:Zgd O T l1 o l2 st=some st')(hK:K st') :
  Zbo P ((l1.map (Zcf ν (Zd T))).map (fun o=>(false,Zeh 0 o))++(true,⟨Zo ν (Zd T) o,0,0⟩)::(l2.map (Zcf ν (Zd T))).map (fun o=>(false,Zeh 0 o))) st.env st.heap st.clk [] [] K/\o.op.writes=false:=by
 unfold Zgd at hx;split at hx
 ·cases hx
 rename_i hwn;refine⟨?_,by simpa using hwn⟩;have hadj:∀l:List DO,(l.map (Zcf ν (Zd T))).map (fun o=>(false,Zeh 0 o))=(l.map (Zeh 0)).map (fun o=>(false,Zcf ν (Zd T) o)):=fun l=>by
  simp only[Ybm]
  rfl
 rw[hadj l1,hadj l2];refine zjc hO (fun e pendX pend hpr h1=>?_) _ _ _ _ (fun q hq=>by cases hq) hx;obtain⟨s,h3,h4⟩:=bind_some h1;split at h4
 ·rename_i hpd;obtain⟨x,hcd,henv⟩:=zdn hO h3;refine⟨x,s.heap,s.clk,hcd,fun p hp h0=>?_,?_⟩
  ·rcases hpr p hp with h5 | h5 | ⟨p',h5,h6,h7⟩
   ·exact h5 _
   ·omega
   ·exact h7 _ (zb8 hpd p' h5 (by omega))
  ·show Zbo P _ (Ze e o.dst x) s.heap s.clk [st.heap] _ K;rw[<-henv];have:=zc1 hO (l2.map (Zeh 0)) s.env s.heap s.clk [st.heap] _ (pend.map fun p=>(p.1-1,p.2)) st' K hpr.next h4 hK;have h8:=zd1 _ _ _ _ _ _ this;rw[Ybm]at h8;exact h8
 ·cases h4
theorem zui{hs hs':List Heap}(h:∀x∈hs',x∈hs):∀(l:List AO) (e e':Env),QL P hs l e e'->QL P hs' l e e'
 | [],e,e',hq=>hq
 | o::l,e,e',⟨x,h1,h2⟩=>⟨x,fun y hy=>h1 y (h y hy),zui h l _ _ h2⟩
theorem zjd(hO:GoodO P ν T O){K:Env->Zae->Option St}{h:Heap}:∀(l:List DO) (e:Env) (pend:Zae) (st':St),(∀o∈l,0<o.hi)->Zc6 O T K h l e pend=some st' ->
  (∀o∈l,o.ao.op.writes=false)/\∃e' pend',K e' pend'=some st'/\∀hs:List Heap,(∀h1∈hs,Z9 pend' h1=true)->(∀h1∈hs,Z9 pend h1=true)/\QL P (h::hs) (l.map fun o=>Zo ν (Zd T) o.ao) e e'
 | [],e,pend,st',_,hx=>⟨(fun o ho=>by cases ho),e,pend,hx,fun hs hp=>⟨hp,rfl⟩⟩
 | o::l,e,pend,st',hhi,hx=>by
  unfold Zc6 at hx;split at hx
  ·cases hx
  rename_i hw;obtain⟨r,h1,h2⟩:=bind_some hx;obtain⟨hwl,e',pend',h3,h4⟩:=zjd hO l _ _ st' (fun o ho=>hhi o (Yh _ ho)) h2;obtain⟨q1,_,q2⟩:=zfg hO hw h1;refine⟨fun o' ho=>?_,e',pend',h3,fun hs hp=>?_⟩
  ·rcases Yn.1 ho with rfl | ho
   ·exact hw
   ·exact hwl o' ho
  obtain⟨h5,h6⟩:=h4 hs hp;have hpn:=hhi o Yj;refine⟨fun hp1 hm=>?_,r.1,fun hp1 hm=>?_,h6⟩
  ·classical
   unfold Z9;refine decide_eq_true fun p hp h0=>zb8 (h5 hp1 hm) p ?_ h0;unfold Zbh;split
   ·exact Yh _ hp
   ·exact hp
  ·rcases Yn.1 hm with rfl | hm
   ·exact q1
   ·rcases q2 with q2 | ⟨e1,e2,q2⟩
    ·exact q2 hp1
    ·refine q2 hp1 (zb8 (h5 hp1 hm) (o.hi-0,o.ao.op,e,r.1) ?_ (by simpa using hpn));unfold Zbh;rw[e1,e2];simp[hpn]
theorem zhq(hO:GoodO P ν T O){K:Env->Option St}{hs:List Heap}{h1:Heap}{st':St}:∀(l:List AO) (e:Env),Zc8 O T K hs h1 l e=some st' ->
  (∀o∈l,o.op.writes=false)/\∃e',K e'=some st'/\QL P (h1::hs) (l.map (Zo ν (Zd T))) e e'
 | [],e,hx=>⟨(fun o ho=>by cases ho),e,hx,rfl⟩
 | o::l,e,hx=>by
  unfold Zc8 at hx;split at hx
  ·cases hx
  rename_i hw;obtain⟨r,e1,e2⟩:=bind_some hx;obtain⟨q1,q2,_⟩:=zfg hO (o:=⟨o,0,0⟩) hw e1;obtain⟨hwl,e',h3,h4⟩:=zhq hO l _ e2;refine⟨fun o' ho=>?_,e',h3,r.1,fun hp hm=>?_,h4⟩
  ·rcases Yn.1 ho with rfl | ho
   ·exact hw
   ·exact hwl o' ho
  ·rcases Yn.1 hm with rfl | hm
   ·exact q1
   ·exact q2 hp hm
def zuj{h h':Heap}(hs:Zk5 h h'=true):Zjh h h':=by
 classical
 unfold Zk5 at hs;intro b bx hb;exact of_decide_eq_true hs (b,bx) (za2 _ _ _ hb)
def zn5(hO:GoodO P ν T O){cx:Cx}(hP:cx.P=P){l1 l2:List DO}{o:AO}{da n:Nat}{cs:List AV}{xs vs:Opd}{st st':St}{Q:Exit->St->Prop}(hx:Ze2 O T l1 o l2 da cs n xs vs st=some st')(hK:Q .normal st') :
  AWp cx (.draw (l1.map (Zcf ν (Zd T)) ++ ⟨Zo ν (Zd T) o,0,1⟩::(l2.map (Zcf ν (Zd T))++[⟨⟨some da,none,.alloc cs⟩,0,1⟩,⟨⟨none,none,.store n xs vs⟩,1,2⟩]))) Q st:=by
 subst hP;unfold Ze2 at hx;split at hx
 case isFalse=>cases hx
 rename_i hlow;simp only[Yk,Bool.not_eq_true']at hlow;obtain⟨⟨hl1,hl2⟩,how⟩:=hlow;obtain⟨hw1,e',pend',h1,h2⟩:=zjd hO _ _ _ st' (fun o ho=>by
  obtain⟨o',_,rfl⟩:=Yy.1 ho;exact Nat.one_pos) hx
 obtain⟨s1,h3,h4⟩:=bind_some h1;obtain⟨s2,h5,h6⟩:=bind_some h4;split at h6
 case isFalse=>cases h6
 rename_i hc;simp only[Yk]at hc;obtain⟨⟨⟨p1,p2⟩,p3⟩,hsame,hsub⟩:=hc;obtain⟨i1,i2,i3⟩:s2.env=s1.env/\st.clk<=s1.clk/\s1.clk+1<=s2.clk:=by
  classical
  unfold Zj3 at hsame;exact of_decide_eq_true hsame
 obtain⟨x,hcd,henv⟩:=zdn hO h3;obtain⟨x2,hcd2,henv2⟩:=zdn hO h5;have hxx:x2=x:=by
  rw[henv,henv2]at i1;obtain⟨dst,g,op⟩:=o;unfold Zed at h3;simp only at h3 i1;split at h3
  ·simp only[Ze,List.cons.injEq,Prod.mk.injEq,and_true,true_and]at i1;exact i1
  ·cases h3
 subst hxx;obtain⟨hw2,e2,h7,h8⟩:=zhq hO _ _ h6;obtain⟨h9,hst,hq2⟩:=map_some h7;subst hq2;obtain⟨_,hq1⟩:=h2 [s1.heap,(.loc da,⟨s1.clk,.str,cs.length,[cs]⟩)::st.heap,s2.heap] (fun y hy=>by
  simp only[Yn,Yay,or_false]at hy;rcases hy with rfl | rfl | rfl
  ·exact p1
  ·exact p2
  ·exact p3)
 refine zt4 (h1:=s1.heap) (hb:=s2.heap) (hm:=s2.heap) (c1:=s1.clk) (cb:=s2.clk) (cm:=s2.clk) (e1:=e') (e2:=e2) (x:=x2) (fun d hd=>?_) (by show (Zcw ν (Zd T) o.op).writes=false;rw[zbf];exact how) ?_ hcd hcd2 (fun _ _ h=>h) (Yi _) ?_ (zuj hsub) hst hK i2 i3
 ·unfold Zh5 at hl1 hl2;rw[Yl]at hl1 hl2;rcases Yaj.1 hd with hd | hd
  ·obtain⟨d',hd',rfl⟩:=Yy.1 hd;refine⟨of_decide_eq_true (hl1 d' hd'),?_⟩;show (Zcw ν (Zd T) d'.ao.op).writes=false;rw[zbf];exact hw1 ⟨d'.ao,0,1⟩ (Yy.2 ⟨d',hd',rfl⟩)
  ·obtain⟨d',hd',rfl⟩:=Yy.1 hd;refine⟨of_decide_eq_true (hl2 d' hd'),?_⟩;show (Zcw ν (Zd T) d'.ao.op).writes=false;rw[zbf];exact hw2 d'.ao (Yy.2 ⟨d',hd',rfl⟩)
 ·have:=zui (hs':=[st.heap,s1.heap,(.loc da,⟨s1.clk,.str,cs.length,[cs]⟩)::st.heap,s2.heap]) (fun y hy=>hy) _ _ _ hq1;simpa[Ybm,Function.comp_def,Zcf]using this
 ·have:=zui (hs':=[st.heap,s1.heap,(.loc da,⟨s1.clk,.str,cs.length,[cs]⟩)::st.heap,s2.heap]) (fun y hy=>by
   simp only[Yn,Yay,or_false]at hy ⊢;rcases hy with h | h | h | h
   ·exact .inr (.inl h)
   ·exact .inr (.inr (.inl h))
   ·exact .inr (.inr (.inr h))
   ·exact .inl h) _ _ _ h8
  rw[henv]at this;rw[Ybm]at this ⊢;exact this
def zuk{cx:Cx}{c:AC}{st:St}{id:Nat}{o:Option (Ex×St)}{e:Ex}{st':St}(h0:∀e1 s1,o=some (e1,s1)->AWp cx c (Is e1 s1) st)
  (h:(o.bind fun r=>match r.1 with | .x j=>if j=id then some (Ex.n,r.2) else some r | _=>some r)=some (e,st')):AWp cx (.block id c) (Is e st') st:=by
 obtain⟨⟨e1,s1⟩,h1,h2⟩:=bind_some h;refine zle ((h0 e1 s1 h1).mono ?_)
 rintro ex s ⟨rfl,rfl⟩
 cases e1 with
 | n=>cases h2;exact⟨rfl,rfl⟩
 | x j=>
  simp only at h2;show Zd5 id _ (.exit j) _;simp only[Zd5];split at h2
  ·rename_i hj;rw[if_pos hj];cases h2;exact⟨rfl,rfl⟩
  ·rename_i hj;rw[if_neg hj];cases h2;exact⟨rfl,rfl⟩
 | r=>cases h2;exact⟨rfl,rfl⟩
 | g l=>cases h2;exact⟨rfl,rfl⟩
def zxe{k:Nat}{cx:Cx}(hk:cx.clk0=k+1){c:AC}{st:St}{g:Gh}{o:Option (Ex×St)}{e:Ex}{st':St}(h0:∀e1 s1,o=some (e1,s1)->AWp cx c (Is e1 s1) st)
  (h:(o.bind fun r=>match r.1 with | .n=>(ghS k g r.2).map fun s=>(Ex.n,s) | _=>some r)=some (e,st')):AWp cx c (Is e st') st:=by
 obtain⟨⟨e1,s1⟩,h1,h2⟩:=bind_some h;intro code hc hm a w hr;refine wp_mono (h0 e1 s1 h1 code hc hm a w hr) ?_
 rintro ex a' w' ⟨s,⟨rfl,rfl⟩,hr'⟩
 cases e1 with
 | n=>
  obtain⟨s2,h3,h4⟩:=map_some h2;cases h4;exact⟨_,⟨rfl,rfl⟩,hr'.gh hk h3⟩
 | x id=>cases h2;exact⟨_,⟨rfl,rfl⟩,hr'⟩
 | r=>cases h2;exact⟨_,⟨rfl,rfl⟩,hr'⟩
 | g l=>cases h2;exact⟨_,⟨rfl,rfl⟩,hr'⟩
theorem zaw(hO:GoodO P ν T O){k:Nat}{cx:Cx}(hP:cx.P=P)(hk:cx.clk0=k+1):∀(c:AX) (st:St) (e:Ex) (st':St),evX O T k c st=some (e,st')->AWp cx (er ν (Zd T) c) (Is e st') st
 | .skip,st,e,st',h=>by cases h;exact zwz ⟨rfl,rfl⟩
 | .reg l,st,e,st',h=>by
  obtain⟨s,h1,h2⟩:=map_some h;cases h2;refine zzw ?_;rw[hP];exact zcq hO l st st' _ h1 ⟨rfl,rfl⟩
 | .draw l,st,e,st',h=>by
  obtain⟨s,h1,h2⟩:=map_some h;cases h2;refine zw0 ?_;rw[hP];exact zc1 hO l _ _ _ _ _ _ st' _ (fun q hq=>by simp at hq) h1 ⟨rfl,rfl⟩
 | .drawT hd tl,st,e,st',h=>by
  obtain⟨s,h1,h2⟩:=map_some h;cases h2;refine zld ?_;rw[hP];exact zho hO tl hd _ _ _ st' _ h1 ⟨rfl,rfl⟩
 | .drawM hd tl,st,e,st',h=>by
  obtain⟨s,h1,h2⟩:=map_some h;cases h2;refine zte (zey (Zep hd st.env) st.heap) ?_;rw[hP];exact zb9 hO tl _ _ _ (zey _ _) hd _ _ _ st' _ (zey _ _) (Yi _) (fun _ _ h=>.inl h) h1 ⟨rfl,rfl⟩
 | .drawC l1 o l2 tl,st,e,st',h=>by
  obtain⟨s,h1,h2⟩:=map_some h;cases h2;obtain⟨hp1,c1,h3⟩:=zn3 hO (K:=fun s=>Is .n st' .normal s) h1 ⟨rfl,rfl⟩;rw[<-hP]at h3;exact zt0 h3
 | .drawN l1 o l2,st,e,st',h=>by
  obtain⟨s,h1,h2⟩:=map_some h;cases h2;obtain⟨h3,h4⟩:=zn4 hO (K:=fun s=>Is .n st' .normal s) h1 ⟨rfl,rfl⟩;rw[<-hP]at h3;refine zt1 ?_ h3;show (Zcw ν (Zd T) o.op).writes=false;rw[zbf];exact h4
 | .drawR hd tl,st,e,st',h=>by
  obtain⟨s,h1,h2⟩:=map_some h;cases h2;refine zld ?_;rw[hP];exact zex hO tl hd _ _ _ st' _ h1 ⟨rfl,rfl⟩
 | .drawP l1 o l2 da cs n xs vs,st,e,st',h=>by
  obtain⟨s,h1,h2⟩:=map_some h;cases h2;exact zn5 hO hP h1 ⟨rfl,rfl⟩
 | .bad,st,e,st',h=>by cases h
 | .prim f,st,e,st',h=>by cases h
 | .seq a b,st,e,st',h=>by
  obtain⟨⟨e1,s1⟩,h1,h2⟩:=bind_some h;refine zzx ((zaw hO hP hk a st e1 s1 h1).mono ?_)
  rintro ex s ⟨rfl,rfl⟩
  cases e1 with
  | n=>exact zaw hO hP hk b _ e st' h2
  | x id=>cases h2;exact⟨rfl,rfl⟩
  | r=>cases h2;exact⟨rfl,rfl⟩
  | g l=>cases h2;exact⟨rfl,rfl⟩
 | .cond c x y,st,e,st',h=>by
  simp only[evX]at h;split at h
  ·rename_i t ht;refine zw1 ht (fun h1=>?_) (fun h1=>?_)
   ·subst h1;exact zaw hO hP hk x st e st' (by simpa using h)
   ·subst h1;exact zaw hO hP hk y st e st' (by simpa using h)
  ·cases h
 | .block id c,st,e,st',h=>by
  obtain⟨⟨e1,s1⟩,h1,h2⟩:=bind_some h;refine zle ((zaw hO hP hk c st e1 s1 h1).mono ?_)
  rintro ex s ⟨rfl,rfl⟩
  cases e1 with
  | n=>cases h2;exact⟨rfl,rfl⟩
  | x j=>
   simp only at h2;show Zd5 id _ (.exit j) _;simp only[Zd5];split at h2
   ·rename_i hj;rw[if_pos hj];cases h2;exact⟨rfl,rfl⟩
   ·rename_i hj;rw[if_neg hj];cases h2;exact⟨rfl,rfl⟩
  | r=>cases h2;exact⟨rfl,rfl⟩
  | g l=>cases h2;exact⟨rfl,rfl⟩
 | .loop c,st,e,st',h=>zhn (hO.loop k c st e st' (by simpa only[evX]using h) cx hP hk)
 | .exit id,st,e,st',h=>by cases h;exact zw2 ⟨rfl,rfl⟩
 | .ret,st,e,st',h=>by cases h;exact zzy ⟨rfl,rfl⟩
 | .note c g,st,e,st',h=>by
  obtain⟨⟨e1,s1⟩,h1,h2⟩:=bind_some h;intro code hc hm a w hr;refine wp_mono (zaw hO hP hk c st e1 s1 h1 code hc hm a w hr) ?_
  rintro ex a' w' ⟨s,⟨rfl,rfl⟩,hr'⟩
  cases e1 with
  | n=>
   obtain⟨s2,h3,h4⟩:=map_some h2;cases h4;exact⟨_,⟨rfl,rfl⟩,hr'.gh hk h3⟩
  | x id=>cases h2;exact⟨_,⟨rfl,rfl⟩,hr'⟩
  | r=>cases h2;exact⟨_,⟨rfl,rfl⟩,hr'⟩
  | g l=>cases h2;exact⟨_,⟨rfl,rfl⟩,hr'⟩
 | .lp id g c g2,st,e,st',h=>by
  obtain⟨s,h1,h2⟩:=bind_some h;have h3:((O.loop k c s).bind fun r=>match r.1 with | .x j=>if j=id then some (Ex.n,r.2) else some r | _=>some r).bind (fun r=>match r.1 with | .n=>(ghS k g2 r.2).map fun s=>(Ex.n,s) | _=>some r)=some (e,st'):=by
   rw[<-h2];cases O.loop k c s with
   | none=>rfl
   | some r=>
    obtain⟨e1,s1⟩:=r;cases e1 with
    | n=>rfl
    | r=>rfl
    | g l=>rfl
    | x j=>
     simp only[Y7];split<;>rfl
  have h4:AWp cx (.block id (.loop (er ν (Zd T) c))) (Is e st') s:=
   zxe hk (fun e1 s1 he=>zuk (fun e2 s2 he2=>zhn (hO.loop k c s e2 s2 he2 cx hP hk)) he) h3
  intro code hc hm a w hr;exact h4 code hc hm a w (hr.gh hk h1)
 | .scope c,st,e,st',h=>by
  obtain⟨⟨e1,s1⟩,h1,h2⟩:=bind_some h;refine ztf ((zaw hO hP hk c st e1 s1 h1).mono ?_)
  rintro ex s ⟨rfl,rfl⟩
  cases e1 with
  | g l=>cases h2
  | n=>cases h2;exact⟨fun l he=>(by cases he),rfl,rfl⟩
  | x j=>cases h2;exact⟨fun l he=>(by cases he),rfl,rfl⟩
  | r=>cases h2;exact⟨fun l he=>(by cases he),rfl,rfl⟩
 | .label l,st,e,st',h=>by cases h;exact ztg ⟨rfl,rfl⟩
 | .goto l,st,e,st',h=>by cases h;exact zw3 ⟨rfl,rfl⟩
 | .gsc l c r,st,e,st',h=>by
  have key:∀n o,Zj4 (fun s=>evX O T k r s) l n o=some (e,st')->∃e1 s1,o=some (e1,s1)/\GQ cx l (er ν (Zd T) r) (Is e st') n e1.out s1:=by
   intro n
   induction n with
   | zero=>intro o h;cases h
   | succ n ih=>
    intro o h;simp only[Zj4]at h;obtain⟨⟨e1,s1⟩,h1,h2⟩:=bind_some h;refine⟨e1,s1,h1,?_⟩;cases e1 with
    | g j=>
     simp only at h2;split at h2
     ·rename_i hj;obtain⟨e2,s2,h3,h4⟩:=ih _ h2;refine⟨hj,(zaw hO hP hk r s1 e2 s2 h3).mono ?_⟩
      rintro ex s ⟨rfl,rfl⟩
      exact h4
     ·cases h2
    | n=>cases h2;exact⟨rfl,rfl⟩
    | x j=>cases h2;exact⟨rfl,rfl⟩
    | r=>cases h2;exact⟨rfl,rfl⟩
  obtain⟨e1,s1,h1,h2⟩:=key _ _ h;refine zzz 100 ((zaw hO hP hk c st e1 s1 h1).mono ?_)
  rintro ex s ⟨rfl,rfl⟩
  exact h2
 | .pre g c,st,e,st',h=>by
  obtain⟨s,h1,h2⟩:=bind_some h;intro code hc hm a w hr;exact zaw hO hP hk c s e st' h2 code hc hm a w (hr.gh hk h1)
def zq8{f:FuncId}{xs:List AV}{hb:Heap}{k:Nat}{ex:Bool}{x:AV}{hh:Heap}{cc:Nat}(h:Zdt P f xs hb (k+1) (fun r h c=>r=x/\h=hh/\c=cc)) :
  Zdt P f xs hb (k+1) (fun r h c=>r=(Zcu ex k [0] ⟨[(0,x)],hh,cc⟩).env.get 0/\h=(Zcu ex k [0] ⟨[(0,x)],hh,cc⟩).heap/\c=(Zcu ex k [0] ⟨[(0,x)],hh,cc⟩).clk):=by
 refine⟨h.1,fun w S M cargs hl hC hheap hS hM=>(h.2 w S M cargs hl hC hheap hS hM).mono ?_⟩;intro e w' ⟨v,r,h',S',M',clk',he,⟨h1,h2,h3⟩,hCr,hw⟩;subst h1;subst h2;subst h3;have hrel:Rel ⟨P,1,w,S,M,k+1⟩ ⟨[(0,r)],h',clk'⟩ { tmps:=#[v],defers:=[] } w':=by
  refine⟨S',M',rfl,rfl,fun t=>?_,hw 1⟩;cases t with
  | zero=>simp_all
  | succ t=>exact .p (.dead _)
 obtain⟨S2,M2,hr2⟩:=hrel.norm (ex:=ex) (k:=k) (live:=[0]) rfl;refine⟨v,_,_,S2,M2,_,he,⟨rfl,rfl,rfl⟩,by simpa using hr2.env 0,fun nt=>?_⟩;have:=hr2.wr;exact⟨this.heap,this.ext,this.fr,this.Snew,this.Slt,this.Mnew⟩
def Z6.res{f:FuncId}{xs:List AV}{y:AV}{ex:Bool}(h:Z6 P f xs (·=y)):Z6 P f xs (·=wkIf ex y):=
 ⟨h.1,fun w S cargs hl hC hS=>(h.2 w S cargs hl hC hS).mono fun _ _ ⟨v,r,he,hr,hb,hC⟩=>⟨v,_,he,rfl,hb,by rw[<-hr];exact hC.wkIf ex⟩⟩
def TOk(P:Program)(ν:Nat->FuncId)(T:Tbl):Prop:=∀u af,T u=some af ->
 match af.body.isPrim with
 | some f=>∀xs r,f xs=some r->Z6 P (ν u) xs (·=r)
 | none=>if af.body.isBad=true then (∀m∈Zhu af,Zd6 P af.np m.1=some (ν m.2))/\(af.res.isEmpty=true->af.np=ν af.nt) else Z0 P (ν u)=some (erF ν (Zd T) af)
def GoodO.next(hT:TOk P ν T)(hm:P.follows .mixedOrders=true)(hO:GoodO P ν T O):GoodO P ν T (Zcv T O):=by
 have bad_no:∀(af:AFx) (k:Nat) (s:St) (r:Ex×St),af.body.isBad=true->evX O T k af.body s=some r->False:=by
  intro af k s r hb he;cases hbd:af.body<;>rw[hbd]at hb he<;>first | (cases hb;done) | (simp only[evX]at he;grind)
 refine⟨hO.meth,hO.fnn,fun u af xs r h hu hl hc=>?_,fun u af ms xs hb r hb' hu hl hc=>?_,fun k c st e st' h cx hP hk=>?_⟩
 ·have hTu:=hT u af hu;simp only[Zcv,hu]at hc;split at hc
  ·rename_i f hf;split at hc
   ·obtain⟨x,h1,h2⟩:=map_some hc
    grind
   grind
  rename_i hf;rw[hf]at hTu;split at hc
  ·rename_i hcond;obtain⟨⟨e,s⟩,h1,h2⟩:=bind_some hc;rw[if_neg (fun hb=>bad_no af _ _ _ hb h1)]at hTu;have key:∃x y,(e=.n\/e=.r)/\Zcl s af.res=some x/\frz s.heap x=some y/\r=wkIf af.exact y:=by
    unfold Zj5 at h2;cases e with
    | x id=>grind
    | g id=>grind
    | n=>
     obtain⟨x,h3,h4⟩:=bind_some h2;rw[hl]at h4;obtain⟨y,h5,h6⟩:=map_some h4
     grind
    | r=>
     obtain⟨x,h3,h4⟩:=bind_some h2;rw[hl]at h4;obtain⟨y,h5,h6⟩:=map_some h4
     grind
   obtain⟨x,y,he,h3,h5,rfl⟩:=key;refine Z6.res (zth hTu hm hcond.1 fun cx hP hnt hclk=>((zaw hO hP hclk af.body _ e s h1).mono ?_))
   rintro ex s' ⟨rfl,rfl⟩
   exact⟨by rcases he with rfl | rfl;exact .inl rfl;exact .inr rfl,x,y,h3,h5,rfl⟩
  grind
 ·have hTu:=hT u af hu;simp only[Zcv,hu]at hc;split at hc
  ·grind
  rename_i hf;rw[hf]at hTu;split at hc
  ·rename_i hcond;obtain⟨⟨e,s⟩,h1,h2⟩:=bind_some hc;rw[if_neg (fun hb=>bad_no af _ _ _ hb h1)]at hTu;have key:∃x,(e=.n\/e=.r)/\Zcl s af.res=some x/\r=(Zcu af.exact hb.length [0] ⟨[(0,x)],s.heap,s.clk⟩).env.get 0/\hb'=(Zcu af.exact hb.length [0] ⟨[(0,x)],s.heap,s.clk⟩).heap:=by
    unfold Zj5 at h2;cases e with
    | x id=>grind
    | g id=>grind
    | n=>
     obtain⟨x,h3,h4⟩:=bind_some h2
     grind
    | r=>
     obtain⟨x,h3,h4⟩:=bind_some h2
     grind
   obtain⟨x,he,h3,rfl,rfl⟩:=key;have hA:Zdt P (ν u) xs hb (hb.length+1) (fun r h c=>r=x/\h=s.heap/\c=s.clk):=by
    refine zlf hTu hm hcond.1 fun cx hP hnt hclk=>((zaw hO hP hclk af.body _ e s h1).mono ?_)
    rintro ex s' ⟨rfl,rfl⟩
    exact⟨by rcases he with rfl | rfl;exact .inl rfl;exact .inr rfl,x,h3,rfl,rfl,rfl⟩
   have hB:=zq8 (ex:=af.exact) hA;refine⟨hB.1,fun w S M cargs hl hC hheap hS hM=>(hB.2 w S M cargs hl hC hheap hS hM).mono ?_⟩;intro e w' ⟨v,r,h',S',M',clk',he,⟨a1,a2,a3⟩,hCr,hw⟩;refine⟨v,r,h',S',M',clk',he,⟨a1,a2,?_⟩,hCr,hw⟩;rw[a3];simp only[Zcu,Yw]
  grind
 ·obtain⟨⟨e1,s1⟩,h1,h2⟩:=bind_some h;refine zxc ((zaw hO hP hk c st e1 s1 h1).mono ?_)
  rintro ex s ⟨rfl,rfl⟩
  cases e1 with
  | n=>exact hO.loop k c _ e st' h2 cx hP hk
  | x id=>cases h2;exact⟨rfl,rfl⟩
  | r=>cases h2;exact⟨rfl,rfl⟩
  | g l=>cases h2;exact⟨rfl,rfl⟩
def zaa6(hT:TOk P ν T):∀k nm u,(nm,u)∈Zb5 T k->Zd6 P (Zd T k) nm=some (ν u):=by
 intro k nm u hm;unfold Zb5 at hm;unfold Zd;cases hT':T (1000000+k) with
 | none=>grind
 | some af=>
  rw[hT']at hm;simp only at hm ⊢;split at hm
  ·rename_i hb;have:=hT _ af hT';have hp:af.body.isPrim=none:=by cases hbd:af.body<;>rw[hbd]at hb<;>first | rfl | cases hb
   grind
  grind
def fnn0(hT:TOk P ν T):∀k u,Zgh T k=some u->Zd T k=ν u:=by
 intro k u hm;unfold Zgh at hm;unfold Zd;cases hT':T (1000000+k) with
 | none=>grind
 | some af=>
  rw[hT']at hm;simp only at hm ⊢;split at hm
  ·rename_i hb;simp only[Yk]at hb;have:=hT _ af hT';have hp:af.body.isPrim=none:=by cases hbd:af.body<;>rw[hbd]at hb<;>first | rfl | cases hb.1.1
   grind
  grind
theorem GoodO.orcN(hT:TOk P ν T)(hm:P.follows .mixedOrders=true):∀n,GoodO P ν T (orcN T n)
 | 0=>⟨zaa6 hT,fnn0 hT,fun _ _ _ _ _ _ _ h=>(by cases h),fun _ _ _ _ _ _ _ _ _ h=>(by cases h),fun _ _ _ _ _ h=>(by cases h)⟩
 | n+1=>(GoodO.orcN hT hm n).next hT hm
end
end
section
open Go.RowKit
inductive Qy where
 | call (u:Nat) (xs:List AV) (hb:Heap) (r:AV×Heap)
 | loop (k:Nat) (c:AX) (st:St) (r:Ex×St)
def Holds(O:Orc):Qy->Prop
 | .call u xs hb r=>O.call u xs hb=some r
 | .loop k c st r=>O.loop k c st=some r
def Zaj{α:Type}(f:Orc->Option α):Prop:=∀O r,f O=some r->∃L:List Qy,(∀q∈L,Holds O q)/\∀O',(∀q∈L,Holds O' q)->f O'=some r
def Zaj.const{α:Type}(a:Option α):Zaj fun _=>a:=fun _ _ h=>⟨[],by simp,fun _ _=>h⟩
def Zaj.bind{α β:Type}{g:Orc->Option α}{h:Orc->α->Option β}(hg:Zaj g)(hh:∀x,Zaj fun O=>h O x):Zaj fun O=>(g O).bind (h O):=by
 intro O r he;obtain⟨x,h1,h2⟩:=bind_some he;obtain⟨L1,a1,a2⟩:=hg O x h1;obtain⟨L2,b1,b2⟩:=hh x O r h2;refine⟨L1++L2,fun q hq=>?_,fun O' hO'=>?_⟩
 all_goals grind
def Zaj.map{α β:Type}{g:Orc->Option α}(hg:Zaj g)(f:α->β):Zaj fun O=>(g O).map f:=by
 have:=hg.bind (h:=fun _ x=>some (f x)) fun x=>.const _
 grind[Option.map_eq_bind,Function.comp_def]
def Zaj.call(u:Nat)(xs:List AV)(hb:Heap):Zaj fun O=>O.call u xs hb:=fun O r h=>⟨[.call u xs hb r],by simpa[Holds]using h,fun O' h'=>by simpa[Holds]using h'⟩
def Zaj.loop(k:Nat)(c:AX)(st:St):Zaj fun O=>O.loop k c st:=fun O r h=>⟨[.loop k c st r],by simpa[Holds]using h,fun O' h'=>by simpa[Holds]using h'⟩
section
variable(T:Tbl)
def zhr(u:Nat)(xs:List AV)(d:Option Nat)(st:St):Zaj fun O=>Zah O T u xs d st:=by
 unfold Zah;split
 ·exact .const _
 ·split
  ·refine Zaj.bind (.const _) fun ys=>Zaj.bind (.call _ _ _) fun r=>.const _
  ·refine Zaj.bind (.const _) fun ys=>?_;simp only;split
   ·refine Zaj.bind (.call _ _ _) fun r=>.const _
   ·exact .const _
def zul(op:AOp)(d:Option Nat)(st:St):Zaj fun O=>opX O T op d st:=by
 by_cases hx:∃k xs,op=.xop k xs
 ·obtain⟨k,xs,rfl⟩:=hx;cases k<;>exact .const _
 cases op<;>(try exact absurd ⟨_,_,rfl⟩ hx)<;>simp only[opX]<;>first | exact .const _ | exact zhr T _ _ _ _ | (split<;>first | exact .const _ | (split<;>first | exact .const _ | exact zhr T _ _ _ _))
def zum(o:AO)(st:St):Zaj fun O=>Zga O T o st:=by
 unfold Zga;split
 ·exact zul T _ _ _
 ·unfold gX;split
  ·split
   ·exact zul T _ _ _
   ·exact .const _
  ·exact .const _
  ·exact .const _
theorem zej:∀(l:List AO) (st:St),Zaj fun O=>Zdf O T l st
 | [],st=>.const _
 | o::l,st=>by
  exact(zum T o st).bind fun s=>zej l s
def zun(op:AOp)(e:Env)(h:Heap)(older:List Heap):Zaj fun O=>opD O T op e h older:=by
 by_cases hap:∃z x0 y,op=.app z x0 y
 ·obtain⟨z,x0,y,rfl⟩:=hap;by_cases hc:x0=.c (.sl [] .nl)
  ·subst hc;exact .const _
  ·simp only[zn0 hc];exact .const _
 cases op<;>(try exact absurd ⟨_,_,_,rfl⟩ hap)<;>simp only[opD]<;>try exact .const _
 case call=>
  split
  ·exact .const _
  ·split
   ·exact(Zaj.call _ _ _).map _
   ·exact .const _
 case inv=>
  split
  ·split
   ·split
    ·exact .const _
    ·split
     ·exact(Zaj.call _ _ _).map _
     ·exact .const _
   ·exact .const _
  ·exact .const _
def zhs(o:AO)(e:Env)(h:Heap)(older:List Heap):Zaj fun O=>qX O T o e h older:=by
 unfold qX;split
 ·exact(zun T _ _ _ _).map _
 ·split
  ·split
   ·exact(zun T _ _ _ _).map _
   ·exact .const _
  ·exact .const _
  ·exact .const _
def zl6(u:Nat)(ys:List AV):Zaj fun O=>Zdy O T u ys:=by
 unfold Zdy;split
 ·exact .const _
 ·split
  ·exact(Zaj.call _ _ _).map _
  ·exact .const _
theorem zd2:∀(l:List DO) (e:Env) (h:Heap) (clk:Nat) (older:List Heap) (pend:Zae),Zaj fun O=>Zbl O T l e h clk older pend
 | [],e,h,clk,older,pend=>.const _
 | o::l,e,h,clk,older,pend=>by
  simp only[Zbl];split
  ·split
   ·refine Zaj.bind (.const _) fun q=>?_;split
    ·exact zd2 l _ _ _ _ _
    ·exact .const _
   ·exact .const _
  ·split
   ·exact(zhs T _ _ _ _).bind fun x=>zd2 l _ _ _ _ _
   ·exact(zl6 T _ _).bind fun x=>zd2 l _ _ _ _ _
theorem zht(tl:List AO):∀(l:List AO) (e:Env) (h:Heap) (clk:Nat),Zaj fun O=>Zce O T tl l e h clk
 | [],e,h,clk=>zej T tl _
 | o::l,e,h,clk=>by
  simp only[Zce];split
  ·exact(zhs T _ _ _ _).bind fun x=>zht tl l _ _ _
  ·exact(zl6 T _ _).bind fun x=>zht tl l _ _ _
theorem zl7(tl:List AO):∀(l:List AO) (e:Env) (h:Heap) (clk:Nat),Zaj fun O=>Zdz O T tl l e h clk
 | [],e,h,clk=>zej T tl _
 | o::l,e,h,clk=>by
  exact(zhs T _ _ _ _).bind fun x=>zl7 tl l _ _ _
def zuo(u:Nat)(xs:List AV)(d clk:Nat):Zaj fun O=>Ze1 O T u xs d clk:=by
 unfold Ze1;split
 ·exact .const _
 ·split
  ·exact .const _
  ·split
   ·refine(Zaj.call _ _ _).bind fun r=>?_;exact .const _
   ·exact .const _
theorem zd3(tl:List AO)(h0:Heap)(c0:Nat)(X:Heap):∀(l:List AO) (e:Env) (h:Heap) (clk:Nat),Zaj fun O=>Zau O T tl h0 c0 X l e h clk
 | [],e,h,clk=>zej T tl _
 | o::l,e,h,clk=>by
  simp only[Zau];split
  ·split
   ·split
    all_goals
     refine Zaj.bind (.const _) fun q=>?_;split
     ·exact zd3 tl h0 c0 X l _ _ _
     ·exact .const _
   ·exact .const _
  ·split
   ·split
    ·refine Zaj.bind (.const _) fun q=>?_;split
     ·exact zd3 tl h0 c0 X l _ _ _
     ·exact .const _
    ·exact .const _
   split
   ·split
    ·refine(zuo T _ _ _ _).bind fun q=>?_;split
     ·exact zd3 tl h0 c0 X l _ _ _
     ·exact .const _
    ·exact .const _
   ·refine(zhs T _ _ _ _).bind fun x=>?_;split
    ·exact zd3 tl h0 c0 X l _ _ _
    ·exact .const _
theorem zgk{K:Orc->Env->Zae->Option St}(hK:∀e pend,Zaj fun O=>K O e pend)(h:Heap):∀(l:List DO) (e:Env) (pend:Zae),Zaj fun O=>Zc6 O T (K O) h l e pend
 | [],e,pend=>hK e pend
 | o::l,e,pend=>by
  simp only[Zc6];split
  ·exact .const _
  ·exact(zhs T _ _ _ _).bind fun x=>zgk hK h l _ _
theorem zl8{K:Orc->Env->Option St}(hK:∀e,Zaj fun O=>K O e)(h0 h1:Heap):∀(l:List AO) (e:Env),Zaj fun O=>Zc7 O T (K O) h0 h1 l e
 | [],e=>hK e
 | o::l,e=>by
  simp only[Zc7];split
  ·exact .const _
  ·exact(zhs T _ _ _ _).bind fun x=>zl8 hK h0 h1 l _
def zfh(o:AO)(st:St):Zaj fun O=>Zed O T o st:=by
 unfold Zed;split
 ·exact zhr T _ _ _ _
 ·exact .const _
def zup(l1:List AO)(o:AO)(l2 tl:List AO)(st:St):Zaj fun O=>Zgc O T l1 o l2 tl st:=by
 unfold Zgc;refine zgk T (fun e pend=>(zfh T _ _).bind fun s=>?_) _ _ _ _;split
 ·exact zl8 T (fun e=>zej T _ _) _ _ _ _
 ·exact .const _
def zuq(l1:List DO)(o:AO)(l2:List DO)(st:St):Zaj fun O=>Zgd O T l1 o l2 st:=by
 unfold Zgd;split
 ·exact .const _
 refine zgk T (fun e pend=>(zfh T _ _).bind fun s=>?_) _ _ _ _;split
 ·exact zd2 T _ _ _ _ _ _
 ·exact .const _
theorem zl9{K:Orc->Env->Option St}(hK:∀e,Zaj fun O=>K O e)(hs:List Heap)(h1:Heap):∀(l:List AO) (e:Env),Zaj fun O=>Zc8 O T (K O) hs h1 l e
 | [],e=>hK e
 | o::l,e=>by
  simp only[Zc8];split
  ·exact .const _
  ·exact(zhs T _ _ _ _).bind fun x=>zl9 hK hs h1 l _
def zur(l1:List DO)(o:AO)(l2:List DO)(da:Nat)(cs:List AV)(n:Nat)(xs vs:Opd)(st:St):Zaj fun O=>Ze2 O T l1 o l2 da cs n xs vs st:=by
 unfold Ze2;split
 case isFalse=>exact .const _
 refine zgk T (fun e pend=>(zfh T _ _).bind fun s1=>(zfh T _ _).bind fun s2=>?_) _ _ _ _;split
 ·exact zl9 T (K:=fun _ e2=>(Zbf n s2.heap (ev (Ze e2 (some da) (.ptr (.loc da) s1.clk cs.length 0 0)).get xs) (ev (Ze e2 (some da) (.ptr (.loc da) s1.clk cs.length 0 0)).get vs)).map fun h2=>⟨Ze e2 (some da) (.ptr (.loc da) s1.clk cs.length 0 0),h2,s2.clk⟩) (fun e=>.const _) _ _ _ _
 ·exact .const _
theorem zca(k:Nat):∀(c:AX) (st:St),Zaj fun O=>evX O T k c st
 | .skip,st=>.const _
 | .reg l,st=>by exact(zej T l st).map _
 | .draw l,st=>by exact(zd2 T l _ _ _ _ _).map _
 | .drawT hd tl,st=>by exact(zl7 T tl hd _ _ _).map _
 | .drawM hd tl,st=>by exact(zd3 T tl _ _ _ hd _ _ _).map _
 | .drawC l1 o l2 tl,st=>by exact(zup T l1 o l2 tl st).map _
 | .drawN l1 o l2,st=>by exact(zuq T l1 o l2 st).map _
 | .drawR hd tl,st=>by exact(zht T tl hd _ _ _).map _
 | .drawP l1 o l2 da cs n xs vs,st=>by exact(zur T l1 o l2 da cs n xs vs st).map _
 | .bad,st=>.const _
 | .prim f,st=>.const _
 | .seq a b,st=>by
  refine(zca k a st).bind fun r=>?_;obtain⟨e,s⟩:=r;cases e
  ·exact zca k b s
  ·exact .const _
  ·exact .const _
  ·exact .const _
 | .cond c x y,st=>by
  simp only[evX];split
  ·split
   ·exact zca k x st
   ·exact zca k y st
  ·exact .const _
 | .block id c,st=>by exact(zca k c st).bind fun r=>.const _
 | .loop c,st=>by exact .loop _ _ _
 | .exit id,st=>.const _
 | .ret,st=>.const _
 | .note c g,st=>by exact(zca k c st).bind fun r=>.const _
 | .pre g c,st=>by exact Zaj.bind (.const _) fun s=>zca k c s
 | .scope c,st=>by exact(zca k c st).bind fun r=>.const _
 | .label l,st=>.const _
 | .goto l,st=>.const _
 | .gsc l c r,st=>by
  have key:∀n (f:Orc->Option (Ex×St)),Zaj f->Zaj fun O=>Zj4 (fun s=>evX O T k r s) l n (f O):=by
   intro n
   induction n with
   | zero=>intro f _;exact .const _
   | succ n ih=>
    intro f hf;refine hf.bind fun x=>?_;obtain⟨e,s⟩:=x;cases e
    ·exact .const _
    ·exact .const _
    ·exact .const _
    ·simp only;split
     ·exact ih _ (zca k r s)
     ·exact .const _
  exact key _ _ (zca k c st)
 | .lp id g c g2,st=>by exact Zaj.bind (.const _) fun s=>(Zaj.loop _ _ _).bind fun r=>.const _
def zdd(u:Nat)(xs:List AV)(hb:Heap):Zaj fun O=>(Zcv T O).call u xs hb:=by
 simp only[Zcv];split
 ·exact .const _
 ·split
  ·exact .const _
  ·split
   ·exact(zca T _ _ _).bind fun r=>.const _
   ·exact .const _
def zde(k:Nat)(c:AX)(st:St):Zaj fun O=>(Zcv T O).loop k c st:=by
 refine(zca T k c st).bind fun r=>?_;obtain⟨e,s⟩:=r;cases e
 ·exact .loop _ _ _
 ·exact .const _
 ·exact .const _
 ·exact .const _
theorem zhu:∀(n:Nat) (q:Qy),Holds (orcN T n) q->Holds (orcN T (n+1)) q
 | 0,q,h=>by cases q<;>cases h
 | n+1,.call u xs hb r,h=>by
  obtain⟨L,h1,h2⟩:=zdd T u xs hb _ r h;exact h2 _ fun q hq=>zhu n q (h1 q hq)
 | n+1,.loop k c st r,h=>by
  obtain⟨L,h1,h2⟩:=zde T k c st _ r h;exact h2 _ fun q hq=>zhu n q (h1 q hq)
theorem zn6{n m:Nat}(h:n<=m)(q:Qy)(hq:Holds (orcN T n) q):Holds (orcN T m) q:=by
 induction h with
 | refl=>omega
 | step _ ih=>exact zhu T _ q ih
open Classical in
noncomputable def lim{α:Type}(f:Nat->Option α):Option α:=if h:∃n a,f n=some a then f (Classical.choose h) else none
def zpo{α:Type}{f:Nat->Option α}(hm:∀n m a,n<=m->f n=some a->f m=some a)(a:α):lim f=some a↔∃n,f n=some a:=by
 unfold lim;constructor
 ·intro h;split at h
  all_goals grind
 ·intro ⟨n,h⟩;have hex:∃n a,f n=some a:=⟨n,a,h⟩
  grind
noncomputable def orc:Orc:=⟨fun u xs hb=>lim fun n=>(orcN T n).call u xs hb,fun k c st=>lim fun n=>(orcN T n).loop k c st⟩
theorem zci(q:Qy):Holds (orc T) q↔∃n,Holds (orcN T n) q:=by
 cases q with
 | call u xs hb r=>exact zpo (fun n m a hnm h=>zn6 T hnm (.call u xs hb a) h) r
 | loop k c st r=>exact zpo (fun n m a hnm h=>zn6 T hnm (.loop k c st a) h) r
def zn7{L:List Qy}(h:∀q∈L,Holds (orc T) q):∃n,∀q∈L,Holds (orcN T n) q:=by
 induction L with
 | nil=>simp_all
 | cons q L ih=>
  obtain⟨n,hn⟩:=ih fun q hq=>h q (Yh _ hq);obtain⟨m,hm⟩:=(zci T q).1 (h q Yj);refine⟨max n m,fun x hx=>?_⟩
  grind[zn6,Nat.le_max_right]
def zkb(u:Nat)(xs:List AV)(hb:Heap):(orc T).call u xs hb=(Zcv T (orc T)).call u xs hb:=by
 apply Option.ext;intro r;constructor
 ·intro h;obtain⟨n,hn⟩:=(zci T (.call u xs hb r)).1 h;cases n with
  | zero=>cases hn
  | succ n=>
   obtain⟨L,h1,h2⟩:=zdd T u xs hb _ r hn
   grind[zci]
 ·intro h;obtain⟨L,h1,h2⟩:=zdd T u xs hb _ r h;obtain⟨n,hn⟩:=zn7 T h1;exact(zci T (.call u xs hb r)).2 ⟨n+1,h2 _ hn⟩
def zxf(k:Nat)(c:AX)(st:St):(orc T).loop k c st=(Zcv T (orc T)).loop k c st:=by
 apply Option.ext;intro r;constructor
 ·intro h;obtain⟨n,hn⟩:=(zci T (.loop k c st r)).1 h;cases n with
  | zero=>cases hn
  | succ n=>
   obtain⟨L,h1,h2⟩:=zde T k c st _ r hn
   grind[zci]
 ·intro h;obtain⟨L,h1,h2⟩:=zde T k c st _ r h;obtain⟨n,hn⟩:=zn7 T h1;exact(zci T (.loop k c st r)).2 ⟨n+1,h2 _ hn⟩
end
noncomputable def Zb(T:Tbl)(u:Nat)(xs:List AV):Option AV:=((orc T).call u xs []).map (·.1)
noncomputable def Zd0(T:Tbl)(u:Nat)(xs:List AV)(hb:Heap):Option (AV×Heap):=(orc T).call u xs hb
noncomputable def Zh6(T:Tbl)(k:Nat)(c:AX)(st:St):Option (Ex×St):=(orc T).loop k c st
def zdo{P:Program}{ν:Nat->FuncId}{T:Tbl}(hT:TOk P ν T)(hm:P.follows .mixedOrders=true){u:Nat}{af:AFx}{xs:List AV}{r:AV}(hu:T u=some af)(hl:af.lent=none)(h:Zb T u xs=some r):Z6 P (ν u) xs (·=r):=by
 obtain⟨⟨r',h'⟩,h1,rfl⟩:=map_some h;obtain⟨n,hn⟩:=(zci T (.call u xs [] (r',h'))).1 h1;exact(GoodO.orcN hT hm n).pure u af xs r' h' hu hl hn
end
section
open Go.RowKit
def Tr(T:Tbl)(u:Nat):Option AFx:=T u
def u8(n:Nat):AV:=.i .u8 (n:Int)
def u32(n:Nat):AV:=.i .u32 (n:Int)
def u64(n:Nat):AV:=.i .u64 (n:Int)
@[simp] def zaic(k:IntKind)(n:Int):wkA (.i k n)=.i k n/\Zam (.i k n)=true/\Zan (.i k n)=true/\scalar (.i k n)=true/\pureC (.i k n)=true/\noRef (.i k n)=true/\refs (.i k n)=[]/\rfC (.i k n)=[]/\rf1 (.i k n)=[]/\rfA (.i k n)=[]/\cellsOf (.i k n)=some [.i k n]:=by and_intros<;>rfl
@[simp] def zafp{h:Heap}(k:IntKind)(n:Int):Zaw h (.i k n)=some (.i k n)/\Zby h (.i k n)=some (.i k n)/\frz h (.i k n)=some (.i k n)/\Za0 h (.i k n)=true/\Zbg h (.i k n)=true/\Zb2 h (.i k n)=true:=by and_intros<;>rfl
@[simp] def zaih{σn:BId->BId}{σg:Nat->Nat}(k:IntKind)(n:Int):rlC σn σg (.i k n)=(.i k n)/\rl1 σn σg (.i k n)=(.i k n)/\rlA σn σg (.i k n)=(.i k n):=by and_intros<;>rfl
@[simp] def zaik(t:Bool):wkA (.b t)=.b t/\Zam (.b t)=true/\Zan (.b t)=true/\scalar (.b t)=true/\pureC (.b t)=true/\noRef (.b t)=true/\refs (.b t)=[]/\rfC (.b t)=[]/\rf1 (.b t)=[]/\rfA (.b t)=[]/\cellsOf (.b t)=some [.b t]:=by and_intros<;>rfl
@[simp] def zafs{h:Heap}(t:Bool):Zaw h (.b t)=some (.b t)/\Zby h (.b t)=some (.b t)/\frz h (.b t)=some (.b t)/\Za0 h (.b t)=true/\Zbg h (.b t)=true/\Zb2 h (.b t)=true:=by and_intros<;>rfl
@[simp] def zaip{σn:BId->BId}{σg:Nat->Nat}(t:Bool):rlC σn σg (.b t)=(.b t)/\rl1 σn σg (.b t)=(.b t)/\rlA σn σg (.b t)=(.b t):=by and_intros<;>rfl
@[simp] def zais(l:List UInt8):wkA (.s l)=.s l/\Zam (.s l)=true/\Zan (.s l)=true/\scalar (.s l)=true/\pureC (.s l)=true/\noRef (.s l)=true/\refs (.s l)=[]/\rfC (.s l)=[]/\rf1 (.s l)=[]/\rfA (.s l)=[]/\cellsOf (.s l)=some [.s l]:=by and_intros<;>rfl
@[simp] def zafv{h:Heap}(l:List UInt8):Zaw h (.s l)=some (.s l)/\Zby h (.s l)=some (.s l)/\frz h (.s l)=some (.s l)/\Za0 h (.s l)=true/\Zbg h (.s l)=true/\Zb2 h (.s l)=true:=by and_intros<;>rfl
@[simp] def zaix{σn:BId->BId}{σg:Nat->Nat}(l:List UInt8):rlC σn σg (.s l)=(.s l)/\rl1 σn σg (.s l)=(.s l)/\rlA σn σg (.s l)=(.s l):=by and_intros<;>rfl
@[simp] def zabg(v:Value):wkA (.raw v)=.raw v/\Zam (.raw v)=false/\Zan (.raw v)=false/\scalar (.raw v)=false/\pureC (.raw v)=true/\noRef (.raw v)=true/\refs (.raw v)=[]/\rfC (.raw v)=[]/\rf1 (.raw v)=[]/\rfA (.raw v)=[]:=by and_intros<;>rfl
@[simp] def z71{h:Heap}(v:Value):Zaw h (.raw v)=some (.raw v)/\Zby h (.raw v)=some (.raw v)/\frz h (.raw v)=some (.raw v)/\Za0 h (.raw v)=true/\Zbg h (.raw v)=true/\Zb2 h (.raw v)=true:=by and_intros<;>rfl
@[simp] def zabl{σn:BId->BId}{σg:Nat->Nat}(v:Value):rlC σn σg (.raw v)=(.raw v)/\rl1 σn σg (.raw v)=(.raw v)/\rlA σn σg (.raw v)=(.raw v):=by and_intros<;>rfl
@[simp] def zabo{h:Heap}(els:List (List AV))(f:Fl):Zaw h (.sl els f)=some (.sl els f):=rfl
@[simp] def zabp{h:Heap}(els:List (List AV))(f:Fl):Zby h (.sl els f)=some (.sl els f):=rfl
@[simp] def zafy{h:Heap}(els:List (List AV))(f:Fl):frz h (.sl els f)=some (.sl els f):=rfl
@[simp] def z2d(els:List (List AV))(f:Fl):Zam (.sl els f)=false:=rfl
@[simp] def z2e(els:List (List AV))(f:Fl):Zan (.sl els f)=false:=rfl
@[simp] def z4r(els:List (List AV))(f:Fl):scalar (.sl els f)=false:=rfl
@[simp] def z77(els:List (List AV))(f:Fl):pureC (.sl els f)=true:=rfl
@[simp] def z78(els:List (List AV))(f:Fl):noRef (.sl els f)=true:=rfl
@[simp] def zabq(els:List (List AV))(f:Fl):refs (.sl els f)=[]:=rfl
@[simp] def zafz(els:List (List AV))(f:Fl):rfC (.sl els f)=[]:=rfl
@[simp] def zaf0(els:List (List AV))(f:Fl):rf1 (.sl els f)=[]:=rfl
@[simp] def zaf1(els:List (List AV))(f:Fl):rfA (.sl els f)=[]:=rfl
@[simp] def zaf2{σn:BId->BId}{σg:Nat->Nat}(els:List (List AV))(f:Fl):rlC σn σg (.sl els f)=(.sl els f):=rfl
@[simp] def zaf3{σn:BId->BId}{σg:Nat->Nat}(els:List (List AV))(f:Fl):rl1 σn σg (.sl els f)=(.sl els f):=rfl
@[simp] def zaf4{σn:BId->BId}{σg:Nat->Nat}(els:List (List AV))(f:Fl):rlA σn σg (.sl els f)=(.sl els f):=rfl
@[simp] def z4s{h:Heap}(els:List (List AV))(f:Fl):Za0 h (.sl els f)=true:=rfl
@[simp] def z4t{h:Heap}(els:List (List AV))(f:Fl):Zbg h (.sl els f)=true:=rfl
@[simp] def z79{h:Heap}(els:List (List AV))(f:Fl):Zb2 h (.sl els f)=true:=rfl
@[simp] def z2f(els:List (List AV))(f:Fl):cellsOf (.sl els f)=some [.sl els f]:=rfl
@[simp] def zaf5(cs:List AV)(o:Nat):wkA (.ep cs o)=.ep cs o/\Zam (.ep cs o)=false/\Zan (.ep cs o)=false/\scalar (.ep cs o)=false/\pureC (.ep cs o)=true/\noRef (.ep cs o)=true/\refs (.ep cs o)=[]/\rfC (.ep cs o)=[]/\rf1 (.ep cs o)=[]/\rfA (.ep cs o)=[]/\cellsOf (.ep cs o)=some [.ep cs o]:=by and_intros<;>rfl
@[simp] def zabr{h:Heap}(cs:List AV)(o:Nat):Zaw h (.ep cs o)=some (.ep cs o)/\Zby h (.ep cs o)=some (.ep cs o)/\frz h (.ep cs o)=some (.ep cs o)/\Za0 h (.ep cs o)=true/\Zbg h (.ep cs o)=true/\Zb2 h (.ep cs o)=true:=by and_intros<;>rfl
@[simp] def zaga{σn:BId->BId}{σg:Nat->Nat}(cs:List AV)(o:Nat):rlC σn σg (.ep cs o)=(.ep cs o)/\rl1 σn σg (.ep cs o)=(.ep cs o)/\rlA σn σg (.ep cs o)=(.ep cs o):=by and_intros<;>rfl
@[simp] def zagd(n:Nat):wkA (u8 n)=u8 n/\Zam (u8 n)=true/\Zan (u8 n)=true/\scalar (u8 n)=true/\pureC (u8 n)=true/\noRef (u8 n)=true/\refs (u8 n)=[]/\rfC (u8 n)=[]/\rf1 (u8 n)=[]/\rfA (u8 n)=[]/\cellsOf (u8 n)=some [u8 n]/\wkA (u32 n)=u32 n/\Zam (u32 n)=true/\Zan (u32 n)=true/\scalar (u32 n)=true/\pureC (u32 n)=true/\noRef (u32 n)=true/\refs (u32 n)=[]/\rfC (u32 n)=[]/\rf1 (u32 n)=[]/\rfA (u32 n)=[]/\cellsOf (u32 n)=some [u32 n]/\wkA (u64 n)=u64 n/\Zam (u64 n)=true/\Zan (u64 n)=true/\scalar (u64 n)=true/\pureC (u64 n)=true/\noRef (u64 n)=true/\refs (u64 n)=[]/\rfC (u64 n)=[]/\rf1 (u64 n)=[]/\rfA (u64 n)=[]/\cellsOf (u64 n)=some [u64 n]:=by and_intros<;>rfl
@[simp] def zabu{h:Heap}(n:Nat):Zaw h (u8 n)=some (u8 n)/\Zby h (u8 n)=some (u8 n)/\frz h (u8 n)=some (u8 n)/\Za0 h (u8 n)=true/\Zbg h (u8 n)=true/\Zb2 h (u8 n)=true/\Zaw h (u32 n)=some (u32 n)/\Zby h (u32 n)=some (u32 n)/\frz h (u32 n)=some (u32 n)/\Za0 h (u32 n)=true/\Zbg h (u32 n)=true/\Zb2 h (u32 n)=true/\Zaw h (u64 n)=some (u64 n)/\Zby h (u64 n)=some (u64 n)/\frz h (u64 n)=some (u64 n)/\Za0 h (u64 n)=true/\Zbg h (u64 n)=true/\Zb2 h (u64 n)=true:=by and_intros<;>rfl
@[simp] def zagi{σn:BId->BId}{σg:Nat->Nat}(n:Nat):rlC σn σg (u8 n)=(u8 n)/\rl1 σn σg (u8 n)=(u8 n)/\rlA σn σg (u8 n)=(u8 n)/\rlC σn σg (u32 n)=(u32 n)/\rl1 σn σg (u32 n)=(u32 n)/\rlA σn σg (u32 n)=(u32 n)/\rlC σn σg (u64 n)=(u64 n)/\rl1 σn σg (u64 n)=(u64 n)/\rlA σn σg (u64 n)=(u64 n):=by and_intros<;>rfl
@[simp] def z8m:wkA .dead=.dead/\Zam .dead=false/\Zan .dead=false/\scalar .dead=false/\pureC .dead=true/\noRef .dead=true/\refs .dead=[]/\rfC .dead=[]/\rf1 .dead=[]/\rfA .dead=[]:=by and_intros<;>rfl
@[simp] def z47{h:Heap}:Zaw h .dead=some .dead/\Zby h .dead=some .dead/\frz h .dead=some .dead/\Za0 h .dead=true/\Zbg h .dead=true/\Zb2 h .dead=true:=by and_intros<;>rfl
@[simp] def z8r{σn:BId->BId}{σg:Nat->Nat}:rlC σn σg .dead=.dead/\rl1 σn σg .dead=.dead/\rlA σn σg .dead=.dead:=by and_intros<;>rfl
@[simp] def zagl(els:List (List AV))(f:Fl):wkA (.sl els f)=.sl (wkL els) .an:=rfl
@[simp] def zacd(cs:List AV):wkA (.agg cs)=.agg (wkR cs)/\wkA (.tup cs)=.tup (wkR cs):=by and_intros<;>rfl
@[simp] def zagm(id:BId)(g z off n:Nat):wkA (.bs id g z off n)=.bs id g z off n:=rfl
@[simp] def zacf(id:BId)(g z i o:Nat):wkA (.ptr id g z i o)=.ptr id g z i o:=rfl
@[simp] def zacg(f:Nat)(id:BId)(g z i o:Nat):wkA (.fnp f id g z i o)=.fnp f id g z i o:=rfl
@[simp] def zach(f:Nat)(x:AV):wkA (.fnv f x)=.fnv f (wkA x):=rfl
@[simp] def zaci:wkR []=[]/\wkL []=[]:=by and_intros<;>rfl
@[simp] def z8u(c:AV)(r:List AV):wkR (c::r)=wkA c::wkR r:=rfl
@[simp] def z8v(c:List AV)(r:List (List AV)):wkL (c::r)=wkR c::wkL r:=rfl
def Ze8:AV->List BId
 | .bs id .. => [id]
 | _=>[]
@[simp] def zack{h:Heap}(id:BId)(g z off n:Nat):(Zby h (.bs id g z off n)=(Zac h id g z).bind fun bx=>if bx.kind≠.str/\off+n<=bx.els.length then some (.sl ((bx.els.drop off).take n) .an) else none)/\(Zaw h (.bs id g z off n)=(Zac h id g z).bind fun bx=>if bx.kind≠.str/\off+n<=bx.els.length then some (.sl ((bx.els.drop off).take n) .an) else none)/\(frz h (.bs id g z off n)=(Zac h id g z).bind fun bx=>if bx.kind≠.str/\off+n<=bx.els.length then some (.sl ((bx.els.drop off).take n) .an) else none)/\Za0 h (.bs id g z off n)=(Zac h id g z).isSome/\Zbg h (.bs id g z off n)=(Zac h id g z).isSome/\Zb2 h (.bs id g z off n)=(Zac h id g z).isSome:=by and_intros<;>rfl
@[simp] def z8w{h:Heap}(id:BId)(g z i o:Nat):Zby h (.ptr id g z i o)=some .dead/\Zaw h (.ptr id g z i o)=some .dead/\frz h (.ptr id g z i o)=some .dead/\Za0 h (.ptr id g z i o)=(Zac h id g z).isSome/\Zbg h (.ptr id g z i o)=(Zac h id g z).isSome/\Zb2 h (.ptr id g z i o)=(Zac h id g z).isSome:=by and_intros<;>rfl
@[simp] def z8x{h:Heap}(f:Nat)(id:BId)(g z i o:Nat):Zby h (.fnp f id g z i o)=some .dead/\Zaw h (.fnp f id g z i o)=some .dead/\frz h (.fnp f id g z i o)=some .dead/\Za0 h (.fnp f id g z i o)=Zh3 h id g/\Zbg h (.fnp f id g z i o)=Zh3 h id g/\Zb2 h (.fnp f id g z i o)=Zh3 h id g:=by and_intros<;>rfl
@[simp] def z8y{h:Heap}(f:Nat)(x:AV):Zby h (.fnv f x)=some (.fnv f x)/\Zaw h (.fnv f x)=some (.fnv f x)/\frz h (.fnv f x)=some (.fnv f x)/\Za0 h (.fnv f x)=true/\Zbg h (.fnv f x)=true/\Zb2 h (.fnv f x)=true:=by and_intros<;>rfl
@[simp] def z82{h:Heap}(cs:List AV):Zaw h (.agg cs)=(cs.mapM (Zby h)).map .agg/\frz h (.agg cs)=(cs.mapM (Zby h)).map .agg/\frz h (.tup cs)=(cs.mapM (Zaw h)).map .tup/\Zbg h (.agg cs)=cs.all (Za0 h)/\Zb2 h (.agg cs)=cs.all (Za0 h)/\Zb2 h (.tup cs)=cs.all (Zbg h):=by and_intros<;>rfl
@[simp] def z2v(id:BId)(g z off n:Nat):Zam (.bs id g z off n)=false/\Zan (.bs id g z off n)=false/\scalar (.bs id g z off n)=false/\pureC (.bs id g z off n)=false/\noRef (.bs id g z off n)=false/\refs (.bs id g z off n)=[id]/\rfC (.bs id g z off n)=[id]/\rf1 (.bs id g z off n)=[id]/\rfA (.bs id g z off n)=[id]/\cellsOf (.bs id g z off n)=some [.bs id g z off n]:=by and_intros<;>rfl
@[simp] def z0i(id:BId)(g z i o:Nat):Zam (.ptr id g z i o)=false/\Zan (.ptr id g z i o)=false/\scalar (.ptr id g z i o)=false/\pureC (.ptr id g z i o)=false/\noRef (.ptr id g z i o)=false/\refs (.ptr id g z i o)=[]/\rfC (.ptr id g z i o)=[id]/\rf1 (.ptr id g z i o)=[id]/\rfA (.ptr id g z i o)=[id]/\cellsOf (.ptr id g z i o)=some [.ptr id g z i o]:=by and_intros<;>rfl
@[simp] def z0j(f:Nat)(id:BId)(g z i o:Nat):Zam (.fnp f id g z i o)=false/\Zan (.fnp f id g z i o)=false/\scalar (.fnp f id g z i o)=false/\pureC (.fnp f id g z i o)=false/\noRef (.fnp f id g z i o)=false/\refs (.fnp f id g z i o)=[]/\rfC (.fnp f id g z i o)=[id]/\rf1 (.fnp f id g z i o)=[id]/\rfA (.fnp f id g z i o)=[id]/\cellsOf (.fnp f id g z i o)=some [.fnp f id g z i o]:=by and_intros<;>rfl
@[simp] def z0k(f:Nat)(x:AV):Zam (.fnv f x)=false/\Zan (.fnv f x)=false/\scalar (.fnv f x)=false/\pureC (.fnv f x)=true/\noRef (.fnv f x)=true/\refs (.fnv f x)=[]/\rfC (.fnv f x)=[]/\rf1 (.fnv f x)=[]/\rfA (.fnv f x)=[]/\cellsOf (.fnv f x)=some [.fnv f x]:=by and_intros<;>rfl
@[simp] def z0o(cs:List AV):Zan (.agg cs)=cs.all Zam/\scalar (.agg cs)=cs.all Zam/\scalar (.tup cs)=cs.all Zan/\pureC (.agg cs)=false/\pureC (.tup cs)=false/\noRef (.agg cs)=cs.all pureC/\noRef (.tup cs)=false/\rf1 (.agg cs)=cs.flatMap rfC/\rfA (.agg cs)=cs.flatMap rfC/\rfA (.tup cs)=cs.flatMap rf1/\cellsOf (.agg cs)=some cs:=by and_intros<;>rfl
@[simp] def zagr{σn:BId->BId}{σg:Nat->Nat}(id:BId)(g z off n:Nat):rlC σn σg (.bs id g z off n)=.bs (σn id) (σg g) z off n/\rl1 σn σg (.bs id g z off n)=.bs (σn id) (σg g) z off n/\rlA σn σg (.bs id g z off n)=.bs (σn id) (σg g) z off n:=by and_intros<;>rfl
@[simp] def zac4{σn:BId->BId}{σg:Nat->Nat}(id:BId)(g z i o:Nat):rlC σn σg (.ptr id g z i o)=.ptr (σn id) (σg g) z i o/\rl1 σn σg (.ptr id g z i o)=.ptr (σn id) (σg g) z i o/\rlA σn σg (.ptr id g z i o)=.ptr (σn id) (σg g) z i o:=by and_intros<;>rfl
@[simp] def zac5{σn:BId->BId}{σg:Nat->Nat}(f:Nat)(id:BId)(g z i o:Nat):rlC σn σg (.fnp f id g z i o)=.fnp f (σn id) (σg g) z i o/\rl1 σn σg (.fnp f id g z i o)=.fnp f (σn id) (σg g) z i o/\rlA σn σg (.fnp f id g z i o)=.fnp f (σn id) (σg g) z i o:=by and_intros<;>rfl
@[simp] def zac6{σn:BId->BId}{σg:Nat->Nat}(f:Nat)(x:AV):rlC σn σg (.fnv f x)=.fnv f x/\rl1 σn σg (.fnv f x)=.fnv f x/\rlA σn σg (.fnv f x)=.fnv f x:=by and_intros<;>rfl
@[simp] def zadd{σn:BId->BId}{σg:Nat->Nat}(cs:List AV):rl1 σn σg (.agg cs)=.agg (cs.map (rlC σn σg))/\rlA σn σg (.agg cs)=.agg (cs.map (rlC σn σg))/\rlA σn σg (.tup cs)=.tup (cs.map (rl1 σn σg)):=by and_intros<;>rfl
@[simp] def zagu(k:IntKind)(n:Int):Ze8 (.i k n)=[]:=rfl
@[simp] def zagv(t:Bool):Ze8 (.b t)=[]:=rfl
@[simp] def zagw(l:List UInt8):Ze8 (.s l)=[]:=rfl
@[simp] def z89(v:Value):Ze8 (.raw v)=[]:=rfl
@[simp] def zadg(els:List (List AV))(f:Fl):Ze8 (.sl els f)=[]:=rfl
@[simp] def zadh(cs:List AV)(o:Nat):Ze8 (.ep cs o)=[]:=rfl
@[simp] def zadi(n:Nat):Ze8 (u8 n)=[]/\Ze8 (u32 n)=[]/\Ze8 (u64 n)=[]:=by and_intros<;>rfl
@[simp] def z5s:Ze8 .dead=[]/\refs (.tup [])=[]:=by and_intros<;>rfl
@[simp] def zadj(id:BId)(g z off n:Nat):Ze8 (.bs id g z off n)=[id]:=rfl
@[simp] def z9c(id:BId)(g z i o:Nat):Ze8 (.ptr id g z i o)=[]:=rfl
@[simp] def z9d(f:Nat)(id:BId)(g z i o:Nat):Ze8 (.fnp f id g z i o)=[]:=rfl
@[simp] def z9e(f:Nat)(x:AV):Ze8 (.fnv f x)=[]:=rfl
@[simp] def z9f(cs:List AV):refs (.agg cs)=cs.flatMap Ze8:=rfl
@[simp] def z9g(h:Heap)(id:BId)(g z:Nat):Zac h id g z=(match h.lookup id with | some bx=>if bx.gen=g/\bx.z=z/\bx.kind≠.mp then some bx else none | none=>none):=rfl
@[simp] def z5t(x:AV):wkIf true x=x/\wkIf false x=wkA x:=by and_intros<;>rfl
def zek(n:Nat):IntKind.wrap .u32 (n:Int)=((n%4294967296:Nat):Int):=by
 simp[IntKind.wrap,IntKind.signed,IntKind.bits]
def zel(n:Nat):IntKind.wrap .u64 (n:Int)=((n%18446744073709551616:Nat):Int):=by
 simp[IntKind.wrap,IntKind.signed,IntKind.bits]
def z0t(n:Nat):IntKind.wrap .u8 (n:Int)=((n%256:Nat):Int):=by
 simp[IntKind.wrap,IntKind.signed,IntKind.bits]
def bX(o:Option (Ex×St))(f:St->Option (Ex×St)):Option (Ex×St):=o.bind fun r=>match r.1 with | .n=>f r.2 | _=>some r
def Zg0(id:Nat)(o:Option (Ex×St)):Option (Ex×St):=o.bind fun r=>match r.1 with | .x j=>if j=id then some (.n,r.2) else some r | _=>some r
def stX(o:Option St):Option (Ex×St):=o.map fun s=>(.n,s)
def bS(o:Option St)(f:St->Option St):Option St:=o.bind f
def cnX(v:AV)(x y:Option (Ex×St)):Option (Ex×St):=match v with | .b t=>if t then x else y | _=>none
def pS(o:Option AV)(d:Option Nat)(st:St):Option St:=o.map fun x=>⟨Ze st.env d x,st.heap,st.clk⟩
def pW(o:Option (AV×Heap×Nat))(d:Option Nat)(st:St):Option St:=o.map fun q=>⟨Ze st.env d q.1,q.2.1,q.2.2⟩
def pB(o:Option (AV×Heap))(d:Option Nat)(st:St):Option St:=o.map fun q=>⟨Ze st.env d q.1,q.2,st.clk⟩
def Zhw(res:List RV)(ex:Bool)(o:Option (Ex×St)):Option AV:=
 o.bind fun r=>match r.1 with | .x _=>none | .g _=>none | _=>(Zcl r.2 res).bind fun x=>(frz r.2.heap x).map (wkIf ex)
def Zin(res:List RV)(ex:Bool)(k:Nat)(o:Option (Ex×St)):Option (AV×Heap):=
 o.bind fun r=>match r.1 with | .x _=>none | .g _=>none | _=>(Zcl r.2 res).map fun x=>let s:=Zcu ex k [0] ⟨[(0,x)],r.2.heap,r.2.clk⟩;(s.env.get 0,s.heap)
section
variable{o o':Option (Ex×St)}{f:St->Option (Ex×St)}{s:St}
@[congr] def z9h(h:o=o'):bX o f=bX o' f:=by rw[h]
@[congr] def z9i{o o':Option St}{f:St->Option St}(h:o=o'):bS o f=bS o' f:=by rw[h]
@[congr] def z5u{v v':AV}{x y:Option (Ex×St)}(h:v=v'):cnX v x y=cnX v' x y:=by rw[h]
@[simp] def bX_n:bX (some (.n,s)) f=f s:=rfl
@[simp] def bX_x(id:Nat):bX (some (.x id,s)) f=some (.x id,s):=rfl
@[simp] def bX_r:bX (some (.r,s)) f=some (.r,s):=rfl
@[simp] def zadk:bX none f=none:=rfl
@[simp] def zagx{c:Prop}[Decidable c]{a b:Option (Ex×St)}:bX (if c then a else b) f=if c then bX a f else bX b f:=by split<;>rfl
@[simp] def z9j(id:Nat){c:Prop}[Decidable c]{a b:Option (Ex×St)}:Zg0 id (if c then a else b)=if c then Zg0 id a else Zg0 id b:=by split<;>rfl
@[simp] def z9k{res:List RV}{ex:Bool}{c:Prop}[Decidable c]{a b:Option (Ex×St)}:Zhw res ex (if c then a else b)=if c then Zhw res ex a else Zhw res ex b:=by split<;>rfl
@[simp] def z9l{res:List RV}{ex:Bool}{k:Nat}{c:Prop}[Decidable c]{a b:Option (Ex×St)}:Zin res ex k (if c then a else b)=if c then Zin res ex k a else Zin res ex k b:=by split<;>rfl
@[simp] def zagy(id:Nat):Zg0 id (some (.n,s))=some (.n,s):=rfl
@[simp] def z5v(id j:Nat):Zg0 id (some (.x j,s))=if j=id then some (.n,s) else some (.x j,s):=rfl
@[simp] def zagz(id:Nat):Zg0 id (some (.r,s))=some (.r,s):=rfl
@[simp] def z5w(id:Nat):Zg0 id none=none:=rfl
@[simp] def z9m:stX (some s)=some (.n,s):=rfl
@[simp] def z9n:stX none=none:=rfl
@[simp] def zadl{f:St->Option St}:bS (some s) f=f s:=rfl
@[simp] def zadm{f:St->Option St}:bS none f=none:=rfl
@[simp] def zai0{t:Bool}{x y:Option (Ex×St)}:cnX (.b t) x y=if t then x else y:=rfl
@[simp] def zadn{x:AV}{d:Option Nat}:pS (some x) d s=some ⟨Ze s.env d x,s.heap,s.clk⟩:=rfl
@[simp] def zado{d:Option Nat}:pS none d s=none/\pW none d s=none/\pB none d s=none:=by and_intros<;>rfl
@[simp] def zadp{x:AV}{h:Heap}{c:Nat}{d:Option Nat}:pW (some (x,h,c)) d s=some ⟨Ze s.env d x,h,c⟩:=rfl
@[simp] def zadr{x:AV}{h:Heap}{d:Option Nat}:pB (some (x,h)) d s=some ⟨Ze s.env d x,h,s.clk⟩:=rfl
@[simp] def zag0{res:List RV}{ex:Bool}:(Zhw res ex (some (.r,s))=(Zcl s res).bind fun x=>(frz s.heap x).map (wkIf ex))/\(Zhw res ex (some (.n,s))=(Zcl s res).bind fun x=>(frz s.heap x).map (wkIf ex)):=by and_intros<;>rfl
@[simp] def zag2{res:List RV}{ex:Bool}{k:Nat}:(Zin res ex k (some (.r,s))=(Zcl s res).map fun x=>((Zcu ex k [0] ⟨[(0,x)],s.heap,s.clk⟩).env.get 0,(Zcu ex k [0] ⟨[(0,x)],s.heap,s.clk⟩).heap))/\(Zin res ex k (some (.n,s))=(Zcl s res).map fun x=>((Zcu ex k [0] ⟨[(0,x)],s.heap,s.clk⟩).env.get 0,(Zcu ex k [0] ⟨[(0,x)],s.heap,s.clk⟩).heap)):=by and_intros<;>rfl
end
section
variable{T:Tbl}{k:Nat}{st:St}{d:Option Nat}
noncomputable abbrev X(T:Tbl)(k:Nat)(c:AX)(st:St):Option (Ex×St):=evX (orc T) T k c st
noncomputable abbrev R(T:Tbl)(l:List AO)(st:St):Option St:=Zdf (orc T) T l st
@[congr] def z5x{O:Orc}{c:AX}{st st':St}(h:st=st'):evX O T k c st=evX O T k c st':=by rw[h]
@[congr] def z5y{O:Orc}{op:AOp}{d:Option Nat}{st st':St}(h:st=st'):opX O T op d st=opX O T op d st':=by rw[h]
def scX(o:Option (Ex×St)):Option (Ex×St):=o.bind fun r=>match r.1 with | .g _=>none | _=>some r
@[simp] def zag4:evX (orc T) T k .skip st=some (.n,st):=rfl
@[simp] def zai1{l:List AO}:evX (orc T) T k (.reg l) st=stX (Zdf (orc T) T l st):=rfl
@[simp] def zag5{l:List DO}:evX (orc T) T k (.draw l) st=stX (Zbl (orc T) T l st.env st.heap st.clk [] []):=rfl
@[simp] def zai2{a b:AX}:evX (orc T) T k (.seq a b) st=bX (evX (orc T) T k a st) fun s=>evX (orc T) T k b s:=rfl
@[simp] def zag6{c:Opd}{x y:AX}:evX (orc T) T k (.cond c x y) st=cnX (ev st.env.get c) (evX (orc T) T k x st) (evX (orc T) T k y st):=rfl
@[simp] def zadt{id:Nat}{c:AX}:evX (orc T) T k (.block id c) st=Zg0 id (evX (orc T) T k c st):=rfl
@[simp] def zag7{c:AX}:evX (orc T) T k (.loop c) st=Zh6 T k c st:=rfl
@[congr] def z5z{o o':Option (Ex×St)}(h:o=o'):scX o=scX o':=by rw[h]
@[simp] def zai3{s:St}:scX (some (.n,s))=some (.n,s)/\scX (some (.r,s))=some (.r,s):=by and_intros<;>rfl
@[simp] def zai4{j:Nat}{s:St}:scX (some (.x j,s))=some (.x j,s):=rfl
@[simp] def zadu{c:Prop}[Decidable c]{a b:Option (Ex×St)}:scX (if c then a else b)=if c then scX a else scX b:=by split<;>rfl
@[simp] def zadv{c:AX}:evX (orc T) T k (.scope c) st=scX (evX (orc T) T k c st):=rfl
@[simp] def zadw{l:Nat}:evX (orc T) T k (.label l) st=some (.n,st)/\evX (orc T) T k (.goto l) st=some (.g l,st):=by and_intros<;>rfl
@[simp] def bX_g{l:Nat}{s:St}{f:St->Option (Ex×St)}:bX (some (.g l,s)) f=some (.g l,s):=rfl
def prX(o:Option St)(f:St->Option (Ex×St)):Option (Ex×St):=o.bind f
@[simp] def zag9{id l:Nat}{s:St}:Zg0 id (some (.g l,s))=some (.g l,s):=rfl
@[simp] def zaha{id:Nat}:evX (orc T) T k (.exit id) st=some (.x id,st):=rfl
@[simp] def zai6:evX (orc T) T k .ret st=some (.r,st):=rfl
@[simp] def zahb{c:AX}{g:Gh}:evX (orc T) T k (.note c g) st=bX (evX (orc T) T k c st) fun s=>stX (ghS k g s):=rfl
@[simp] def z9o{s:St}{f:St->Option (Ex×St)}:prX (some s) f=f s:=rfl
noncomputable def Zgi(k id:Nat)(g2:Gh)(o:Option (Ex×St)):Option (Ex×St):=bX (Zg0 id o) fun s=>stX (ghS k g2 s)
noncomputable def Zu(T:Tbl)(k id:Nat)(g2:Gh)(c:AX)(st:St):Option (Ex×St):=Zgi k id g2 (Zh6 T k c st)
@[simp] def zai7{c:AX}{g:Gh}:evX (orc T) T k (.pre g c) st=prX (ghS k g st) fun s=>evX (orc T) T k c s:=rfl
@[congr] def z0u{id:Nat}{g2:Gh}{c:AX}{st st':St}(h:st=st'):Zu T k id g2 c st=Zu T k id g2 c st':=by rw[h]
@[congr] def z3d{id:Nat}{g2:Gh}{o o':Option (Ex×St)}(h:o=o'):Zgi k id g2 o=Zgi k id g2 o':=by rw[h]
@[simp] def zahc{id j:Nat}{g2:Gh}{s:St}:Zgi k id g2 (some (.x j,s))=if j=id then stX (ghS k g2 s) else some (.x j,s):=by
 unfold Zgi;rw[z5v];split<;>simp
@[simp] def zahd{id:Nat}{g2:Gh}{s:St}:Zgi k id g2 (some (.r,s))=some (.r,s):=rfl
@[simp] def X_lp{id:Nat}{g g2:Gh}{c:AX}:evX (orc T) T k (.lp id g c g2) st=prX (ghS k g st) fun s=>Zu T k id g2 c s:=by
 simp only[evX,prX,Zu,Zgi,bX,Zg0,stX,Zh6];cases ghS k g st with
 | none=>rfl
 | some s=>
  simp only[Y7];cases (orc T).loop k c s with
  | none=>rfl
  | some r=>
   obtain⟨e,s'⟩:=r;cases e with
   | n=>rfl
   | r=>rfl
   | g l=>rfl
   | x j=>
    simp only[Y7];split<;>rfl
def Zgj:Option (Ex×St)->Bool
 | some (.x _,_)=>true
 | some (.r,_)=>true
 | _=>false
@[simp] def zahe{j:Nat}{s:St}:Zgj (some (.x j,s))=true:=rfl
@[simp] def zahf{s:St}:Zgj (some (.r,s))=true:=rfl
@[simp] def z9p{c:Prop}[Decidable c]{a b:Option (Ex×St)}:Zgj (if c then a else b)=if c then Zgj a else Zgj b:=by split<;>rfl
@[congr] def z3e{o o':Option (Ex×St)}(h:o=o'):Zgj o=Zgj o':=by rw[h]
def zpp{c:AX}:Zh6 T k c st=bX (evX (orc T) T k c st) fun s=>Zh6 T k c s:=zxf T k c st
def za6{α:Type}{id:Nat}{g2:Gh}{c:AX}(F:α->St)(I:α->Prop)(μ:α->Nat)(Q:Ex×St->Prop)
  (step:∀x,I x->(∃y,I y/\μ y<μ x/\evX (orc T) T k c (F x)=some (.n,F y))\/(∃r,Q r/\Zgj (evX (orc T) T k c (F x))=true/\Zgi k id g2 (evX (orc T) T k c (F x))=some r)) :
  ∀x,I x->∃r,Q r/\Zu T k id g2 c (F x)=some r:=by
 have key:∀n x,μ x=n->I x->∃r,Q r/\Zu T k id g2 c (F x)=some r:=by
  intro n
  induction n using Nat.strongRecOn with
  | _ n ih=>
   intro x hn hI;unfold Zu;rw[zpp];rcases step x hI with ⟨y,h1,h2,h3⟩ | ⟨r,h1,h2,h3⟩
   ·rw[h3,bX_n];exact ih (μ y) (hn▸h2) y rfl h1
   ·refine⟨r,h1,?_⟩;rw[<-h3];generalize evX (orc T) T k c (F x)=o at h2 ⊢;cases o with
    | none=>cases h2
    | some q=>
     obtain⟨e,s⟩:=q;cases e
     ·cases h2
     ·rfl
     ·rfl
     ·cases h2
 exact fun x hI=>key _ x rfl hI
def za0{α:Type}{id:Nat}{g2:Gh}{c:AX}(F:α->St)(I:α->Prop)(μ:α->Nat)(G:α->Option (Ex×St))
  (step:∀x,I x->(∃y,I y/\μ y<μ x/\evX (orc T) T k c (F x)=some (.n,F y)/\G y=G x)\/(Zgj (evX (orc T) T k c (F x))=true/\Zgi k id g2 (evX (orc T) T k c (F x))=G x)) :
  ∀x,I x->Zu T k id g2 c (F x)=G x:=by
 have key:∀n x,μ x=n->I x->Zu T k id g2 c (F x)=G x:=by
  intro n
  induction n using Nat.strongRecOn with
  | _ n ih=>
   intro x hn hI;unfold Zu;rw[zpp];rcases step x hI with ⟨y,h1,h2,h3,h4⟩ | ⟨h2,h3⟩
   ·rw[h3,bX_n,<-h4];exact ih (μ y) (hn▸h2) y rfl h1
   ·rw[<-h3];generalize evX (orc T) T k c (F x)=o at h2 ⊢;cases o with
    | none=>cases h2
    | some q=>
     obtain⟨e,s⟩:=q;cases e
     ·cases h2
     ·rfl
     ·rfl
     ·cases h2
 exact fun x hI=>key _ x rfl hI
noncomputable def gS(T:Tbl)(x:AV)(want:Bool)(op:AOp)(d:Option Nat)(st:St):Option St:=gX (orc T) T x want op d st
@[simp] def zai8:Zdf (orc T) T [] st=some st:=rfl
@[simp] def zahg{d:Option Nat}{op:AOp}{l:List AO}:Zdf (orc T) T (⟨d,none,op⟩::l) st=bS (opX (orc T) T op d st) fun s=>Zdf (orc T) T l s:=rfl
@[congr] def z9q{x x':AV}{want:Bool}{op:AOp}(h:x=x'):gS T x want op d st=gS T x' want op d st:=by rw[h]
@[simp] def zadx{d:Option Nat}{op:AOp}{l:List AO}{t:Nat}{w:Bool}:Zdf (orc T) T (⟨d,some (t,w),op⟩::l) st=bS (gS T (st.env.get t) w op d st) fun s=>Zdf (orc T) T l s:=rfl
@[simp] def gS_b{v want:Bool}{op:AOp}:gS T (.b v) want op d st=if v=want then opX (orc T) T op d st else some ⟨Ze st.env d (.tup []),st.heap,st.clk⟩:=rfl
@[simp] def zahh{vs:List AV}{want:Bool}{op:AOp}:gS T (.tup vs) want op d st=some ⟨Ze st.env d (.tup []),st.heap,st.clk⟩:=rfl
@[simp] def zai9{x}:opX (orc T) T (.mov x) d st=some ⟨Ze st.env d (ev st.env.get x),st.heap,st.clk⟩:=rfl
@[simp] def zahi{c a b}:opX (orc T) T (.pick c a b) d st=pS (Zgl (ev st.env.get c) (ev st.env.get a) (ev st.env.get b)) d st:=rfl
@[simp] def zady{zs ps}:opX (orc T) T (.build zs ps) d st=pS ((Zf6 zs (ps.map fun p=>(p.1,p.2.1,ev st.env.get p.2.2))).map .agg) d st:=rfl
@[simp] def zahj{n x}:opX (orc T) T (.load n x) d st=pS (Ze4 n st.heap (ev st.env.get x)) d st:=rfl
@[simp] def zaja{o x y}:opX (orc T) T (.bin o x y) d st=pS (Z5 o (ev st.env.get x) (ev st.env.get y)) d st:=rfl
@[simp] def zajb{g ls x y}:opX (orc T) T (.eqs g ls x y) d st=pS (Zg9 g ls (ev st.env.get x) (ev st.env.get y)) d st:=rfl
@[simp] def zadz{g x}:opX (orc T) T (.eqnil g x) d st=pS (Zer g (ev st.env.get x)) d st:=rfl
@[simp] def zajc{g x y}:opX (orc T) T (.eqb g x y) d st=pS (Zha g (ev st.env.get x) (ev st.env.get y)) d st:=rfl
@[simp] def O_un{o x}:opX (orc T) T (.un o x) d st=pS (Zgm o (ev st.env.get x)) d st:=rfl
@[simp] def zahk{n x}:opX (orc T) T (.conv n x) d st=pS (Zbd n (ev st.env.get x)) d st:=rfl
@[simp] def zajd{z x lo hi mx}:opX (orc T) T (.slc z x lo hi mx) d st=pS (Zf7 z st.heap (ev st.env.get x) (evO st.env.get lo) (evO st.env.get hi) (evO st.env.get mx)) d st:=rfl
@[simp] def zad0{x lo hi}:opX (orc T) T (.slstr x lo hi) d st=pS (Zes (ev st.env.get x) (evO st.env.get lo) (evO st.env.get hi)) d st:=rfl
@[simp] def zaje{o x}:opX (orc T) T (.fad o x) d st=pS (Zgn o st.heap (ev st.env.get x)) d st:=rfl
@[simp] def zajf{o n x}:opX (orc T) T (.fld o n x) d st=pS (Zhb o n (ev st.env.get x)) d st:=rfl
@[simp] def zajg{z x i}:opX (orc T) T (.iad z x i) d st=pS (Zgo z st.heap (ev st.env.get x) (ev st.env.get i)) d st:=rfl
@[simp] def zajh{z n x i}:opX (orc T) T (.iaa z n x i) d st=pS (Zgp z n st.heap (ev st.env.get x) (ev st.env.get i)) d st:=rfl
@[simp] def zaji{x i}:opX (orc T) T (.ixs x i) d st=pS (Zhc (ev st.env.get x) (ev st.env.get i)) d st:=rfl
@[simp] def zajj{z l n x i}:opX (orc T) T (.ixa z l n x i) d st=pS (Zhd z l n (ev st.env.get x) (ev st.env.get i)) d st:=rfl
@[simp] def zajk{x}:opX (orc T) T (.len x) d st=pS (Zgq st.heap (ev st.env.get x)) d st:=rfl
@[simp] def zahl{x}:opX (orc T) T (.lens x) d st=pS (Zfs (ev st.env.get x)) d st:=rfl
@[simp] def zahm{n}:opX (orc T) T (.lenc n) d st=some ⟨Ze st.env d (.i .i64 n),st.heap,st.clk⟩:=rfl
@[simp] def O_mm{m xs}:opX (orc T) T (.mm m xs) d st=pS (Zjr m (xs.map (ev st.env.get))) d st:=rfl
@[simp] def zajl{x n}:opX (orc T) T (.ext x n) d st=pS (Zhe n (ev st.env.get x)) d st:=rfl
@[simp] def zahn{x}:opX (orc T) T (.nilc x) d st=pS (Ze5 st.heap (ev st.env.get x)) d st:=rfl
@[simp] def zad1{zs}:opX (orc T) T (.alloc zs) d st=pW (Zet zs d st.heap st.clk) d st:=rfl
@[simp] def zad2{n x v}:opX (orc T) T (.store n x v) d st=pW ((Zbf n st.heap (ev st.env.get x) (ev st.env.get v)).map fun h'=>(.tup [],h',st.clk)) d st:=rfl
@[simp] def zajm{z zs l c}:opX (orc T) T (.mks z zs l c) d st=pW (Zf9 z zs d st.heap st.clk (ev st.env.get l) (ev st.env.get c)) d st:=rfl
@[simp] def zajn{z x y}:opX (orc T) T (.app z x y) d st=pW (Zh2 z d st.heap st.clk (ev st.env.get x) (ev st.env.get y)) d st:=rfl
@[simp] def zaho{n xs}:opX (orc T) T (.xop (.box n) xs) d st=pW (Zao (.box n) (xs.map (ev st.env.get)) d st.heap st.clk) d st:=rfl
@[simp] def zahp{xs}:opX (orc T) T (.xop .cpy xs) d st=pW (Zao .cpy (xs.map (ev st.env.get)) d st.heap st.clk) d st:=rfl
@[simp] def zad3{xs}:opX (orc T) T (.xop .bstr xs) d st=pW (Zao .bstr (xs.map (ev st.env.get)) d st.heap st.clk) d st:=rfl
@[simp] def zad4{n xs}:opX (orc T) T (.xop (.arsl n) xs) d st=pW (Zao (.arsl n) (xs.map (ev st.env.get)) d st.heap st.clk) d st:=rfl
@[simp] def zad5{xs}:opX (orc T) T (.xop .apps xs) d st=pW (Zao .apps (xs.map (ev st.env.get)) d st.heap st.clk) d st:=rfl
@[simp] def zahq{xs}:opX (orc T) T (.xop .bad xs) d st=pW (Zao .bad (xs.map (ev st.env.get)) d st.heap st.clk) d st:=rfl
@[simp] def zajo{n xs}:opX (orc T) T (.xop (.mkf n) xs) d st=pW (Zao (.mkf (Zd T n)) (xs.map (ev st.env.get)) d st.heap st.clk) d st:=rfl
@[simp] def zahr{k zv ok x i}:opX (orc T) T (.look k zv ok x i) d st=pS (Zd2 k zv ok st.heap (ev st.env.get x) (ev st.env.get i)) d st:=rfl
@[simp] def zahs{xs}:opX (orc T) T (.xop .mmap xs) d st=pW (Zao .mmap (xs.map (ev st.env.get)) d st.heap st.clk) d st:=rfl
@[simp] def zaht{k xs}:opX (orc T) T (.xop (.mupd k) xs) d st=pW (Zao (.mupd k) (xs.map (ev st.env.get)) d st.heap st.clk) d st:=rfl
@[simp] def z0v{dd:Option Nat}{h:Heap}{clk:Nat}:Zao .mmap [] dd h clk=Zhr dd h clk:=rfl
@[simp] def z0w{n:Nat}{h:Heap}{clk:Nat}:Zhr (some n) h clk=some (.fnp 0 (.loc n) clk 2 0 0,(.loc n,⟨clk,.mp,2,[]⟩)::h,clk+1):=rfl
@[simp] def z9r(h:Heap)(id:BId)(g:Nat):Zff h id g=(match h.lookup id with | some bx=>if bx.gen=g/\bx.z=2/\bx.kind=.mp then some bx else none | none=>none):=rfl
@[simp] def z3f{k:KTy}{zv:AV}{ok:Bool}{h:Heap}{id:BId}{g:Nat}{i:AV}:Zd2 k zv ok h (.fnp 0 id g 2 0 0) i=(Zff h id g).bind fun bx=>if (Zdq k i i).isSome&&noRef i then (Zfe k i bx.els).map fun r=>
   if ok then .tup [r.getD zv,.b r.isSome] else r.getD zv else none:=rfl
@[simp] def z50{k k':IntKind}{a b:Int}:Zdq .int (.i k a) (.i k' b)=if k=k' then some (a == b) else none:=rfl
@[simp] def z9s{ls:List (Nat×Leaf)}{xs ys:List AV}:Zdq (.fs ls) (.agg xs) (.agg ys)=eqL ls xs ys:=rfl
@[simp] def z3g:Zi0 (some none)=true:=rfl
@[simp] def z52{k:KTy}{x:AV}:Zfe k x []=some none:=rfl
@[simp] def z0x{k:KTy}{id:BId}{g:Nat}{i y:AV}{dd:Option Nat}{h:Heap}{clk:Nat}:Zao (.mupd k) [.fnp 0 id g 2 0 0,i,y] dd h clk =
  (Zff h id g).bind fun bx=>if (Zdq k i i).isSome&&noRef i&&noRef y&&Zi0 (Zfe k i bx.els) then some (.dead,(id,⟨g,.mp,2,bx.els++[[i,y]]⟩)::h,clk) else none:=rfl
@[simp] def zajp{n xs}:opX (orc T) T (.xop (.mkv n) xs) d st=pW (Zao (.mkv (Zd T n)) (xs.map (ev st.env.get)) d st.heap st.clk) d st:=rfl
@[simp] def z3h{f:Nat}{x:AV}{dd:Option Nat}{h:Heap}{clk:Nat}:Zao (.mkv f) [x] dd h clk=if noRef x=true then some (.fnv f x,h,clk) else none:=rfl
@[simp] def zajq{z zs n ps}:opX (orc T) T (.bsl z zs n ps) d st=pB (Zds z zs n st.heap (ps.map fun p=>(p.1,ev st.env.get p.2))) d st:=rfl
@[simp] def zahu{u args}:opX (orc T) T (.call u args) d st=Zah (orc T) T u (args.map (ev st.env.get)) d st:=rfl
def cR(r:Option AV)(xs:List AV)(d:Option Nat)(st:St):Option St:=
 r.map fun r=>⟨Ze st.env d r,if scalar r then st.heap else Zx (xs.flatMap refs) st.heap,st.clk⟩
@[congr] def z9t{r r':Option AV}{xs:List AV}(h:r=r'):cR r xs d st=cR r' xs d st:=by rw[h]
def bL(o:Option (List AV))(f:List AV->Option St):Option St:=o.bind f
@[simp] def zad6{r:AV}{xs:List AV}:cR (some r) xs d st=some ⟨Ze st.env d r,if scalar r then st.heap else Zx (xs.flatMap refs) st.heap,st.clk⟩:=rfl
@[congr] def z9u{o o':Option (List AV)}{f:List AV->Option St}(h:o=o'):bL o f=bL o' f:=by rw[h]
def Zjj(h:Heap):List AV->Option (List AV)
 | []=>some []
 | x::l=>(Zaw h x).bind fun y=>(Zjj h l).map fun ys=>y::ys
@[simp] def zad7{xs:List AV}{f:List AV->Option St}:bL (some xs) f=f xs:=rfl
theorem zus(h:Heap):∀l:List AV,l.mapM (Zaw h)=Zjj h l
 | []=>rfl
 | x::l=>by simp only[Ya4,Zjj,zus h l,Yce,Yc0,Option.map_eq_bind,Function.comp_def]
attribute [simp] Zjj Zhn Zc4 Zfv
def zbl{u:Nat}{xs:List AV}{np nt:Nat}{res:List RV}{b:AX}{ex:Bool}(hT:Tr T u=some ⟨np,nt,res,b,none,ex⟩) :
  Zah (orc T) T u xs d st=bL (Zjj st.heap xs) fun ys=>cR (Zb T u (ys.map (wkIf ex))) xs d st:=by
 change T u=_ at hT
 unfold Zah bL cR Zb;rw[hT];simp only[zus];congr 1
 funext ys
 cases (orc T).call u (ys.map (wkIf ex)) []<;>rfl
def zaa{u:Nat}{xs:List AV}{np nt:Nat}{res:List RV}{b:AX}{ex:Bool}(hT:Tr T u=some ⟨np,nt,res,b,none,ex⟩)(hn:xs.length=np)(hp:b.isPrim=none:=by rfl) :
  Zb T u xs=Zhw res ex (evX (orc T) T 0 b ⟨Zca xs,[],1⟩):=by
 change T u=_ at hT
 unfold Zb Zhw;rw[zkb];simp only[Zcv,hT,hp];rw[if_pos ⟨hn,by simp⟩];simp only[Yam,Yar];cases evX (orc T) T 0 b ⟨Zca xs,[],1⟩ with
 | none=>rfl
 | some r=>
  obtain⟨e,s⟩:=r;cases e<;>simp only[Y7,Zj5,Yea]<;>(cases Zcl s res<;>simp only[Option.bind_none,Yea,Y7]<;>cases frz s.heap _<;>rfl)
def zcr{u:Nat}{xs:List AV}{np nt:Nat}{res:List RV}{f:List AV->Option AV}{ex:Bool}(hT:Tr T u=some ⟨np,nt,res,.prim f,none,ex⟩):Zb T u xs=f xs:=by
 change T u=_ at hT
 unfold Zb;rw[zkb];simp only[Zcv,hT,AX.isPrim];cases f xs<;>simp
def zdp{u:Nat}{xs:List AV}{hb:Heap}{np nt:Nat}{res:List RV}{b:AX}{ms:List Bool}{ex:Bool}(hT:Tr T u=some ⟨np,nt,res,b,some ms,ex⟩)(hn:xs.length=np)(hp:b.isPrim=none:=by rfl) :
  Zd0 T u xs hb=Zin res ex hb.length (evX (orc T) T hb.length b ⟨Zca xs,hb,hb.length+1⟩):=by
 change T u=_ at hT
 unfold Zd0 Zin;rw[zkb];simp only[Zcv,hT,hp];rw[if_pos ⟨hn,by simp⟩];cases evX (orc T) T hb.length b ⟨Zca xs,hb,hb.length+1⟩ with
 | none=>rfl
 | some r=>
  obtain⟨e,s⟩:=r;cases e<;>simp only[Y7,Zj5]<;>(cases Zcl s res<;>rfl)
def Zj6(l:List BId)(hp h1:Heap)(r:Option (AV×Heap))(d:Option Nat)(st:St):Option St:=
 r.bind fun r=>
  let hb':=r.2.map fun p=>(Zax l (d.getD 0) p.1,Zaa true (Zax l (d.getD 0)) (Za7 hp st.clk) p.2)
  let r':=rlA (Zax l (d.getD 0)) (Za7 hp st.clk) r.1
  if (hb'.map (·.1)).Nodup&&Zb2 hb' r'&&Zgw hb' then
   some ⟨Ze st.env d r',hb'++(h1.filter fun p=>!(l.contains p.1 || (hb'.map (·.1)).contains p.1)),st.clk+r.2.length+2⟩
  else none
@[congr] def z3i{l:List BId}{hp h1:Heap}{r r':Option (AV×Heap)}(h:r=r'):Zj6 l hp h1 r d st=Zj6 l hp h1 r' d st:=by rw[h]
noncomputable def Zi3(ys:List AV)(h1:Heap)(l:List BId)(T:Tbl)(u:Nat)(ex:Bool)(d:Option Nat)(st:St):Option St:=
 if (Zdx h1 l).map (·.1)=l/\l.Nodup then
  Zj6 l (Zdx h1 l) h1 (Zd0 T u (ys.map fun y=>rlA (inN l) (inG (Zdx h1 l)) (wkIf ex y)) ((Zdx h1 l).map fun p=>(inN l p.1,Zaa ex (inN l) (inG (Zdx h1 l)) p.2))) d st
 else none
@[simp] def z53{l:List BId}{hp h1:Heap}{r:AV}{h2:Heap}:Zj6 l hp h1 (some (r,h2)) d st =
  (if ((h2.map fun p=>(Zax l (d.getD 0) p.1,Zaa true (Zax l (d.getD 0)) (Za7 hp st.clk) p.2)).map (·.1)).Nodup&&Zb2 (h2.map fun p=>(Zax l (d.getD 0) p.1,Zaa true (Zax l (d.getD 0)) (Za7 hp st.clk) p.2)) (rlA (Zax l (d.getD 0)) (Za7 hp st.clk) r)&&Zgw (h2.map fun p=>(Zax l (d.getD 0) p.1,Zaa true (Zax l (d.getD 0)) (Za7 hp st.clk) p.2)) then
   some ⟨Ze st.env d (rlA (Zax l (d.getD 0)) (Za7 hp st.clk) r),(h2.map fun p=>(Zax l (d.getD 0) p.1,Zaa true (Zax l (d.getD 0)) (Za7 hp st.clk) p.2))++(h1.filter fun p=>!(l.contains p.1 || ((h2.map fun p=>(Zax l (d.getD 0) p.1,Zaa true (Zax l (d.getD 0)) (Za7 hp st.clk) p.2)).map (·.1)).contains p.1)),st.clk+h2.length+2⟩
  else none):=rfl
attribute [simp] Zi3 Zax Za7 inN inG Zeo Zgw
def zq9{u:Nat}{xs:List AV}{np nt:Nat}{res:List RV}{b:AX}{ms:List Bool}{ex:Bool}(hT:Tr T u=some ⟨np,nt,res,b,some ms,ex⟩) :
  Zah (orc T) T u xs d st=bL (Zhn st.heap ms xs) fun ys=>Zi3 ys (Zx (Zc4 ms xs) st.heap) (Zfk (Zx (Zc4 ms xs) st.heap) 40 (Zfv ms xs) []) T u ex d st:=by
 change T u=_ at hT
 unfold Zah bL Zi3 Zj6 Zd0;rw[hT]
def bD(o:Option (AV×Bool))(f:AV×Bool->Option St):Option St:=o.bind f
@[congr] def z9v{o o':Option (AV×Bool)}{f:AV×Bool->Option St}(h:o=o'):bD o f=bD o' f:=by rw[h]
def bWr(o:Option (AV×Heap×Nat))(f:AV×Heap×Nat->Option St):Option St:=o.bind f
@[simp] def zad8{e:AV×Bool}{f:AV×Bool->Option St}:bD (some e) f=f e:=rfl
@[congr] def z54{o o':Option (AV×Heap×Nat)}{f:AV×Heap×Nat->Option St}(h:o=o'):bWr o f=bWr o' f:=by rw[h]
def iP(b:Bool)(x:Option St):Option St:=if b then x else none
@[simp] def z9w{q:AV×Heap×Nat}{f:AV×Heap×Nat->Option St}:bWr (some q) f=f q:=rfl
@[congr] def z9x{b b':Bool}{x:Option St}(h:b=b'):iP b x=iP b' x:=by rw[h]
@[simp] def zad9{x:Option St}:iP true x=x:=rfl
@[simp] def z3j{h:Heap}:Z9 [] h=true:=by
 classical
 unfold Z9;exact decide_eq_true fun p hp=>by cases hp
@[simp] def z0y{q:AOp×Env×AV}{l:Zae}{h:Heap}:Z9 ((0,q)::l) h=Z9 l h:=by
 classical
 unfold Z9;refine decide_eq_decide.2 ⟨fun h1 p hp=>h1 p (Yh _ hp),fun h1 p hp h0=>?_⟩;rcases Yn.1 hp with rfl | hp
 ·cases h0
 ·exact h1 p hp h0
@[simp] def zn8{n:Nat}{op:AOp}{e:Env}{x:AV}{l:Zae}{h:Heap}(hs:Zgb op e.get h=some x):Z9 ((n,op,e,x)::l) h=Z9 l h:=by
 classical
 unfold Z9;refine decide_eq_decide.2 ⟨fun h1 p hp=>h1 p (Yh _ hp),fun h1 p hp h0=>?_⟩;rcases Yn.1 hp with rfl | hp
 ·exact hs
 ·exact h1 p hp h0
def zra{op:AOp}{e:Env}{older:List Heap}{x:AV}(hf:op.free=true):Zfl op e older x=true:=by unfold Zfl;rw[hf];rfl
def zut{op:AOp}{e:Env}{x:AV}:Zfl op e [] x=true:=by
 classical
 unfold Zfl;rw[Yck];exact .inr (decide_eq_true fun h' hh=>by cases hh)
noncomputable def rD(T:Tbl)(q:Option (Nat×List AV))(o:DO)(r:List DO)(e:Env)(h:Heap)(clk:Nat)(older:List Heap)(pend:Zae):Option St:=
 match q with
 | none=>bD (qX (orc T) T o.ao e h (older.take (older.length-o.lo))) fun x=>Zbl (orc T) T r (Ze e o.ao.dst x.1) h clk older (Zbh o older.length e x pend)
 | some p=>(Zdy (orc T) T p.1 p.2).bind fun x=>Zbl (orc T) T r (Ze e o.ao.dst x) h clk older (if older.length<o.hi then (o.hi-older.length,o.ao.op,e,.tup p.2)::pend else pend)
noncomputable def bAV(o:Option AV)(f:AV->Option St):Option St:=o.bind f
@[simp] def zaea{o:DO}{r:List DO}{e:Env}{h:Heap}{clk:Nat}{older:List Heap}{pend:Zae}:rD T none o r e h clk older pend=bD (qX (orc T) T o.ao e h (older.take (older.length-o.lo))) fun x=>Zbl (orc T) T r (Ze e o.ao.dst x.1) h clk older (Zbh o older.length e x pend):=rfl
@[simp] def z9y{x:AV}{f:AV->Option St}:bAV (some x) f=f x:=rfl
@[simp] def zaeb{u:Nat}{ys:List AV}{o:DO}{r:List DO}{e:Env}{h:Heap}{clk:Nat}{older:List Heap}{pend:Zae}:rD T (some (u,ys)) o r e h clk older pend=bAV (Zdy (orc T) T u ys) fun x=>Zbl (orc T) T r (Ze e o.ao.dst x) h clk older (if older.length<o.hi then (o.hi-older.length,o.ao.op,e,.tup ys)::pend else pend):=rfl
open Classical in
noncomputable def rK(u:Nat)(xs ys:List AV)(older:List Heap):Option (Nat×List AV):=if decide (∀h'∈older,Zb0 h' xs=some ys)=true then some (u,ys) else none
@[simp] def zaec{g:Option (Nat×Bool)}{e:Env}{h:Heap}{older:List Heap}:Ze7 g none e h older=none:=by cases g<;>rfl
@[simp] def zaed{g:Nat×Bool}{c:Option (Nat×List Opd)}{e:Env}{h:Heap}{older:List Heap}:Ze7 (some g) c e h older=none:=by cases c<;>rfl
noncomputable def rC(c:Bool)(u:Nat)(xs:List AV)(h:Heap)(older:List Heap):Option (Nat×List AV):=
 match c with
 | true=>none
 | false=>(Zb0 h xs).bind fun ys=>rK u xs ys older
@[congr] def z9z{c c':Bool}{u:Nat}{xs:List AV}{h:Heap}{older:List Heap}(h1:c=c'):rC c u xs h older=rC c' u xs h older:=by rw[h1]
@[simp] def zaee{u:Nat}{xs:List AV}{h:Heap}{older:List Heap}:rC true u xs h older=none/\(rC false u xs h older=(Zb0 h xs).bind fun ys=>rK u xs ys older):=by and_intros<;>rfl
@[simp] def z55{q:Nat×List Opd}{e:Env}{h:Heap}{older:List Heap}:Ze7 none (some q) e h older=rC ((q.2.map (ev e.get)).all noRef) q.1 (q.2.map (ev e.get)) h older:=by
 classical
 unfold Ze7 Zj1 rC;cases hc:(q.2.map (ev e.get)).all noRef with
 | true=>simp only[hc,if_true,Yea]
 | false=>
  simp only[hc,Yad,if_false];cases Zb0 h (q.2.map (ev e.get)) with
  | none=>rfl
  | some ys=>
   simp only[Y7,rK];split<;>rfl
noncomputable def dX(T:Tbl)(wr:Bool)(o:DO)(r:List DO)(e:Env)(h:Heap)(clk:Nat)(older:List Heap)(pend:Zae):Option St:=
 match wr with
 | true=>if o.ao.guard.isNone then bWr (stepW o.ao.op o.ao.dst e.get h clk) fun q=>iP (Z9 pend q.2.1) (Zbl (orc T) T r (Ze e o.ao.dst q.1) q.2.1 q.2.2 (h::older) (pend.map fun p=>(p.1-1,p.2))) else none
 | false=>rD T (Ze7 o.ao.guard o.ao.op.callN e h (older.take (older.length-o.lo))) o r e h clk older pend
@[congr] def z0z{l:List DO}{e e':Env}{h h':Heap}{clk clk':Nat}{older older':List Heap}{pend pend':Zae}(h1:e=e')(h2:h=h')(h3:clk=clk')(h4:older=older')(h5:pend=pend'):Zbl (orc T) T l e h clk older pend=Zbl (orc T) T l e' h' clk' older' pend':=by rw[h1,h2,h3,h4,h5]
@[simp] def z56{e:Env}{h:Heap}{clk:Nat}{older:List Heap}{pend:Zae}:Zbl (orc T) T [] e h clk older pend=some ⟨e,h,clk⟩:=rfl
@[simp] def z3k{o:DO}{r:List DO}{e:Env}{h:Heap}{clk:Nat}{older:List Heap}{pend:Zae}:Zbl (orc T) T (o::r) e h clk older pend=dX T o.ao.op.writes o r e h clk older pend:=by
 unfold dX;rw[Zbl];cases o.ao.op.writes with
 | true=>rfl
 | false=>
  unfold rD;simp only;cases Ze7 o.ao.guard o.ao.op.callN e h (older.take (older.length-o.lo))<;>rfl
def dV(o:Option AV):Option (AV×Bool):=o.map fun x=>(x,true)
noncomputable def gD(T:Tbl)(x:AV)(want:Bool)(op:AOp)(e:Env)(h:Heap)(older:List Heap):Option (AV×Bool):=
 match x with
 | .b v=>if v=want then dV (opD (orc T) T op e h older) else some (.tup [],false)
 | .tup []=>some (.tup [],false)
 | _=>none
@[simp] def zaef{o:DO}{r:List DO}{e:Env}{h:Heap}{clk:Nat}{older:List Heap}{pend:Zae}:(dX T true o r e h clk older pend=if o.ao.guard.isNone then bWr (stepW o.ao.op o.ao.dst e.get h clk) fun q=>iP (Z9 pend q.2.1) (Zbl (orc T) T r (Ze e o.ao.dst q.1) q.2.1 q.2.2 (h::older) (pend.map fun p=>(p.1-1,p.2))) else none)/\dX T false o r e h clk older pend=rD T (Ze7 o.ao.guard o.ao.op.callN e h (older.take (older.length-o.lo))) o r e h clk older pend:=by and_intros<;>rfl
@[simp] def zaeg{x:AV}:dV (some x)=some (x,true):=rfl
@[simp] def zaeh:dV none=none:=rfl
@[simp] def zaei{op:AOp}{e:Env}{h:Heap}{older:List Heap}:qX (orc T) T ⟨d,none,op⟩ e h older=dV (opD (orc T) T op e h older):=rfl
@[congr] def z92{x x':AV}{want:Bool}{op:AOp}{e:Env}{h:Heap}{older:List Heap}(h1:x=x'):gD T x want op e h older=gD T x' want op e h older:=by rw[h1]
noncomputable def dC(o:Option AV)(op:AOp)(older:List Heap)(e:Env):Option AV:=o.bind fun x=>if Zfl op e older x then some x else none
@[simp] def zaej{t:Nat}{want:Bool}{op:AOp}{e:Env}{h:Heap}{older:List Heap}:qX (orc T) T ⟨d,some (t,want),op⟩ e h older=gD T (e.get t) want op e h older:=rfl
@[simp] def gD_b{v want:Bool}{op:AOp}{e:Env}{h:Heap}{older:List Heap}:gD T (.b v) want op e h older=if v=want then dV (opD (orc T) T op e h older) else some (.tup [],false):=rfl
@[simp] def zahv{want:Bool}{op:AOp}{e:Env}{h:Heap}{older:List Heap}:gD T (.tup []) want op e h older=some (.tup [],false):=rfl
@[congr] def z93{o o':Option AV}{op:AOp}{older:List Heap}{e:Env}(h1:o=o'):dC o op older e=dC o' op older e:=by rw[h1]
@[simp] def zahw{x:AV}{op:AOp}{e:Env}:dC (some x) op [] e=some x:=by
 unfold dC;rw[Y7,zut]
 rfl
def zbg{op:AOp}{h:Heap}{older:List Heap}{e:Env}(hf:op.free=true):((Zi op e.get h).bind fun x=>if Zfl op e older x then some x else none)=Zi op e.get h:=by
 cases Zi op e.get h with
 | none=>rfl
 | some x=>rw[Y7,zra hf];rfl
@[simp] def zajr{x}{e:Env}{h:Heap}{older:List Heap}:opD (orc T) T (.mov x) e h older=some (ev e.get x):=zbg (op:=.mov x) (h:=h) (older:=older) (e:=e) rfl
@[simp] def zajs{z y}{e:Env}{h:Heap}{older:List Heap}:opD (orc T) T (.app z (.c (.sl [] .nl)) y) e h older=Zf8 z (ev e.get y):=rfl
@[simp] def z94{z:Nat}{els:List (List AV)}{f:Fl}:Zf8 z (.sl els f)=if (els.head?.all fun r=>r.length=z)/\els.length<=4294967296 then some (.sl els .an) else none:=rfl
@[simp] def zy7{z n y}:(AOp.app z (.t n) y).writes=true:=rfl
@[simp] def z3l{z n y}:(AOp.app z (.t n) y).free=false:=rfl
@[simp] def z00{z n y}:(AOp.app z (.t n) y).maker=true:=rfl
@[simp] def z3m{z y}:(AOp.app z (.c (.sl [] .nl)) y).writes=false:=rfl
@[simp] def z95{z y}:(AOp.app z (.c (.sl [] .nl)) y).free=true:=rfl
@[simp] def z57{z y}:(AOp.app z (.c (.sl [] .nl)) y).maker=false:=rfl
@[simp] def zahx{c a b}{e:Env}{h:Heap}{older:List Heap}:opD (orc T) T (.pick c a b) e h older=Zgl (ev e.get c) (ev e.get a) (ev e.get b):=zbg (op:=.pick c a b) (h:=h) (older:=older) (e:=e) rfl
@[simp] def zaek{zs ps}{e:Env}{h:Heap}{older:List Heap}:opD (orc T) T (.build zs ps) e h older=(Zf6 zs (ps.map fun p=>(p.1,p.2.1,ev e.get p.2.2))).map .agg:=zbg (op:=.build zs ps) (h:=h) (older:=older) (e:=e) rfl
@[simp] def zajt{o x y}{e:Env}{h:Heap}{older:List Heap}:opD (orc T) T (.bin o x y) e h older=Z5 o (ev e.get x) (ev e.get y):=zbg (op:=.bin o x y) (h:=h) (older:=older) (e:=e) rfl
@[simp] def zaju{g ls x y}{e:Env}{h:Heap}{older:List Heap}:opD (orc T) T (.eqs g ls x y) e h older=Zg9 g ls (ev e.get x) (ev e.get y):=zbg (op:=.eqs g ls x y) (h:=h) (older:=older) (e:=e) rfl
@[simp] def zael{g x}{e:Env}{h:Heap}{older:List Heap}:opD (orc T) T (.eqnil g x) e h older=Zer g (ev e.get x):=zbg (op:=.eqnil g x) (h:=h) (older:=older) (e:=e) rfl
@[simp] def zajv{g x y}{e:Env}{h:Heap}{older:List Heap}:opD (orc T) T (.eqb g x y) e h older=Zha g (ev e.get x) (ev e.get y):=zbg (op:=.eqb g x y) (h:=h) (older:=older) (e:=e) rfl
@[simp] def D_un{o x}{e:Env}{h:Heap}{older:List Heap}:opD (orc T) T (.un o x) e h older=Zgm o (ev e.get x):=zbg (op:=.un o x) (h:=h) (older:=older) (e:=e) rfl
@[simp] def zahy{k x}{e:Env}{h:Heap}{older:List Heap}:opD (orc T) T (.conv k x) e h older=Zbd k (ev e.get x):=zbg (op:=.conv k x) (h:=h) (older:=older) (e:=e) rfl
@[simp] def zaem{x lo hi}{e:Env}{h:Heap}{older:List Heap}:opD (orc T) T (.slstr x lo hi) e h older=Zes (ev e.get x) (evO e.get lo) (evO e.get hi):=zbg (op:=.slstr x lo hi) (h:=h) (older:=older) (e:=e) rfl
@[simp] def zajw{o n x}{e:Env}{h:Heap}{older:List Heap}:opD (orc T) T (.fld o n x) e h older=Zhb o n (ev e.get x):=zbg (op:=.fld o n x) (h:=h) (older:=older) (e:=e) rfl
@[simp] def zajx{x i}{e:Env}{h:Heap}{older:List Heap}:opD (orc T) T (.ixs x i) e h older=Zhc (ev e.get x) (ev e.get i):=zbg (op:=.ixs x i) (h:=h) (older:=older) (e:=e) rfl
@[simp] def zajy{z l n x i}{e:Env}{h:Heap}{older:List Heap}:opD (orc T) T (.ixa z l n x i) e h older=Zhd z l n (ev e.get x) (ev e.get i):=zbg (op:=.ixa z l n x i) (h:=h) (older:=older) (e:=e) rfl
@[simp] def zahz{x}{e:Env}{h:Heap}{older:List Heap}:opD (orc T) T (.lens x) e h older=Zfs (ev e.get x):=zbg (op:=.lens x) (h:=h) (older:=older) (e:=e) rfl
@[simp] def zah0{n}{e:Env}{h:Heap}{older:List Heap}:opD (orc T) T (.lenc n) e h older=some (.i .i64 n):=zbg (op:=.lenc n) (h:=h) (older:=older) (e:=e) rfl
@[simp] def D_mm{m xs}{e:Env}{h:Heap}{older:List Heap}:opD (orc T) T (.mm m xs) e h older=Zjr m (xs.map (ev e.get)):=zbg (op:=.mm m xs) (h:=h) (older:=older) (e:=e) rfl
@[simp] def zajz{x n}{e:Env}{h:Heap}{older:List Heap}:opD (orc T) T (.ext x n) e h older=Zhe n (ev e.get x):=zbg (op:=.ext x n) (h:=h) (older:=older) (e:=e) rfl
@[simp] def zah1{n x}{e:Env}{h:Heap}{older:List Heap}:opD (orc T) T (.load n x) e h older=dC (Ze4 n h (ev e.get x)) (.load n x) older e:=rfl
@[simp] def zaj0{z x lo hi mx}{e:Env}{h:Heap}{older:List Heap}:opD (orc T) T (.slc z x lo hi mx) e h older=dC (Zf7 z h (ev e.get x) (evO e.get lo) (evO e.get hi) (evO e.get mx)) (.slc z x lo hi mx) older e:=rfl
@[simp] def zaj1{o x}{e:Env}{h:Heap}{older:List Heap}:opD (orc T) T (.fad o x) e h older=dC (Zgn o h (ev e.get x)) (.fad o x) older e:=rfl
@[simp] def zaj2{z x i}{e:Env}{h:Heap}{older:List Heap}:opD (orc T) T (.iad z x i) e h older=dC (Zgo z h (ev e.get x) (ev e.get i)) (.iad z x i) older e:=rfl
@[simp] def zaj3{z n x i}{e:Env}{h:Heap}{older:List Heap}:opD (orc T) T (.iaa z n x i) e h older=dC (Zgp z n h (ev e.get x) (ev e.get i)) (.iaa z n x i) older e:=rfl
@[simp] def zaj4{x}{e:Env}{h:Heap}{older:List Heap}:opD (orc T) T (.len x) e h older=dC (Zgq h (ev e.get x)) (.len x) older e:=rfl
@[simp] def zah2{k zv ok x i}{e:Env}{h:Heap}{older:List Heap}:opD (orc T) T (.look k zv ok x i) e h older=dC (Zd2 k zv ok h (ev e.get x) (ev e.get i)) (.look k zv ok x i) older e:=rfl
@[simp] def zah3{x}{e:Env}{h:Heap}{older:List Heap}:opD (orc T) T (.nilc x) e h older=dC (Ze5 h (ev e.get x)) (.nilc x) older e:=rfl
def dR(r:Option AV)(xs:List AV):Option AV:=if xs.all noRef then r else none
@[congr] def z96{r r':Option AV}{xs:List AV}(h1:r=r'):dR r xs=dR r' xs:=by rw[h1]
@[simp] def zaen{r:AV}{xs:List AV}:dR (some r) xs=if xs.all noRef then some r else none:=rfl
def zxg{u:Nat}{args:List Opd}{np nt:Nat}{res:List RV}{b:AX}{ex:Bool}{e:Env}{h:Heap}{older:List Heap}(hT:Tr T u=some ⟨np,nt,res,b,none,ex⟩) :
  opD (orc T) T (.call u args) e h older=dR (Zb T u ((args.map (ev e.get)).map (wkIf ex))) (args.map (ev e.get)):=by
 change T u=_ at hT
 unfold dR Zb;simp only[opD,hT,Option.isNone_none,Ydk]
@[simp] def zaj5{z zs n ps}{e:Env}{h:Heap}{older:List Heap}:opD (orc T) T (.bsl z zs n ps) e h older=if (ps.map fun p=>(p.1,ev e.get p.2)).all (fun p=>noRef p.2) then (Zds z zs n [] (ps.map fun p=>(p.1,ev e.get p.2))).map (·.1) else none:=rfl
@[congr] def z01{tl l:List AO}{e e':Env}{h h':Heap}{clk clk':Nat}(h1:e=e')(h2:h=h')(h3:clk=clk'):Zdz (orc T) T tl l e h clk=Zdz (orc T) T tl l e' h' clk':=by rw[h1,h2,h3]
noncomputable def rH(T:Tbl)(q:Option (Nat×List AV))(tl:List AO)(o:AO)(r:List AO)(e:Env)(h:Heap)(clk:Nat):Option St:=
 match q with
 | none=>bD (qX (orc T) T o e h []) fun x=>Zce (orc T) T tl r (Ze e o.dst x.1) h clk
 | some p=>(Zdy (orc T) T p.1 p.2).bind fun x=>Zce (orc T) T tl r (Ze e o.dst x) h clk
@[simp] def z58{tl:List AO}{e:Env}{h:Heap}{clk:Nat}:Zdz (orc T) T tl [] e h clk=Zdf (orc T) T tl ⟨e,h,clk⟩/\Zce (orc T) T tl [] e h clk=Zdf (orc T) T tl ⟨e,h,clk⟩:=by and_intros<;>rfl
@[simp] def z3n{tl r:List AO}{o:AO}{e:Env}{h:Heap}{clk:Nat}:Zdz (orc T) T tl (o::r) e h clk=bD (qX (orc T) T o e h []) fun x=>Zdz (orc T) T tl r (Ze e o.dst x.1) h clk:=rfl
@[simp] def zaeo{tl:List AO}{o:AO}{r:List AO}{e:Env}{h:Heap}{clk:Nat}:rH T none tl o r e h clk=bD (qX (orc T) T o e h []) fun x=>Zce (orc T) T tl r (Ze e o.dst x.1) h clk:=rfl
@[simp] def zaep{p:Nat×List AV}{tl:List AO}{o:AO}{r:List AO}{e:Env}{h:Heap}{clk:Nat}:rH T (some p) tl o r e h clk=(Zdy (orc T) T p.1 p.2).bind fun x=>Zce (orc T) T tl r (Ze e o.dst x) h clk:=rfl
@[simp] def z3o{tl r:List AO}{o:AO}{e:Env}{h:Heap}{clk:Nat}:Zce (orc T) T tl (o::r) e h clk=rH T (Ze7 o.guard o.op.callN e h []) tl o r e h clk:=by
 unfold rH;rw[Zce];cases Ze7 o.guard o.op.callN e h []<;>rfl
@[simp] def zaeq{hd tl:List AO}:evX (orc T) T k (.drawR hd tl) st=stX (Zce (orc T) T tl hd st.env st.heap st.clk):=rfl
@[congr] def z02{tl l:List AO}{h0:Heap}{c0:Nat}{X:Heap}{e e':Env}{h h':Heap}{clk clk':Nat}(h1:e=e')(h2:h=h')(h3:clk=clk'):Zau (orc T) T tl h0 c0 X l e h clk=Zau (orc T) T tl h0 c0 X l e' h' clk':=by rw[h1,h2,h3]
noncomputable def kM(T:Tbl)(tl:List AO)(h0:Heap)(c0:Nat)(X:Heap)(op:AOp)(d:Nat)(r:List AO)(e:Env)(h:Heap)(q:Option (AV×Heap×Nat)):Option St:=
 q.bind fun q=>if ((h.lookup (.loc d)).isNone&&Zhv c0 op e q.2.1)=true then Zau (orc T) T tl h0 c0 X r (Ze e (some d) q.1) (q.2.1++h) q.2.2 else none
noncomputable def kN(T:Tbl)(tl:List AO)(h0:Heap)(c0:Nat)(X:Heap)(op:AOp)(d:Nat)(r:List AO)(e:Env)(h:Heap)(q:Option (AV×Heap×Nat)):Option St:=
 q.bind fun q=>if Zhv c0 op e (q.2.1.take 1)=true then Zau (orc T) T tl h0 c0 X r (Ze e (some d) q.1) (q.2.1.take 1++h) q.2.2 else none
noncomputable def uX(T:Tbl)(w:Option (BId×Box))(tl:List AO)(h0:Heap)(c0:Nat)(X:Heap)(op:AOp)(d:Nat)(r:List AO)(e:Env)(h:Heap)(clk:Nat):Option St:=
 match w with
 | none=>kM T tl h0 c0 X op d r e h (stepW op (some d) e.get [] clk)
 | some p=>kN T tl h0 c0 X op d r e h (stepW op (some d) e.get [p] clk)
@[simp] def z6a{tl:List AO}{h0:Heap}{c0:Nat}{X:Heap}{e:Env}{h:Heap}{clk:Nat}:Zau (orc T) T tl h0 c0 X [] e h clk=Zdf (orc T) T tl ⟨e,h,clk⟩:=rfl
@[simp] def zaer{tl:List AO}{h0:Heap}{c0:Nat}{X:Heap}{op:AOp}{d:Nat}{r:List AO}{e:Env}{h:Heap}{q:AV×Heap×Nat}:(kM T tl h0 c0 X op d r e h (some q)=if ((h.lookup (.loc d)).isNone&&Zhv c0 op e q.2.1)=true then Zau (orc T) T tl h0 c0 X r (Ze e (some d) q.1) (q.2.1++h) q.2.2 else none)/\(kN T tl h0 c0 X op d r e h (some q)=if Zhv c0 op e (q.2.1.take 1)=true then Zau (orc T) T tl h0 c0 X r (Ze e (some d) q.1) (q.2.1.take 1++h) q.2.2 else none):=by and_intros<;>rfl
@[congr] def z97{w w':Option (BId×Box)}{tl:List AO}{h0:Heap}{c0:Nat}{X:Heap}{op:AOp}{d:Nat}{r:List AO}{e:Env}{h:Heap}{clk:Nat}(h1:w=w'):uX T w tl h0 c0 X op d r e h clk=uX T w' tl h0 c0 X op d r e h clk:=by rw[h1]
@[simp] def zaet{tl:List AO}{h0:Heap}{c0:Nat}{X:Heap}{op:AOp}{d:Nat}{r:List AO}{e:Env}{h:Heap}{clk:Nat}:uX T none tl h0 c0 X op d r e h clk=kM T tl h0 c0 X op d r e h (stepW op (some d) e.get [] clk):=rfl
@[simp] def zaeu{tl:List AO}{h0:Heap}{c0:Nat}{X:Heap}{op:AOp}{d:Nat}{r:List AO}{e:Env}{h:Heap}{clk:Nat}{p:BId×Box}:uX T (some p) tl h0 c0 X op d r e h clk=kN T tl h0 c0 X op d r e h (stepW op (some d) e.get [p] clk):=rfl
@[simp] def z3p{c0:Nat}{h0 X h:Heap}{zs:List AV}{e:Env}:Zg7 c0 h0 X h (.alloc zs) e=none:=rfl
@[simp] def z98{c0:Nat}{h0 X h:Heap}{z:Nat}{zs:List AV}{l c:Opd}{e:Env}:Zg7 c0 h0 X h (.mks z zs l c) e=none:=rfl
@[simp] def z6b{c0:Nat}{h0 X h:Heap}{k:KTy}{zv:AV}{ok:Bool}{x i:Opd}{e:Env}:Zg7 c0 h0 X h (.look k zv ok x i) e=none:=rfl
@[simp] def z99{c0:Nat}{h0 X h:Heap}{k:XOp}{xs:List Opd}{e:Env}:Zg7 c0 h0 X h (.xop k xs) e=none:=rfl
@[simp] def zaaa{c0:Nat}{h0 X h:Heap}{z:Nat}{x y:Opd}{e:Env}:Zg7 c0 h0 X h (.app z x y) e=Zji c0 h0 X h (ev e.get x):=rfl
@[simp] def zaev{c0:Nat}{h0 X h:Heap}{l:List (List AV)}{f:Fl}:Zji c0 h0 X h (.sl l f)=none:=rfl
@[simp] def zaew{c0:Nat}{h0 X h:Heap}{b:BId}{g z o n:Nat}:Zji c0 h0 X h (.bs b g z o n)=Zj2 c0 (h0.lookup b) (X.lookup b) b (h.lookup b):=rfl
@[simp] def z6c{c0:Nat}{b:BId}{x o:Box}:Zj2 c0 none (some x) b (some o)=if o.gen<c0 then some (b,o) else none:=rfl
attribute [simp] Zlt
noncomputable def kB(T:Tbl)(tl:List AO)(h0:Heap)(c0:Nat)(X:Heap)(d:Nat)(r:List AO)(e:Env)(h:Heap)(q:Option (AV×Heap×Nat)):Option St:=
 q.bind fun q=>if q.2.1.all (fun p=>(h.lookup p.1).isNone)=true then Zau (orc T) T tl h0 c0 X r (Ze e (some d) q.1) (q.2.1++h) q.2.2 else none
noncomputable def lX(T:Tbl)(b:Option (Nat×List Opd))(tl:List AO)(h0:Heap)(c0:Nat)(X:Heap)(o:AO)(r:List AO)(e:Env)(h:Heap)(clk:Nat):Option St:=
 match b with
 | some ua=>
  match o.guard,o.dst with
  | none,some d=>kB T tl h0 c0 X d r e h (Ze1 (orc T) T ua.1 (ua.2.map (ev e.get)) d clk)
  | _,_=>none
 | none=>bD (qX (orc T) T o e h0 []) fun x=>if Zhg c0 o.op e (gnA x.1)=true then Zau (orc T) T tl h0 c0 X r (Ze e o.dst x.1) h clk else none
noncomputable def tX(T:Tbl)(tl:List AO)(h0:Heap)(c0:Nat)(X:Heap)(r:List AO)(b:Bool)(e:Env)(q:Option Heap)(clk:Nat):Option St:=
 q.bind fun h=>if b=true then Zau (orc T) T tl h0 c0 X r e h clk else none
noncomputable def sX(T:Tbl)(b:Bool)(tl:List AO)(h0:Heap)(c0:Nat)(X:Heap)(o:AO)(r:List AO)(e:Env)(h:Heap)(clk:Nat):Option St:=
 match b with
 | true=>
  match o.guard,o.dst with
  | none,none=>(stepW o.op none e.get h clk).bind fun q=>if Zfw X o.op e=true then Zau (orc T) T tl h0 c0 X r e q.2.1 q.2.2 else none
  | _,_=>none
 | false=>lX T o.op.lentN tl h0 c0 X o r e h clk
@[simp] def z6d{e:Env}:Zep [] e=[]:=rfl
@[simp] def z3q{o:AO}{r:List AO}{e:Env}:Zep (o::r) e=match o.op with | .mov x=>Zep r (Ze e o.dst (ev e.get x)) | .app _ x _=>Zlt (ev e.get x)++Zep r (Ze e o.dst .dead) | _=>Zep r (Ze e o.dst .dead):=rfl
@[simp] def z03{h:Heap}:Zeu [] h=h:=rfl
@[simp] def zy8{b:BId}{ids:List BId}{h:Heap}:Zeu (b::ids) h=h.filter fun p=>!(b::ids).contains p.1:=rfl
@[simp] def zaex{tl:List AO}{h0:Heap}{c0:Nat}{X:Heap}{d:Nat}{r:List AO}{e:Env}{h:Heap}{q:AV×Heap×Nat}:kB T tl h0 c0 X d r e h (some q)=if q.2.1.all (fun p=>(h.lookup p.1).isNone)=true then Zau (orc T) T tl h0 c0 X r (Ze e (some d) q.1) (q.2.1++h) q.2.2 else none:=rfl
@[simp] def zaey{tl r:List AO}{h0:Heap}{c0:Nat}{X:Heap}{op:AOp}{dd u:Nat}{args:List Opd}{e:Env}{h:Heap}{clk:Nat}:lX T (some (u,args)) tl h0 c0 X ⟨some dd,none,op⟩ r e h clk=kB T tl h0 c0 X dd r e h (Ze1 (orc T) T u (args.map (ev e.get)) dd clk):=rfl
@[simp] def zaez{tl r:List AO}{h0:Heap}{c0:Nat}{X:Heap}{o:AO}{e:Env}{h:Heap}{clk:Nat}:lX T none tl h0 c0 X o r e h clk=bD (qX (orc T) T o e h0 []) fun x=>if Zhg c0 o.op e (gnA x.1)=true then Zau (orc T) T tl h0 c0 X r (Ze e o.dst x.1) h clk else none:=rfl
@[simp] def zae0{tl:List AO}{h0:Heap}{c0:Nat}{X:Heap}{r:List AO}{e:Env}{h:Heap}{clk:Nat}:tX T tl h0 c0 X r true e (some h) clk=Zau (orc T) T tl h0 c0 X r e h clk:=rfl
@[simp] def zae1{tl r:List AO}{h0:Heap}{c0:Nat}{X:Heap}{n:Nat}{x v:Opd}{e:Env}{h:Heap}{clk:Nat}:sX T true tl h0 c0 X ⟨none,none,.store n x v⟩ r e h clk=tX T tl h0 c0 X r (Zfw X (.store n x v) e) e (Zbf n h (ev e.get x) (ev e.get v)) clk:=by
 unfold sX tX;simp only[stepW];cases Zbf n h (ev e.get x) (ev e.get v)<;>rfl
noncomputable def Zlu(r:Option (AV×Heap))(d clk:Nat):Option (AV×Heap×Nat):=
 r.bind fun r=>
  let hb':=r.2.map fun p=>(Zax [] d p.1,Zaa true (Zax [] d) (Za7 [] clk) p.2)
  let r':=rlA (Zax [] d) (Za7 [] clk) r.1
  if (hb'.map (·.1)).Nodup/\geB clk (gnA r')=true/\geH clk hb'=true then some (r',hb',clk+(r.2.length+2)) else none
noncomputable def mX(T:Tbl)(b:Bool)(tl:List AO)(h0:Heap)(c0:Nat)(X:Heap)(o:AO)(r:List AO)(e:Env)(h:Heap)(clk:Nat):Option St:=
 match b with
 | true=>
  match o.guard,o.dst with
  | none,some d=>uX T (Zg7 c0 h0 X h o.op e) tl h0 c0 X o.op d r e h clk
  | _,_=>none
 | false=>sX T o.op.isStore tl h0 c0 X o r e h clk
@[simp] def zaab{tl r:List AO}{h0:Heap}{c0:Nat}{X:Heap}{o:AO}{e:Env}{h:Heap}{clk:Nat}:sX T false tl h0 c0 X o r e h clk=lX T o.op.lentN tl h0 c0 X o r e h clk:=rfl
@[simp] def z04{r:AV×Heap}{dd clk:Nat}:Zlu (some r) dd clk=if ((r.2.map fun p=>(Zax [] dd p.1,Zaa true (Zax [] dd) (Za7 [] clk) p.2)).map (·.1)).Nodup/\geB clk (gnA (rlA (Zax [] dd) (Za7 [] clk) r.1))=true/\geH clk (r.2.map fun p=>(Zax [] dd p.1,Zaa true (Zax [] dd) (Za7 [] clk) p.2))=true then some (rlA (Zax [] dd) (Za7 [] clk) r.1,r.2.map fun p=>(Zax [] dd p.1,Zaa true (Zax [] dd) (Za7 [] clk) p.2),clk+(r.2.length+2)) else none:=rfl
@[simp] def z3r{tl r:List AO}{h0:Heap}{c0:Nat}{X:Heap}{o:AO}{e:Env}{h:Heap}{clk:Nat}:Zau (orc T) T tl h0 c0 X (o::r) e h clk=mX T (AOp.maker o.op) tl h0 c0 X o r e h clk:=by
 unfold mX;simp only[Zau];cases AOp.maker o.op with
 | false=>
  unfold sX;simp only;cases AOp.isStore o.op with
  | true=>
   obtain⟨dd,g,op⟩:=o;cases g<;>cases dd<;>rfl
  | false=>
   unfold lX;simp only;cases AOp.lentN o.op with
   | none=>rfl
   | some ua=>
    obtain⟨dd,g,op⟩:=o;cases g<;>cases dd<;>rfl
 | true=>
  obtain⟨dd,g,op⟩:=o;cases g<;>cases dd<;>rfl
noncomputable def pX(T:Tbl)(w:Bool)(K:Env->Zae->Option St)(h:Heap)(o:DO)(r:List DO)(e:Env)(pend:Zae):Option St:=
 match w with
 | true=>none
 | false=>bD (qX (orc T) T o.ao e h []) fun x=>Zc6 (orc T) T K h r (Ze e o.ao.dst x.1) (Zbh o 0 e x pend)
@[simp] def zae2{tl r:List AO}{h0:Heap}{c0:Nat}{X:Heap}{op:AOp}{dd:Nat}{e:Env}{h:Heap}{clk:Nat}:mX T true tl h0 c0 X ⟨some dd,none,op⟩ r e h clk=uX T (Zg7 c0 h0 X h op e) tl h0 c0 X op dd r e h clk:=rfl
@[simp] def zaac{tl r:List AO}{h0:Heap}{c0:Nat}{X:Heap}{o:AO}{e:Env}{h:Heap}{clk:Nat}:mX T false tl h0 c0 X o r e h clk=sX T o.op.isStore tl h0 c0 X o r e h clk:=rfl
@[simp] def zae3{hd tl:List AO}:evX (orc T) T k (.drawM hd tl) st=stX (Zau (orc T) T tl (Zeu (Zep hd st.env) st.heap) st.clk st.heap hd st.env st.heap st.clk):=rfl
@[simp] def zaad{K:Env->Zae->Option St}{h:Heap}{o:DO}{r:List DO}{e:Env}{pend:Zae}:pX T false K h o r e pend=bD (qX (orc T) T o.ao e h []) fun x=>Zc6 (orc T) T K h r (Ze e o.ao.dst x.1) (Zbh o 0 e x pend):=rfl
@[simp] def zaae{K:Env->Zae->Option St}{h:Heap}{e:Env}{pend:Zae}:Zc6 (orc T) T K h [] e pend=K e pend:=rfl
@[simp] def z6e{K:Env->Zae->Option St}{h:Heap}{o:DO}{r:List DO}{e:Env}{pend:Zae}:Zc6 (orc T) T K h (o::r) e pend=pX T o.ao.op.writes K h o r e pend:=by
 unfold pX;rw[Zc6];cases o.ao.op.writes<;>rfl
noncomputable def qpX(T:Tbl)(w:Bool)(K:Env->Option St)(h0 h1:Heap)(o:AO)(r:List AO)(e:Env):Option St:=
 match w with
 | true=>none
 | false=>bD (qX (orc T) T o e h1 [h0]) fun x=>Zc7 (orc T) T K h0 h1 r (Ze e o.dst x.1)
@[simp] def z6f{K:Env->Option St}{h0 h1:Heap}{o:AO}{r:List AO}{e:Env}:qpX T false K h0 h1 o r e=bD (qX (orc T) T o e h1 [h0]) fun x=>Zc7 (orc T) T K h0 h1 r (Ze e o.dst x.1):=rfl
@[simp] def z6g{K:Env->Option St}{h0 h1:Heap}{e:Env}:Zc7 (orc T) T K h0 h1 [] e=K e:=rfl
@[simp] def z3s{K:Env->Option St}{h0 h1:Heap}{o:AO}{r:List AO}{e:Env}:Zc7 (orc T) T K h0 h1 (o::r) e=qpX T o.op.writes K h0 h1 o r e:=by
 unfold qpX;rw[Zc7];cases o.op.writes<;>rfl
@[simp] def zae4{l1 l2 tl:List AO}{dd u:Nat}{args:List Opd}:evX (orc T) T k (.drawC l1 ⟨some dd,none,.call u args⟩ l2 tl) st =
  stX (Zc6 (orc T) T (fun e pend=>bS (Zah (orc T) T u (args.map (ev e.get)) (some dd) ⟨e,st.heap,st.clk⟩) fun s=>iP (Z9 pend s.heap) (Zc7 (orc T) T (fun e2=>Zdf (orc T) T tl ⟨e2,s.heap,s.clk⟩) st.heap s.heap l2 s.env)) st.heap (l1.map fun o=>⟨o,0,1⟩) st.env []):=rfl
@[simp] def zae5{l1 l2:List DO}{dd u:Nat}{args:List Opd}:evX (orc T) T k (.drawN l1 ⟨some dd,none,.call u args⟩ l2) st =
  stX (Zc6 (orc T) T (fun e pend=>bS (Zah (orc T) T u (args.map (ev e.get)) (some dd) ⟨e,st.heap,st.clk⟩) fun s=>iP (Z9 pend s.heap) (Zbl (orc T) T (l2.map (Zeh 0)) s.env s.heap s.clk [st.heap] (pend.map fun p=>(p.1-1,p.2)))) st.heap (l1.map (Zeh 0)) st.env []):=rfl
attribute [simp] Zeh
noncomputable def qlX(T:Tbl)(w:Bool)(K:Env->Option St)(hs:List Heap)(h1:Heap)(o:AO)(r:List AO)(e:Env):Option St:=
 match w with
 | true=>none
 | false=>bD (qX (orc T) T o e h1 hs) fun x=>Zc8 (orc T) T K hs h1 r (Ze e o.dst x.1)
@[simp] def z6h{K:Env->Option St}{hs:List Heap}{h1:Heap}{o:AO}{r:List AO}{e:Env}:qlX T false K hs h1 o r e=bD (qX (orc T) T o e h1 hs) fun x=>Zc8 (orc T) T K hs h1 r (Ze e o.dst x.1):=rfl
@[simp] def z6i{K:Env->Option St}{hs:List Heap}{h1:Heap}{e:Env}:Zc8 (orc T) T K hs h1 [] e=K e:=rfl
@[simp] def z3t{K:Env->Option St}{hs:List Heap}{h1:Heap}{o:AO}{r:List AO}{e:Env}:Zc8 (orc T) T K hs h1 (o::r) e=qlX T o.op.writes K hs h1 o r e:=by
 unfold qlX;rw[Zc8];cases o.op.writes<;>rfl
attribute [simp] Zh5
@[simp] def zae6{l1 l2:List DO}{dd u da n:Nat}{args:List Opd}{cs:List AV}{xs vs:Opd}:evX (orc T) T k (.drawP l1 ⟨some dd,none,.call u args⟩ l2 da cs n xs vs) st =
  stX (iP (Zh5 l1&&Zh5 l2) (Zc6 (orc T) T (fun e pend=>bS (Zah (orc T) T u (args.map (ev e.get)) (some dd) ⟨e,st.heap,st.clk⟩) fun s1=>
   bS (Zah (orc T) T u (args.map (ev e.get)) (some dd) ⟨e,(.loc da,⟨s1.clk,.str,cs.length,[cs]⟩)::st.heap,s1.clk+1⟩) fun s2=>
    iP (Z9 pend s1.heap&&Z9 pend ((.loc da,⟨s1.clk,.str,cs.length,[cs]⟩)::st.heap)&&Z9 pend s2.heap&&(Zj3 st.clk s1 s2&&Zk5 ((.loc da,⟨s1.clk,.str,cs.length,[cs]⟩)::s1.heap) s2.heap))
     (Zc8 (orc T) T (fun e2=>(Zbf n s2.heap (ev (Ze e2 (some da) (.ptr (.loc da) s1.clk cs.length 0 0)).get xs) (ev (Ze e2 (some da) (.ptr (.loc da) s1.clk cs.length 0 0)).get vs)).map fun h2=>⟨Ze e2 (some da) (.ptr (.loc da) s1.clk cs.length 0 0),h2,s2.clk⟩)
      [st.heap,s1.heap,(.loc da,⟨s1.clk,.str,cs.length,[cs]⟩)::st.heap] s2.heap (l2.map (·.ao)) s1.env)) st.heap (l1.map fun o=>⟨o.ao,0,1⟩) st.env [])):=by
 show (Ze2 _ _ _ _ _ _ _ _ _ _ _).map _=_;unfold Ze2;simp only[AOp.writes,Bool.not_false,Ydj];cases Zh5 l1&&Zh5 l2<;>rfl
@[simp] def zaj6{n x}:opX (orc T) T (.ifc n x) d st=some ⟨Ze st.env d (.ifc (Zd T n) (ev st.env.get x)),st.heap,st.clk⟩:=rfl
noncomputable def iS(T:Tbl)(x:AV)(nm:String)(n u:Nat)(args:List AV)(d:Option Nat)(st:St):Option St:=
 match x with
 | .ifc t y=>if t=Zd T n/\(nm,u)∈Zb5 T n then Zah (orc T) T u (y::args) d st else none
 | .fnv f x=>if nm="()"/\f=Zd T n/\Zgh T n=some u then Zah (orc T) T u (x::args) d st else none
 | .fnp f id g z i o=>if nm="()"/\f=Zd T n/\Zgh T n=some u then Zah (orc T) T u (args++[.ptr id g z i o]) d st else none
 | _=>none
@[simp] def zaj7{nm n u r args}:opX (orc T) T (.inv nm n u r args) d st=iS T (ev st.env.get r) nm n u (args.map (ev st.env.get)) d st:=by
 simp only[opX];cases ev st.env.get r<;>rfl
@[simp] def zaj8{n x}{e:Env}{h:Heap}{older:List Heap}:opD (orc T) T (.ifc n x) e h older=some (.ifc (Zd T n) (ev e.get x)):=rfl
noncomputable def dI(T:Tbl)(u:Nat)(xs:List AV):Option AV:=
 match T u with
 | none=>none
 | some af=>if (af.lent.isNone&&xs.all noRef)=true then ((orc T).call u (xs.map (wkIf af.exact)) []).map (·.1) else none
noncomputable def iD(T:Tbl)(x:AV)(nm:String)(n u:Nat)(args:List AV):Option AV:=
 match x with
 | .ifc t y=>if t=Zd T n/\(nm,u)∈Zb5 T n then dI T u (drp1 y::args) else none
 | _=>none
@[simp] def zaj9{nm n u r args}{e:Env}{h:Heap}{older:List Heap}:opD (orc T) T (.inv nm n u r args) e h older=iD T (ev e.get r) nm n u (args.map (ev e.get)):=by
 simp only[opD];cases ev e.get r<;>rfl
@[simp] def zae7{hd tl:List AO}:evX (orc T) T k (.drawT hd tl) st=stX (Zdz (orc T) T tl hd st.env st.heap st.clk):=rfl
attribute [simp] Zbh Zao Zi1 Zi2 Zim Zhs Zht ghS Zcu Zfk Zk4 Zdx Zci Zcb kids Zaa
attribute [simp] gnA gnR Zhg Zhv Zft Zd4 AOp.maker drp1 drpC AOp.lentN AOp.isStore Zfw geB geH
attribute [simp] AOp.writes AOp.free Zf7 Zew Zez Zbf Zet Zf9
attribute [simp] AOp.callN Zgb Zb0 Zhq shR
end
end
section
open Go.RowKit
def Zge(a b:Nat):Nat:=(((a:Int)-b)%4294967296).toNat
def Zi4(a b:Nat):Nat:=(((a:Int)-b)%18446744073709551616).toNat
def Zj7(a b:Nat):Nat:=(((a:Int)-b)%256).toNat
def z05{a b:Nat}(h:b<=a)(h2:a<256):Zj7 a b=a-b:=by unfold Zj7;omega
def zuu(n:Int):IntKind.wrap .u32 n=(((n%4294967296).toNat:Nat):Int):=by
 grind[IntKind.wrap,IntKind.signed,IntKind.bits]
def zma(n:Int):IntKind.wrap .u64 n=(((n%18446744073709551616).toNat:Nat):Int):=by
 grind[IntKind.wrap,IntKind.signed,IntKind.bits]
def zxh(n:Int):IntKind.wrap .u8 n=(((n%256).toNat:Nat):Int):=by
 grind[IntKind.wrap,IntKind.signed,IntKind.bits]
@[simp] def z6j(n:Int)(h1:-9223372036854775808<=n)(h2:n<9223372036854775808):IntKind.wrap .i64 n=n:=zab n ⟨h1,h2⟩
@[simp] def z3u(a b:Nat):((a:Int)+(b:Int)).toNat=a+b:=by omega
@[simp] def z06(a b:Nat):(0:Int)<=(a:Int)+(b:Int):=by omega
@[simp] def z07(a:Nat):(0:Int)<=(a:Int)+1:=by omega
@[simp] def z08(a b:Nat):((a:Int)+(b:Int)+1).toNat=a+b+1:=by omega
@[simp] def zy9(a b:Nat):(0:Int)<=(a:Int)+(b:Int)+1:=by omega
section
variable(a b:Nat)(k:IntKind)(n:Int)
@[simp] def zaka:Z5 .add (u32 a) (u32 b)=some (u32 ((a+b)%4294967296)):=by
 simp only[u32,zo4,<-Yeb,zek]
@[simp] def zakb:Z5 .add (u64 a) (u64 b)=some (u64 ((a+b)%18446744073709551616)):=by
 simp only[u64,zo4,<-Yeb,zel]
@[simp] def zakc:Z5 .mul (u32 a) (u32 b)=some (u32 ((a*b)%4294967296)):=by
 simp only[u32,zo6,<-Yd6,zek]
@[simp] def zakd:Z5 .mul (u64 a) (u64 b)=some (u64 ((a*b)%18446744073709551616)):=by
 simp only[u64,zo6,<-Yd6,zel]
@[simp] def zah4:Z5 .sub (u32 a) (u32 b)=some (u32 (Zge a b)):=by
 simp only[u32,zo5,zuu,Zge]
@[simp] def zake:Z5 .sub (u8 a) (u8 b)=some (u8 (Zj7 a b)):=by
 simp only[u8,zo5,zxh,Zj7]
def zpq:((a:Int).tdiv (b:Int))=((a/b:Nat):Int):=by rw[Int.ofNat_tdiv]
def zpr:((a:Int).tmod (b:Int))=((a%b:Nat):Int):=by rw[Int.ofNat_tmod]
@[simp] def zakf:Z5 .quo (u32 a) (u32 b)=if b=0 then none else some (u32 (a/b%4294967296)):=by
 simp only[u32,zo7,zpq,zek,Ycx]
@[simp] def zakg:Z5 .quo (u64 a) (u64 b)=if b=0 then none else some (u64 (a/b%18446744073709551616)):=by
 simp only[u64,zo7,zpq,zel,Ycx]
@[simp] def zakh:Z5 .rem (u32 a) (u32 b)=if b=0 then none else some (u32 (a%b)):=by
 simp only[u32,zo8,zpr,Ycx]
@[simp] def zaki:Z5 .rem (u64 a) (u64 b)=if b=0 then none else some (u64 (a%b)):=by
 simp only[u64,zo8,zpr,Ycx]
def bvn(w:Nat):(BitVec.ofInt w (a:Int)).toNat=a%2^w:=by simp
@[simp] def or32:Z5 .or (u32 a) (u32 b)=some (u32 ((a ||| b)%4294967296)):=by
 have h:=Nat.or_mod_two_pow (a:=a) (b:=b) (n:=32);have e:((BitVec.ofInt 32 (a:Int) ||| BitVec.ofInt 32 (b:Int)).toNat)=(a ||| b)%2^32:=by rw[BitVec.toNat_or,bvn,bvn,<-h]
 show some (AV.i .u32 (IntKind.wrap .u32 (((BitVec.ofInt 32 (a:Int) ||| BitVec.ofInt 32 (b:Int)).toNat:Nat):Int)))=_;rw[e,zek];simp[u32]
@[simp] def or64:Z5 .or (u64 a) (u64 b)=some (u64 ((a ||| b)%18446744073709551616)):=by
 have h:=Nat.or_mod_two_pow (a:=a) (b:=b) (n:=64);have e:((BitVec.ofInt 64 (a:Int) ||| BitVec.ofInt 64 (b:Int)).toNat)=(a ||| b)%2^64:=by rw[BitVec.toNat_or,bvn,bvn,<-h]
 show some (AV.i .u64 (IntKind.wrap .u64 (((BitVec.ofInt 64 (a:Int) ||| BitVec.ofInt 64 (b:Int)).toNat:Nat):Int)))=_;rw[e,zel];simp[u64]
def zuv(m:Nat):((a:Int)*2^m)=((a*2^m:Nat):Int):=by simp
def zje(m:Nat):((a:Int).fdiv (2^m))=((a/2^m:Nat):Int):=by
 grind
@[simp] def zae8:Z5 .shl (u64 a) (.i k n)=if n<0 then none else some (u64 (a*2^(min n.toNat 64)%18446744073709551616)):=by
 simp only[u64,Z5,IntKind.bits,zuv,zel]
@[simp] def zakj:Z5 .shr (u32 a) (.i k n)=if n<0 then none else some (u32 (a/2^(min n.toNat 32))):=by
 simp only[u32,Z5,IntKind.bits,zje]
@[simp] def zae9:Z5 .shr (u64 a) (.i k n)=if n<0 then none else some (u64 (a/2^(min n.toNat 64))):=by
 simp only[u64,Z5,IntKind.bits,zje]
@[simp] def zza:¬ ((b:Int)<0):=by omega
@[simp] def zah5:Z5 .shl (u64 a) (u64 b)=some (u64 (a*2^(min b 64)%18446744073709551616)):=by
 rw[show u64 b=.i .u64 (b:Int) from rfl,zae8,if_neg (zza b),Yc6]
@[simp] def zah6:Z5 .shr (u64 a) (u64 b)=some (u64 (a/2^(min b 64))):=by
 rw[show u64 b=.i .u64 (b:Int) from rfl,zae9,if_neg (zza b),Yc6]
@[simp] def zakk:Z5 .eql (u32 a) (u32 b)=some (.b (decide (a=b))):=by
 simp only[u32,zo9,Option.some.injEq,AV.b.injEq];rw[Yb0];simp[Ycl]
@[simp] def zakl:Z5 .neq (u32 a) (u32 b)=some (.b (!decide (a=b))):=by
 simp only[u32,zpa,Option.some.injEq,AV.b.injEq];rw[Yb0];simp[Ycl]
@[simp] def zakm:Z5 .lss (u32 a) (u32 b)=some (.b (decide (a<b))):=by simp[u32,zpb]
@[simp] def zakn:Z5 .leq (u32 a) (u32 b)=some (.b (decide (a<=b))):=by simp[u32,zw5]
@[simp] def zako:Z5 .gtr (u32 a) (u32 b)=some (.b (decide (b<a))):=by simp[u32,zpc]
@[simp] def zakp:Z5 .geq (u32 a) (u32 b)=some (.b (decide (b<=a))):=by simp[u32,zw6]
@[simp] def zakq:Z5 .neq (u64 a) (u64 b)=some (.b (!decide (a=b))):=by
 simp only[u64,zpa,Option.some.injEq,AV.b.injEq];rw[Yb0];simp[Ycl]
@[simp] def eql8:Z5 .eql (u8 a) (u8 b)=some (.b (decide (a=b))):=by
 simp only[u8,zo9,Option.some.injEq,AV.b.injEq];rw[Yb0];simp[Ycl]
@[simp] def lss8:Z5 .lss (u8 a) (u8 b)=some (.b (decide (a<b))):=by simp[u8,zpb]
@[simp] def gtr8:Z5 .gtr (u8 a) (u8 b)=some (.b (decide (b<a))):=by simp[u8,zpc]
@[simp] def z3v:Zbd .u64 (u32 a)=some (u64 (a%18446744073709551616)):=by simp only[u32,u64,Zbd,zel]
@[simp] def z3w:Zbd .u32 (u64 a)=some (u32 (a%4294967296)):=by simp only[u32,u64,Zbd,zek]
@[simp] def z6k:Zbd .u32 (u8 a)=some (u32 (a%4294967296)):=by simp only[u32,u8,Zbd,zek]
@[simp] def z6l:Zbd .u8 (u32 a)=some (u8 (a%256)):=by simp only[u32,u8,Zbd,z0t]
@[simp] def z6m:Zbd .u64 (.i .i64 n)=some (u64 (n%18446744073709551616).toNat):=by simp only[u64,Zbd,zma]
@[simp] def z6n:Zbd .i64 (u32 a)=some (.i .i64 (IntKind.wrap .i64 a))/\Zbd .i64 (u64 a)=some (.i .i64 (IntKind.wrap .i64 a))/\Zbd .i64 (u8 a)=some (.i .i64 (IntKind.wrap .i64 a)):=by and_intros<;>rfl
@[simp] def zaag:Zbd .i64 (.i .i64 n)=some (.i .i64 (IntKind.wrap .i64 n)):=rfl
@[simp] def zakr:Zgm .neg (u64 a)=some (u64 (Zi4 0 a)):=by simp[u64,Zgm,zma,Zi4]
@[simp] def zaks:Zgm .neg (.i .i64 n)=some (.i .i64 (IntKind.wrap .i64 (0-n))):=rfl
@[simp] def zakt(t:Bool):Zgm .not (.b t)=some (.b (!t)):=rfl
@[simp] def zah7(m:Nat)(y:Int):(bnd (u8 m) y=if 0<=(m:Int)/\(m:Int)<=y then some m else none)/\(bnd (u32 m) y=if 0<=(m:Int)/\(m:Int)<=y then some m else none)/\(bnd (u64 m) y=if 0<=(m:Int)/\(m:Int)<=y then some m else none):=by and_intros<;>rfl
attribute [simp] Zes Zgp Zhd
@[simp] def zah8(l:List UInt8):Zhc (.s l) (.i k n)=if 0<=n/\n<l.length then (l[n.toNat]?).map fun b=>u8 b.toNat else none:=rfl
@[simp] def zaah(k':IntKind)(x y:Int):Zdk .int (.i k x) (.i k' y)=if k=k' then some (x == y) else none:=rfl
end
@[simp] def zafc(a b:Nat):u32 a=u32 b↔a=b:=by simp[u32,Ycl]
@[simp] def zafd(a b:Nat):u64 a=u64 b↔a=b:=by simp[u64,Ycl]
def zal(x:UInt32):x.toNat<4294967296:=x.toNat_lt
@[simp] def zafe(x:UInt32):x.toNat<4294967296:=x.toNat_lt
def w32(n:Nat):UInt32:=UInt32.ofNat n
def za9(n:Nat):(w32 n).toNat=n%4294967296:=UInt32.toNat_ofNat' ..
theorem zaf{n:Nat}(h:n<4294967296):(w32 n).toNat=n:=by rw[za9,Yu h]
@[simp] def z3x(x:UInt32):w32 x.toNat=x:=UInt32.ofNat_toNat
def Za(l:List UInt32):List (List AV):=l.map fun x=>[u32 x.toNat]
def ints(l:List Int):List (List AV):=l.map fun x=>[.i .i64 x]
def u8s(l:List UInt8):List (List AV):=l.map fun x=>[u8 x.toNat]
section
variable(l m:List UInt32)(x:UInt32)
@[simp] def zaai:Za []=[]:=rfl
@[simp] def zhv:(Za l).length=l.length:=by simp[Za]
@[simp] def zaff:wkL (Za l)=Za l:=by
 rw[zbw];simp[Za,wkR]
@[simp] def z6p(n:Nat):(Za l).take n=Za (l.take n):=by simp[Za]
@[simp] def z6q(n:Nat):(Za l).drop n=Za (l.drop n):=by simp[Za]
@[simp] def z09:Za l++Za m=Za (l++m):=by simp[Za]
@[simp] def z6r(n:Nat)(h:n<4294967296):Za l++[[u32 n]]=Za (l++[w32 n]):=by simp[Za,zaf h]
@[simp] def u32s_getElem?(i:Nat):(Za l)[i]? = (l[i]?).map fun x=>[u32 x.toNat]:=by simp[Za]
@[simp] def zzb(i:Nat)(h:i<(Za l).length):(Za l)[i]=[u32 (l[i]'(by simpa using h)).toNat]:=by simp[Za]
def zbm(i:Nat)(n:Nat)(h:n<4294967296):(Za l).set i [u32 n]=Za (l.set i (w32 n)):=by simp[Za,Yec,zaf h]
@[simp] def z6s(i n:Nat):(Za l).set i [u32 (n%4294967296)]=Za (l.set i (w32 n)):=by simp[Za,Yec,za9]
@[simp] def zaaj(n:Nat):List.replicate n [u32 0]=Za (List.replicate n 0):=by simp[Za]
@[simp] def z6t(z:Nat):((Za l).head?.all fun r=>decide (r.length=z))=(l.isEmpty || decide (z=1)):=by
 cases l<;>simp[Za,eq_comm]
end
end
section
open Go.RowKit
abbrev mv(d s:Nat):AO:=⟨some d,none,.mov (.t s)⟩
abbrev rg(d:Nat)(op:AOp):AO:=⟨some d,none,op⟩
abbrev gd(d t:Nat)(b:Bool)(op:AOp):AO:=⟨some d,some (t,b),op⟩
abbrev so(op:AOp):AO:=⟨none,none,op⟩
section
variable(T:Tbl)(u:Nat)(ex:Bool)(ms:List Bool)(xs:List AV)(d:Option Nat)(st:St)(ps:List Opd)(e:Env)
@[simp] noncomputable def cP:Option St:=bL (Zjj st.heap xs) fun ys=>cR (Zb T u (ys.map (wkIf ex))) xs d st
@[simp] noncomputable def cL:Option St:=bL (Zhn st.heap ms xs) fun ys=>Zi3 ys (Zx (Zc4 ms xs) st.heap) (Zfk (Zx (Zc4 ms xs) st.heap) 40 (Zfv ms xs) []) T u ex d st
@[simp] noncomputable def dP:Option AV:=dR (Zb T u ((ps.map (ev e.get)).map (wkIf ex))) (ps.map (ev e.get))
end
section
variable{T:Tbl}{k:Nat}
def za3{id:Nat}{g2:Gh}{c:AX}(S:Nat->St)(n:Nat)(G:Option (Ex×St))(step:∀i,i<n->evX (orc T) T k c (S i)=some (.n,S (i+1)))
  (fin:Zgj (evX (orc T) T k c (S n))=true/\Zgi k id g2 (evX (orc T) T k c (S n))=G):Zu T k id g2 c (S 0)=G:=
 za0 S (fun i=>i<=n) (fun i=>n-i) (fun _=>G) (by
  intro i hi;by_cases h:i<n
  ·exact .inl ⟨i+1,h,by show n-(i+1)<n-i;omega,step i h,rfl⟩
  ·have:i=n:=by omega
   subst this;exact .inr fin) 0 (Y4 _)
def zat{id:Nat}{g2:Gh}{c:AX}(S:Nat->St)(n:Nat)(G:Nat->Option (Ex×St))
  (step:∀i,i<n->(evX (orc T) T k c (S i)=some (.n,S (i+1))/\G (i+1)=G i)\/(Zgj (evX (orc T) T k c (S i))=true/\Zgi k id g2 (evX (orc T) T k c (S i))=G i))
  (fin:Zgj (evX (orc T) T k c (S n))=true/\Zgi k id g2 (evX (orc T) T k c (S n))=G n):Zu T k id g2 c (S 0)=G 0:=
 za0 S (fun i=>i<=n) (fun i=>n-i) G (by
  intro i hi;by_cases h:i<n
  ·rcases step i h with ⟨h1,h2⟩ | h1
   ·exact .inl ⟨i+1,h,by show n-(i+1)<n-i;omega,h1,h2⟩
   ·exact .inr h1
  ·have:i=n:=by omega
   subst this;exact .inr fin) 0 (Y4 _)
end
def zc2{i n:Nat}(h:i<n)(hn:n<=4294967296):IntKind.wrap .i64 ((i:Int)+1)=((i+1:Nat):Int):=zab _ (by omega)
noncomputable def cX(r:Option AFx)(T:Tbl)(u:Nat)(xs:List AV)(d:Option Nat)(st:St):Option St:=
 match r with
 | some ⟨_,_,_,_,none,ex⟩=>cP T u ex xs d st
 | some ⟨_,_,_,_,some ms,ex⟩=>cL T u ex ms xs d st
 | none=>none
noncomputable def cD(r:Option AFx)(T:Tbl)(u:Nat)(ps:List Opd)(e:Env):Option AV:=
 match r with
 | some ⟨_,_,_,_,none,ex⟩=>dP T u ex ps e
 | _=>none
section
variable{T:Tbl}{u:Nat}{xs:List AV}{d:Option Nat}{st:St}{ps:List Opd}{e:Env}{np nt:Nat}{res:List RV}{b:AX}{ms:List Bool}{ex:Bool}
@[simp] def xG:Zah (orc T) T u xs d st=cX (Tr T u) T u xs d st:=by
 cases h:Tr T u with
 | none=>unfold Tr at h;simp only[Zah,h,cX]
 | some r=>
  obtain⟨np,nt,res,b,l,ex⟩:=r;cases l with
  | none=>exact zbl h
  | some ms=>exact zq9 h
@[simp] def yG{h:Heap}{ol:List Heap}:opD (orc T) T (.call u ps) e h ol=cD (Tr T u) T u ps e:=by
 cases h:Tr T u with
 | none=>unfold Tr at h;simp only[opD,h,cD]
 | some r=>
  obtain⟨np,nt,res,b,l,ex⟩:=r;cases l with
  | none=>exact zxg h
  | some ms=>unfold Tr at h;simp only[opD,h,cD,Option.isNone_some,Bool.false_and,Yad,if_false]
@[simp] def cX_p:cX (some ⟨np,nt,res,b,none,ex⟩) T u xs d st=cP T u ex xs d st:=rfl
@[simp] def cX_l:cX (some ⟨np,nt,res,b,some ms,ex⟩) T u xs d st=cL T u ex ms xs d st:=rfl
@[simp] def cD_p:cD (some ⟨np,nt,res,b,none,ex⟩) T u ps e=dP T u ex ps e:=rfl
end
end
section
def b115:AX:=
 (.seq
 (.reg [rg 6 (.mov (.c (u32 0))),rg 7 (.mov (.c (u32 0)))])
 (.seq
 (.reg [mv 8 0,mv 9 1,rg 10 (.bin .add (.t 8) (.t 9)),mv 6 10])
 (.seq
 (.seq
 (.reg [mv 11 6,mv 12 0,rg 13 (.bin .lss (.t 11) (.t 12))])
 (.cond (.t 13)
 (.reg [mv 14 7,rg 15 (.bin .add (.t 14) (.c (u32 1))),mv 7 15])
 .skip))
 (.seq
 (.reg [mv 16 6,mv 17 2,rg 18 (.bin .add (.t 16) (.t 17)),mv 6 18])
 (.seq
 (.seq
 (.reg [mv 19 6,mv 20 2,rg 21 (.bin .lss (.t 19) (.t 20))])
 (.cond (.t 21)
 (.reg [mv 22 7,rg 23 (.bin .add (.t 22) (.c (u32 1))),mv 7 23])
 .skip))
 (.seq
 (.reg [mv 24 6,mv 25 7,mv 6 24,mv 7 25])
 (.pre (.norm false [6,7]) .ret)))))))
def b116:AX:=
 (.seq
 (.reg [rg 6 (.mov (.c (u32 0))),rg 7 (.mov (.c (u32 0)))])
 (.seq
 (.reg [mv 8 0,mv 9 1,rg 10 (.bin .sub (.t 8) (.t 9)),mv 6 10])
 (.seq
 (.seq
 (.reg [mv 11 0,mv 12 1,rg 13 (.bin .lss (.t 11) (.t 12))])
 (.cond (.t 13)
 (.reg [mv 14 7,rg 15 (.bin .add (.t 14) (.c (u32 1))),mv 7 15])
 .skip))
 (.seq
 (.seq
 (.reg [mv 16 6,mv 17 2,rg 18 (.bin .lss (.t 16) (.t 17))])
 (.cond (.t 18)
 (.reg [mv 19 7,rg 20 (.bin .add (.t 19) (.c (u32 1))),mv 7 20])
 .skip))
 (.seq
 (.reg [mv 21 6,mv 22 2,rg 23 (.bin .sub (.t 21) (.t 22)),mv 24 7,mv 6 23,mv 7 24])
 (.pre (.norm false [6,7]) .ret))))))
def b117:AX:=
 (.seq
 (.reg [rg 8 (.mov (.c (u32 0))),rg 9 (.mov (.c (u32 0)))])
 (.seq
 (.reg [mv 11 0,rg 12 (.conv .u64 (.t 11)),mv 13 1,rg 14 (.conv .u64 (.t 13)),rg 15 (.bin .mul (.t 12) (.t 14)),mv 16 2,rg 17 (.conv .u64 (.t 16)),rg 18 (.bin .add (.t 15) (.t 17)),mv 19 3,rg 20 (.conv .u64 (.t 19)),rg 21 (.bin .add (.t 18) (.t 20)),mv 10 21])
 (.seq
 (.reg [mv 22 10,rg 23 (.bin .shr (.t 22) (.c (u64 32))),rg 24 (.conv .u32 (.t 23)),mv 25 10,rg 26 (.conv .u32 (.t 25)),mv 8 24,mv 9 26])
 (.pre (.norm false [8,9]) .ret))))
def b118:AX:=
 (.seq
 (.reg [rg 6 (.mov (.c (u32 0))),rg 7 (.mov (.c (u32 0))),rg 8 (.mov (.c (.b false)))])
 (.seq
 (.seq
 (.reg [mv 10 0,mv 11 2,rg 12 (.bin .geq (.t 10) (.t 11))])
 (.cond (.t 12)
 (.seq
 (.reg [rg 6 (.mov (.c (u32 0))),rg 7 (.mov (.c (u32 0))),rg 8 (.mov (.c (.b false)))])
 (.pre (.norm false [6,7,8]) .ret))
 .skip))
 (.seq
 (.reg [mv 13 0,rg 14 (.conv .u64 (.t 13)),rg 15 (.bin .shl (.t 14) (.c (u64 32))),mv 16 1,rg 17 (.conv .u64 (.t 16)),rg 18 (.bin .or (.t 15) (.t 17)),mv 9 18])
 (.seq
 (.drawT [mv 19 9,mv 20 2,rg 21 (.conv .u64 (.t 20)),rg 22 (.bin .quo (.t 19) (.t 21)),rg 23 (.conv .u32 (.t 22)),mv 24 9,mv 25 2,rg 26 (.conv .u64 (.t 25)),rg 27 (.bin .rem (.t 24) (.t 26)),rg 28 (.conv .u32 (.t 27)),mv 6 23]
 [mv 7 28,rg 8 (.mov (.c (.b true)))])
 (.pre (.norm false [6,7,8]) .ret)))))
def l91_0:AX:=
 (.note
 (.seq
 (.seq
 (.reg [mv 5 4,rg 6 (.bin .gtr (.t 5) (.c (.i .i64 0)))])
 (.cond (.t 6)
 .skip
 (.exit 0)))
 (.seq
 (.block 1
 (.seq
 (.reg [mv 9 0,mv 10 4,rg 11 (.bin .shr (.t 9) (.t 10)),rg 12 (.bin .neq (.t 11) (.c (u32 0)))])
 (.cond (.t 12)
 (.seq
 (.reg [mv 13 0,mv 14 4,rg 15 (.bin .shr (.t 13) (.t 14)),mv 0 15])
 (.reg [mv 16 3,mv 17 4,rg 18 (.bin .add (.t 16) (.t 17)),mv 3 18]))
 .skip)))
 (.reg [mv 7 4,rg 8 (.bin .quo (.t 7) (.c (.i .i64 2))),mv 4 8])))
 (.norm false [0,3,4]))
def b91:AX:=
 (.seq
 (.reg [rg 2 (.mov (.c (.i .i64 0)))])
 (.seq
 (.reg [rg 3 (.mov (.c (.i .i64 0)))])
 (.seq
 (.seq
 (.reg [rg 4 (.mov (.c (.i .i64 16)))])
 (.lp 0 (.norm false [0,3,4]) l91_0 (.norm false [0,3])))
 (.seq
 (.reg [mv 19 3,mv 20 0,rg 21 (.conv .i64 (.t 20)),rg 22 (.bin .add (.t 19) (.t 21)),mv 2 22])
 (.pre (.norm false [2]) .ret)))))
abbrev row115:AFx:=⟨3,26,[.t 6,.t 7],b115,none,false⟩
abbrev row116:AFx:=⟨3,25,[.t 6,.t 7],b116,none,false⟩
abbrev row117:AFx:=⟨4,27,[.t 8,.t 9],b117,none,false⟩
abbrev row118:AFx:=⟨3,29,[.t 6,.t 7,.t 8],b118,none,false⟩
abbrev row91:AFx:=⟨1,23,[.t 2],b91,none,false⟩
class Zaf (T:Tbl):Prop where
 h115:Tr T 115=some row115
 h116:Tr T 116=some row116
 h117:Tr T 117=some row117
 h118:Tr T 118=some row118
 h91:Tr T 91=some row91
attribute [simp] Zaf.h115 Zaf.h116 Zaf.h117 Zaf.h118 Zaf.h91
end
section
variable{T:Tbl}[Zaf T]
def zxv(x y c:UInt32):Zb T 115 [u32 x.toNat,u32 y.toNat,u32 c.toNat] =
  some (.tup [u32 (w32 (x.toNat+y.toNat+c.toNat)).toNat,u32 (w32 ((x.toNat+y.toNat+c.toNat)/4294967296)).toNat]):=by
 have hx:=zal x;have hy:=zal y;have hc:=zal c;rw[zaa Zaf.h115 rfl,b115];simp[za9]
 repeat' split
 all_goals simp
 all_goals omega
def zxw(x y b:UInt32):Zb T 116 [u32 x.toNat,u32 y.toNat,u32 b.toNat] =
  some (.tup [u32 (w32 (x.toNat+8589934592-(y.toNat+b.toNat))).toNat,u32 (w32 (2-(x.toNat+8589934592-(y.toNat+b.toNat))/4294967296)).toNat]):=by
 have hx:=zal x;have hy:=zal y;have hb:=zal b;rw[zaa Zaf.h116 rfl,b116];by_cases h1:x.toNat<y.toNat <;>
 by_cases h2:Zge x.toNat y.toNat<b.toNat <;>
 ·simp[h1,h2,za9];unfold Zge at *
  omega
def zh1{a b:Nat}(ha:a<4294967296)(hb:b<4294967296):a*b<=18446744065119617025:=by
 have:a*b<=4294967295*4294967295:=Yc8 (by omega) (by omega);omega
def zpx(x y c d:UInt32):Zb T 117 [u32 x.toNat,u32 y.toNat,u32 c.toNat,u32 d.toNat] =
  some (.tup [u32 (w32 ((x.toNat*y.toNat+c.toNat+d.toNat)/4294967296)).toNat,u32 (w32 (x.toNat*y.toNat+c.toNat+d.toNat)).toNat]):=by
 have hx:=zal x;have hy:=zal y;have hc:=zal c;have hd:=zal d;have hm:=zh1 hx hy;rw[zaa Zaf.h117 rfl,b117];simp[za9];generalize x.toNat*y.toNat=m at *
 omega
def zpy(hi lo y:UInt32):Zb T 118 [u32 hi.toNat,u32 lo.toNat,u32 y.toNat] =
  some (if y.toNat<=hi.toNat then .tup [u32 0,u32 0,.b false]
   else .tup [u32 (w32 ((hi.toNat*4294967296+lo.toNat)/y.toNat)).toNat,u32 (w32 ((hi.toNat*4294967296+lo.toNat)%y.toNat)).toNat,.b true]):=by
 have hx:=zal hi;have hy:=zal y;have hl:=zal lo;rw[zaa Zaf.h118 rfl,b118];by_cases h1:y.toNat<=hi.toNat
 ·simp[h1]
 ·have h2:¬ y.toNat=0:=by omega
  simp[h1,h2,za9];have e:hi.toNat*4294967296%18446744073709551616=hi.toNat*4294967296:=Yu (by omega);have e2:(hi.toNat*4294967296) ||| lo.toNat=hi.toNat*4294967296+lo.toNat:=by
   have:=Ycn (i:=32) hl hi.toNat;rw[Yaf hi.toNat,show (4294967296:Nat)=2^32 from rfl,this]
  have h3:(hi.toNat*4294967296+lo.toNat)/y.toNat<4294967296:=by
   rw[Ybb (by omega)];have:=Ya2 4294967296 (show hi.toNat+1<=y.toNat by omega);omega
  rw[e,e2,Yu (show hi.toNat*4294967296+lo.toNat<18446744073709551616 by omega)];exact⟨rfl,rfl⟩
def zd5(x y c:Nat)(hx:x<4294967296)(hy:y<4294967296)(hc:c<4294967296):Zb T 115 [u32 x,u32 y,u32 c]=some (.tup [u32 ((x+y+c)%4294967296),u32 ((x+y+c)/4294967296)]):=by
 have:=zxv (T:=T) (w32 x) (w32 y) (w32 c);rw[zaf hx,zaf hy,zaf hc,za9,zaf (by omega)]at this;exact this
def zfk(x y b:Nat)(hx:x<4294967296)(hy:y<4294967296)(hb:b<4294967296):Zb T 116 [u32 x,u32 y,u32 b] =
  some (.tup [u32 ((x+8589934592-(y+b))%4294967296),u32 (2-(x+8589934592-(y+b))/4294967296)]):=by
 have:=zxw (T:=T) (w32 x) (w32 y) (w32 b);rw[zaf hx,zaf hy,zaf hb,za9,zaf (by omega)]at this;exact this
def zh2(x y c d:Nat)(hx:x<4294967296)(hy:y<4294967296)(hc:c<4294967296)(hd:d<4294967296):Zb T 117 [u32 x,u32 y,u32 c,u32 d] =
  some (.tup [u32 ((x*y+c+d)/4294967296),u32 ((x*y+c+d)%4294967296)]):=by
 have:=zpx (T:=T) (w32 x) (w32 y) (w32 c) (w32 d);have hm:=zh1 hx hy;rw[zaf hx,zaf hy,zaf hc,zaf hd,za9 (x*y+c+d),zaf (by omega)]at this;exact this
def zzg{hi lo y:Nat}(h:hi<y)(hl:lo<4294967296):(hi*4294967296+lo)/y<4294967296:=by
 rw[Ybb (by omega)];have:=Ya2 4294967296 (show hi+1<=y by omega);omega
def zml(hi lo y:Nat)(hx:hi<y)(hl:lo<4294967296)(hy:y<4294967296):Zb T 118 [u32 hi,u32 lo,u32 y] =
  some (.tup [u32 ((hi*4294967296+lo)/y),u32 ((hi*4294967296+lo)%y),.b true]):=by
 have:=zpy (T:=T) (w32 hi) (w32 lo) (w32 y);rw[zaf (show hi<4294967296 by omega),zaf hl,zaf hy,zaf (zzg hx hl),zaf (by have:=Ybh (hi*4294967296+lo) (show 0<y by omega);omega),if_neg (by omega)]at this;exact this
def zro(hi lo y:Nat)(hx:y<=hi)(hh:hi<4294967296)(hl:lo<4294967296):Zb T 118 [u32 hi,u32 lo,u32 y]=some (.tup [u32 0,u32 0,.b false]):=by
 have:=zpy (T:=T) (w32 hi) (w32 lo) (w32 y);rw[zaf hh,zaf hl,zaf (show y<4294967296 by omega),if_pos hx]at this;exact this
def Zab(n:Nat):Nat:=if n=0 then 0 else n.log2+1
def zji{n s:Nat}(h:n/2^s≠0):Zab n=s+Zab (n/2^s):=by
 have hn:n≠0:=by rintro rfl;simp at h
 have hlog:(n/2^s).log2+s=n.log2:=by
  have h1:=Nat.log2_self_le h;have h2:=Ycw (n:=n/2^s);have h3:=Nat.log2_self_le hn;have h4:=Ycw (n:=n);have hp:0<2^s:=Ybr (by decide);have a1:2^((n/2^s).log2+s)<=n:=by
   rw[Yb2];exact(Yb8 hp).1 h1
  have a2:n<2^((n/2^s).log2+1+s):=by
   rw[Yb2];exact(Ybb hp).1 h2
  have b1:=(Nat.le_log2 hn).2 a1;have b2:=(Yek hn).2 a2;omega
 unfold Zab;rw[if_neg h,if_neg hn];omega
def zrp{x:Nat}(h:x<2):Zab x=x:=by
 rcases(show x=0\/x=1 by omega) with rfl | rfl<;>decide
def Zh9(y:Nat×Nat×Nat):St:=⟨[(0,u32 y.1),(3,.i .i64 y.2.1),(4,.i .i64 y.2.2)],[],2⟩
end
section
variable{T:Tbl}
def zkg(N:Nat):∀y:Nat×Nat×Nat,((y.2.2=16\/y.2.2=8\/y.2.2=4\/y.2.2=2\/y.2.2=1\/y.2.2=0)/\y.1<2^(2*y.2.2)*(if y.2.2=0 then 2 else 1)/\y.2.1+Zab y.1=N/\y.2.1+2*y.2.2<=32) ->
  ∃r,(∃(x n:Nat),r=(Ex.n,(⟨[(0,u32 x),(3,.i .i64 (n:Int))],[],2⟩:St))/\x<2/\n+Zab x=N/\n<=32)/\Zu T 0 0 (.norm false [0,3]) l91_0 (Zh9 y)=some r:=by
 refine za6 _ _ (fun y=>y.2.2) _ ?_
 rintro⟨x,n,s⟩ ⟨hs,hx,hN,hn⟩
 simp only at hs hx hN hn;by_cases h0:s=0
 ·right;subst h0;refine⟨_,⟨x,n,rfl,by simpa using hx,hN,by omega⟩,?_,?_⟩<;>simp[l91_0,Zh9]
 ·left;by_cases h1:x/2^s=0
  ·refine⟨(x,n,s/2),⟨?_,?_,hN,by simp only;omega⟩,by simp only;omega,?_⟩
   ·rcases hs with rfl | rfl | rfl | rfl | rfl | rfl<;>simp
   ·have h2:x<2^s:=by
     rcases Yv x (2^s) with h | h
     ·exact h
     ·have:=Nat.div_pos h (Ybr (by decide));omega
    rcases hs with rfl | rfl | rfl | rfl | rfl | rfl<;>simp at h2 ⊢<;>omega
   ·rcases hs with rfl | rfl | rfl | rfl | rfl | rfl<;>simp at h1<;>simp[l91_0,Zh9,h1]at h0 ⊢
  ·refine⟨(x/2^s,n+s,s/2),⟨?_,?_,?_,by simp only;omega⟩,by simp only;omega,?_⟩
   ·rcases hs with rfl | rfl | rfl | rfl | rfl | rfl<;>simp
   ·rcases hs with rfl | rfl | rfl | rfl | rfl | rfl<;>simp at hx h0 ⊢<;>omega
   ·have:=zji h1;simp only;omega
   ·have hw:IntKind.wrap .i64 ((n:Int)+s)=((n+s:Nat):Int):=zab _ (by omega);rcases hs with rfl | rfl | rfl | rfl | rfl | rfl<;>simp at h1 hw<;>simp[l91_0,Zh9,h1,hw]at h0 ⊢
end
section
variable{T:Tbl}[Zaf T]
def zpz(x:UInt32):Zb T 91 [u32 x.toNat]=some (.i .i64 (Zab x.toNat)):=by
 have hx:=zal x;obtain⟨_,⟨y,n,rfl,h1,h2,h3⟩,hl⟩:=zkg (T:=T) (Zab x.toNat) (x.toNat,0,16) ⟨.inl rfl,by simp,by simp,by simp⟩;have hw:IntKind.wrap .i64 (y:Int)=y:=zab _ (by omega);have hw2:IntKind.wrap .i64 ((n:Int)+y)=((n+y:Nat):Int):=zab _ (by omega);have h4:=zrp h1;rw[zaa Zaf.h91 rfl,b91];simp;unfold Zh9 at hl;simp at hl;rw[hl];simp[hw,hw2];omega
end
section
def l86_0:AX:=
 (.note
 (.seq
 (.seq
 (.reg [mv 6 3,rg 7 (.bin .gtr (.t 6) (.c (.i .i64 0))),mv 8 7,gd 9 8 true (.mov (.t 0)),gd 10 8 true (.mov (.t 3)),gd 11 8 true (.bin .sub (.t 10) (.c (.i .i64 1))),gd 12 8 true (.iad 1 (.t 9) (.t 11)),gd 13 8 true (.load none (.t 12)),gd 14 8 true (.bin .eql (.t 13) (.c (u32 0))),rg 15 (.pick (.t 8) (.t 14) (.c (.b false)))])
 (.cond (.t 15)
 .skip
 (.exit 0)))
 (.block 1
 (.reg [mv 16 3,rg 17 (.bin .sub (.t 16) (.c (.i .i64 1))),mv 3 17])))
 (.norm false [0,3]))
def b86:AX:=
 (.seq
 (.reg [rg 2 (.mov (.c (.sl [] .nl)))])
 (.seq
 (.reg [mv 4 0,rg 5 (.len (.t 4)),mv 3 5])
 (.seq
 (.lp 0 (.norm false [0,3]) l86_0 (.norm false [0,3]))
 (.seq
 (.reg [mv 18 0,mv 19 3,rg 20 (.slc 1 (.t 18) none (some (.t 19)) none),mv 2 20])
 (.pre (.norm false [2]) .ret)))))
def b106:AX:=
 (.seq
 (.reg [rg 4 (.mov (.c (.sl [] .nl)))])
 (.seq
 (.reg [mv 6 0,rg 7 (.len (.t 6)),mv 8 1,rg 9 (.bin .add (.t 7) (.t 8)),rg 10 (.mks 1 [(u32 0)] (.t 9) (.t 9)),mv 5 10])
 (.seq
 (.reg [mv 11 5,mv 12 0,rg 13 (.xop .cpy [(.t 11),(.t 12)])])
 (.seq
 (.reg [mv 14 5,mv 4 14])
 (.pre (.norm false [4]) .ret)))))
def b71:AX:=
 (.seq
 (.reg [rg 2 (.mov (.c (.sl [] .nl)))])
 (.seq
 (.reg [mv 3 0,rg 4 (.call 86 [(.t 3)]),rg 5 (.call 106 [(.t 4),(.c (.i .i64 0))]),mv 2 5])
 (.pre (.norm false [2]) .ret)))
def b72:AX:=
 (.seq
 (.reg [rg 2 (.mov (.c (.sl [] .nl)))])
 (.seq
 (.reg [mv 3 0,rg 4 (.conv .u32 (.t 3)),mv 5 0,rg 6 (.bin .shr (.t 5) (.c (u64 32))),rg 7 (.conv .u32 (.t 6)),rg 8 (.bsl 1 [(u32 0)] 2 [(0,(.t 4)),(1,(.t 7))]),rg 9 (.call 86 [(.t 8)]),mv 2 9])
 (.pre (.norm false [2]) .ret)))
def l73_0:AX:=
 (.note
 (.seq
 (.reg [rg 15 (.bin .lss (.t 14) (.t 13))])
 (.seq
 (.cond (.t 15)
 .skip
 (.exit 0))
 (.seq
 (.block 1
 (.seq
 (.reg [mv 16 14,rg 17 (.iad 1 (.t 12) (.t 14)),rg 18 (.load none (.t 17)),mv 5 16,mv 6 18])
 (.reg [mv 19 4,mv 20 6,rg 21 (.conv .u64 (.t 20)),mv 22 5,rg 23 (.bin .mul (.c (.i .i64 32)) (.t 22)),rg 24 (.bin .shl (.t 21) (.t 23)),rg 25 (.bin .or (.t 19) (.t 24)),mv 4 25])))
 (.reg [rg 26 (.bin .add (.t 14) (.c (.i .i64 1))),mv 14 26]))))
 (.norm false [4,12,13,14]))
def b73:AX:=
 (.seq
 (.reg [rg 2 (.mov (.c (u64 0))),rg 3 (.mov (.c (.b false)))])
 (.seq
 (.reg [mv 7 0,rg 8 (.call 86 [(.t 7)]),mv 0 8])
 (.seq
 (.seq
 (.reg [mv 9 0,rg 10 (.len (.t 9)),rg 11 (.bin .gtr (.t 10) (.c (.i .i64 2)))])
 (.cond (.t 11)
 (.seq
 (.reg [rg 2 (.mov (.c (u64 0))),rg 3 (.mov (.c (.b false)))])
 (.pre (.norm false [2,3]) .ret))
 .skip))
 (.seq
 (.reg [rg 4 (.mov (.c (u64 0)))])
 (.seq
 (.seq
 (.reg [mv 12 0,rg 13 (.len (.t 12)),rg 14 (.mov (.c (.i .i64 0)))])
 (.lp 0 (.norm false [4,12,13,14]) l73_0 (.norm false [4])))
 (.seq
 (.reg [mv 27 4,mv 2 27,rg 3 (.mov (.c (.b true)))])
 (.pre (.norm false [2,3]) .ret)))))))
def b70:AX:=
 (.seq
 (.reg [rg 2 (.mov (.c (.b false)))])
 (.seq
 (.reg [mv 3 0,rg 4 (.call 86 [(.t 3)]),rg 5 (.len (.t 4)),rg 6 (.bin .eql (.t 5) (.c (.i .i64 0))),mv 2 6])
 (.pre (.norm false [2]) .ret)))
def l87_0:AX:=
 (.note
 (.seq
 (.seq
 (.reg [mv 25 5,rg 26 (.bin .geq (.t 25) (.c (.i .i64 0)))])
 (.cond (.t 26)
 .skip
 (.exit 1)))
 (.seq
 (.block 2
 (.block 3
 (.seq
 (.drawT [mv 30 0,mv 31 5,rg 32 (.iad 1 (.t 30) (.t 31)),rg 33 (.load none (.t 32)),mv 34 1,mv 35 5,rg 36 (.iad 1 (.t 34) (.t 35)),rg 37 (.load none (.t 36))]
 [rg 38 (.bin .lss (.t 33) (.t 37)),mv 29 38])
 (.cond (.t 29)
 (.seq
 (.reg [rg 4 (.mov (.c (.i .i64 (-1))))])
 (.pre (.norm false [4]) .ret))
 (.seq
 (.drawT [mv 40 0,mv 41 5,rg 42 (.iad 1 (.t 40) (.t 41)),rg 43 (.load none (.t 42)),mv 44 1,mv 45 5,rg 46 (.iad 1 (.t 44) (.t 45)),rg 47 (.load none (.t 46))]
 [rg 48 (.bin .gtr (.t 43) (.t 47)),mv 39 48])
 (.cond (.t 39)
 (.seq
 (.reg [rg 4 (.mov (.c (.i .i64 1)))])
 (.pre (.norm false [4]) .ret))
 .skip))))))
 (.reg [mv 27 5,rg 28 (.bin .sub (.t 27) (.c (.i .i64 1))),mv 5 28])))
 (.norm false [0,1,5]))
def b87:AX:=
 (.seq
 (.reg [rg 4 (.mov (.c (.i .i64 0)))])
 (.seq
 (.reg [mv 6 0,rg 7 (.call 86 [(.t 6)]),mv 8 1,rg 9 (.call 86 [(.t 8)]),mv 0 7,mv 1 9])
 (.seq
 (.block 0
 (.seq
 (.reg [mv 11 0,rg 12 (.len (.t 11)),mv 13 1,rg 14 (.len (.t 13)),rg 15 (.bin .lss (.t 12) (.t 14)),mv 10 15])
 (.cond (.t 10)
 (.seq
 (.reg [rg 4 (.mov (.c (.i .i64 (-1))))])
 (.pre (.norm false [4]) .ret))
 (.seq
 (.reg [mv 17 0,rg 18 (.len (.t 17)),mv 19 1,rg 20 (.len (.t 19)),rg 21 (.bin .gtr (.t 18) (.t 20)),mv 16 21])
 (.cond (.t 16)
 (.seq
 (.reg [rg 4 (.mov (.c (.i .i64 1)))])
 (.pre (.norm false [4]) .ret))
 .skip)))))
 (.seq
 (.seq
 (.reg [mv 22 0,rg 23 (.len (.t 22)),rg 24 (.bin .sub (.t 23) (.c (.i .i64 1))),mv 5 24])
 (.lp 1 (.norm false [0,1,5]) l87_0 (.norm false [])))
 (.seq
 (.reg [rg 4 (.mov (.c (.i .i64 0)))])
 (.pre (.norm false [4]) .ret))))))
def l85_0:AX:=
 (.note
 (.seq
 (.reg [rg 21 (.bin .lss (.t 20) (.t 19))])
 (.seq
 (.cond (.t 21)
 .skip
 (.exit 0))
 (.seq
 (.block 1
 (.seq
 (.reg [mv 22 20,mv 7 22])
 (.seq
 (.reg [rg 8 (.mov (.c (u32 0)))])
 (.seq
 (.seq
 (.reg [mv 23 7,mv 24 1,rg 25 (.len (.t 24)),rg 26 (.bin .lss (.t 23) (.t 25))])
 (.cond (.t 26)
 (.reg [mv 27 1,mv 28 7,rg 29 (.iad 1 (.t 27) (.t 28)),rg 30 (.load none (.t 29)),mv 8 30])
 .skip))
 (.reg [mv 32 5,mv 33 7,mv 34 0,mv 35 7,rg 36 (.iad 1 (.t 34) (.t 35)),rg 37 (.load none (.t 36)),mv 38 8,mv 39 6,rg 40 (.call 115 [(.t 37),(.t 38),(.t 39)]),mv 31 40,rg 41 (.ext (.t 31) 0),rg 42 (.ext (.t 31) 1),rg 43 (.iad 1 (.t 32) (.t 33)),so (.store 1 (.t 43) (.t 41)),mv 6 42])))))
 (.reg [rg 44 (.bin .add (.t 20) (.c (.i .i64 1))),mv 20 44]))))
 (.norm false [0,1,5,6,19,20]))
def b85:AX:=
 (.seq
 (.reg [rg 4 (.mov (.c (.sl [] .nl)))])
 (.seq
 (.seq
 (.reg [mv 9 0,rg 10 (.len (.t 9)),mv 11 1,rg 12 (.len (.t 11)),rg 13 (.bin .lss (.t 10) (.t 12))])
 (.cond (.t 13)
 (.reg [mv 14 1,mv 15 0,mv 0 14,mv 1 15])
 .skip))
 (.seq
 (.reg [mv 16 0,rg 17 (.call 2106 [(.t 16),(.c (.i .i64 1))]),mv 5 17])
 (.seq
 (.reg [rg 6 (.mov (.c (u32 0)))])
 (.seq
 (.seq
 (.reg [mv 18 0,rg 19 (.len (.t 18)),rg 20 (.mov (.c (.i .i64 0)))])
 (.lp 0 (.norm false [0,1,5,6,19,20]) l85_0 (.norm false [0,5,6])))
 (.seq
 (.reg [mv 45 5,mv 46 0,rg 47 (.len (.t 46)),mv 48 6,rg 49 (.iad 1 (.t 45) (.t 47)),so (.store 1 (.t 49) (.t 48))])
 (.seq
 (.reg [mv 50 5,rg 51 (.call 86 [(.t 50)]),mv 4 51])
 (.pre (.norm false [4]) .ret))))))))
def l56_0:AX:=
 (.note
 (.seq
 (.reg [rg 9 (.bin .lss (.t 8) (.t 7))])
 (.seq
 (.cond (.t 9)
 .skip
 (.exit 0))
 (.seq
 (.block 1
 (.seq
 (.reg [rg 10 (.iad 1 (.t 6) (.t 8)),rg 11 (.load none (.t 10)),mv 5 11])
 (.reg [mv 12 3,mv 13 5,rg 14 (.call 86 [(.t 13)]),rg 15 (.call 85 [(.t 12),(.t 14)]),mv 3 15])))
 (.reg [rg 16 (.bin .add (.t 8) (.c (.i .i64 1))),mv 8 16]))))
 (.norm false [3,6,7,8]))
def b56:AX:=
 (.seq
 (.reg [rg 2 (.mov (.c (.sl [] .nl)))])
 (.seq
 (.reg [rg 3 (.mov (.c (.sl [] .nl)))])
 (.seq
 (.seq
 (.reg [mv 6 0,rg 7 (.len (.t 6)),rg 8 (.mov (.c (.i .i64 0)))])
 (.lp 0 (.norm false [3,6,7,8]) l56_0 (.norm false [3])))
 (.seq
 (.reg [mv 17 3,mv 2 17])
 (.pre (.norm false [2]) .ret)))))
def l88_0:AX:=
 (.note
 (.seq
 (.reg [rg 23 (.bin .lss (.t 22) (.t 21))])
 (.seq
 (.cond (.t 23)
 .skip
 (.exit 0))
 (.seq
 (.block 1
 (.seq
 (.reg [mv 24 22,mv 8 24])
 (.seq
 (.reg [rg 9 (.mov (.c (u32 0)))])
 (.seq
 (.seq
 (.reg [mv 25 8,mv 26 1,rg 27 (.len (.t 26)),rg 28 (.bin .lss (.t 25) (.t 27))])
 (.cond (.t 28)
 (.reg [mv 29 1,mv 30 8,rg 31 (.iad 1 (.t 29) (.t 30)),rg 32 (.load none (.t 31)),mv 9 32])
 .skip))
 (.reg [mv 34 6,mv 35 8,mv 36 0,mv 37 8,rg 38 (.iad 1 (.t 36) (.t 37)),rg 39 (.load none (.t 38)),mv 40 9,mv 41 7,rg 42 (.call 116 [(.t 39),(.t 40),(.t 41)]),mv 33 42,rg 43 (.ext (.t 33) 0),rg 44 (.ext (.t 33) 1),rg 45 (.iad 1 (.t 34) (.t 35)),so (.store 1 (.t 45) (.t 43)),mv 7 44])))))
 (.reg [rg 46 (.bin .add (.t 22) (.c (.i .i64 1))),mv 22 46]))))
 (.norm false [0,1,6,7,21,22]))
def b88:AX:=
 (.seq
 (.reg [rg 4 (.mov (.c (.sl [] .nl))),rg 5 (.mov (.c (.b false)))])
 (.seq
 (.reg [mv 10 0,rg 11 (.call 86 [(.t 10)]),mv 12 1,rg 13 (.call 86 [(.t 12)]),mv 0 11,mv 1 13])
 (.seq
 (.seq
 (.reg [mv 14 0,mv 15 1,rg 16 (.call 87 [(.t 14),(.t 15)]),rg 17 (.bin .lss (.t 16) (.c (.i .i64 0)))])
 (.cond (.t 17)
 (.seq
 (.reg [rg 4 (.mov (.c (.sl [] .nl))),rg 5 (.mov (.c (.b false)))])
 (.pre (.norm false [4,5]) .ret))
 .skip))
 (.seq
 (.reg [mv 18 0,rg 19 (.call 2106 [(.t 18),(.c (.i .i64 0))]),mv 6 19])
 (.seq
 (.reg [rg 7 (.mov (.c (u32 0)))])
 (.seq
 (.seq
 (.reg [mv 20 0,rg 21 (.len (.t 20)),rg 22 (.mov (.c (.i .i64 0)))])
 (.lp 0 (.norm false [0,1,6,7,21,22]) l88_0 (.norm false [6])))
 (.seq
 (.reg [mv 47 6,rg 48 (.call 86 [(.t 47)]),mv 4 48,rg 5 (.mov (.c (.b true)))])
 (.pre (.norm false [4,5]) .ret))))))))
def b57:AX:=
 (.seq
 (.reg [rg 4 (.mov (.c (.sl [] .nl))),rg 5 (.mov (.c (.i .i64 0)))])
 (.seq
 (.reg [mv 9 0,mv 10 1,rg 11 (.call 87 [(.t 9),(.t 10)]),mv 6 11])
 (.seq
 (.seq
 (.reg [mv 12 6,rg 13 (.bin .lss (.t 12) (.c (.i .i64 0)))])
 (.cond (.t 13)
 (.reg [mv 14 1,mv 15 0,mv 0 14,mv 1 15])
 .skip))
 (.seq
 (.reg [mv 17 0,mv 18 1,rg 19 (.call 88 [(.t 17),(.t 18)]),mv 16 19,rg 20 (.ext (.t 16) 0),rg 21 (.ext (.t 16) 1),mv 7 20,mv 8 21])
 (.seq
 (.reg [mv 22 7,mv 23 6,mv 4 22,mv 5 23])
 (.pre (.norm false [4,5]) .ret))))))
def b2106:AX:=
 (.seq
 (.reg [rg 4 (.mov (.c (.sl [] .nl)))])
 (.seq
 (.reg [mv 6 0,rg 7 (.len (.t 6)),mv 8 1,rg 9 (.bin .add (.t 7) (.t 8)),rg 10 (.mks 1 [(u32 0)] (.t 9) (.t 9)),mv 5 10])
 (.seq
 (.reg [mv 11 5,mv 12 0,rg 13 (.xop .cpy [(.t 11),(.t 12)])])
 (.seq
 (.reg [mv 14 5,mv 4 14])
 (.pre (.norm false [4]) .ret)))))
abbrev row86:AFx:=⟨1,21,[.t 2],b86,none,false⟩
abbrev row106:AFx:=⟨2,15,[.t 4],b106,none,false⟩
abbrev row71:AFx:=⟨1,6,[.t 2],b71,none,false⟩
abbrev row72:AFx:=⟨1,10,[.t 2],b72,none,false⟩
abbrev row73:AFx:=⟨1,28,[.t 2,.t 3],b73,none,false⟩
abbrev row70:AFx:=⟨1,7,[.t 2],b70,none,false⟩
abbrev row87:AFx:=⟨2,49,[.t 4],b87,none,false⟩
abbrev row85:AFx:=⟨2,52,[.t 4],b85,none,false⟩
abbrev row56:AFx:=⟨1,18,[.t 2],b56,none,false⟩
abbrev row88:AFx:=⟨2,49,[.t 4,.t 5],b88,none,false⟩
abbrev row57:AFx:=⟨2,24,[.t 4,.t 5],b57,none,false⟩
abbrev row2106:AFx:=⟨2,15,[.t 4],b2106,(some [false,false]),false⟩
class Zn (T:Tbl):Prop extends Zaf T where
 h86:Tr T 86=some row86
 h106:Tr T 106=some row106
 h71:Tr T 71=some row71
 h72:Tr T 72=some row72
 h73:Tr T 73=some row73
 h70:Tr T 70=some row70
 h87:Tr T 87=some row87
 h85:Tr T 85=some row85
 h56:Tr T 56=some row56
 h88:Tr T 88=some row88
 h57:Tr T 57=some row57
 h2106:Tr T 2106=some row2106
attribute [simp] Zn.h86 Zn.h106 Zn.h71 Zn.h72 Zn.h73 Zn.h70 Zn.h87 Zn.h85 Zn.h56 Zn.h88 Zn.h57 Zn.h2106
end
def val:List UInt32->Nat
 | []=>0
 | x::l=>x.toNat+4294967296*val l
def ofN(n:Nat):List UInt32:=if n=0 then [] else w32 n::ofN (n/4294967296)
termination_by n
decreasing_by omega
def Zie(l:List UInt32):Prop:=∀x,l.getLast? = some x->x.toNat≠0
@[simp] theorem zbx:val []=0:=rfl
@[simp] theorem zan(x:UInt32)(l:List UInt32):val (x::l)=x.toNat+4294967296*val l:=rfl
@[simp] def zkp:ofN 0=[]:=by rw[ofN];rfl
def zh9{n:Nat}(h:n≠0):ofN n=w32 n::ofN (n/4294967296):=by rw[ofN,if_neg h]
def zdt(n:Nat):(w32 n).toNat=n%4294967296:=za9 n
def zzk{x:UInt32}{n:Nat}(h:n%4294967296=x.toNat):w32 n=x:=by
 rw[<-UInt32.toNat_inj,zdt,h]
theorem zad(n:Nat):val (ofN n)=n:=by
 induction n using Nat.strongRecOn with
 | _ n ih=>
  by_cases h:n=0
  ·subst h;simp
  ·rw[zh9 h,zan,ih (n/4294967296) (by omega),zdt];omega
theorem zai(l m:List UInt32):val (l++m)=val l+4294967296^l.length*val m:=by
 induction l with
 | nil=>simp
 | cons x l ih=>
  simp only[Ycv,zan,ih,Yg,Yac,Yao,Yap];congr 2;rw[<-Yaw,Yaf 4294967296 (4294967296^l.length)]
def zay(l:List UInt32):val l<4294967296^l.length:=by
 induction l with
 | nil=>simp
 | cons x l ih=>
  have:=zal x;simp only[zan,Yg,Yac];omega
def zjn{x:UInt32}{l:List UInt32}(h:Zie (x::l)):Zie l:=by
 intro y hy;apply h;cases l with
 | nil=>simp at hy
 | cons z l=>rw[List.getLast?_cons_cons];exact hy
def zyk{l:List UInt32}(h:Zie l):val l=0↔l=[]:=by
 constructor
 ·intro h0
  induction l with
  | nil=>rfl
  | cons x l ih=>
   exfalso;simp only[zan]at h0;have h1:=ih (zjn h) (by omega);subst h1;exact h x (by simp) (by omega)
 ·rintro rfl;rfl
def z1u{l:List UInt32}(h:Zie l):ofN (val l)=l:=by
 induction l with
 | nil=>simp
 | cons x l ih=>
  have hx:=zal x;have hne:val (x::l)≠0:=fun h0=>by have:=(zyk h).1 h0;cases this
  rw[zh9 hne];congr 1
  ·exact zzk (by simp only[zan];omega)
  ·rw[show val (x::l)/4294967296=val l by simp only[zan];omega];exact ih (zjn h)
def za4{n:Nat}:ofN n=[]↔n=0:=⟨fun h=>by rw[<-zad n,h];rfl,fun h=>by rw[h];simp⟩
def zsi{a:List UInt32}{n:Nat}(hn:n<=a.length)(h0:∀(i:Nat) (x:UInt32),n<=i->a[i]? = some x->x.toNat=0)(h1:∀x:UInt32,0<n->a[n-1]? = some x->x.toNat≠0):a.take n=ofN (val a):=by
 have hr:Zie (a.take n):=by
  intro x hx;have hn0:0<n:=by
   rcases Ybo n with h | h
   ·subst h;simp at hx
   ·exact h
  apply h1 x hn0;rw[List.getLast?_eq_getElem?,Ya3,Yds hn,Yak,if_pos (by omega)]at hx;exact hx
 have hz:∀l:List UInt32,(∀(i:Nat) (x:UInt32),l[i]? = some x->x.toNat=0)->val l=0:=by
  intro l
  induction l with
  | nil=>intro _;rfl
  | cons x l ih=>
   intro h;have h2:=h 0 x rfl;have h3:=ih fun i y hy=>h (i+1) y (by simpa using hy);simp only[zan,h2,h3]
 have hv:val a=val (a.take n):=by
  have e:=zai (a.take n) (a.drop n);rw[Yau,hz (a.drop n) (fun i x hx=>h0 (n+i) x (by omega) (by rw[Yaq]at hx;exact hx))]at e;omega
 rw[hv,z1u hr]
def zp7(a:List UInt32):∃n,n<=a.length/\a.take n=ofN (val a)/\(∀(i:Nat) (x:UInt32),n<=i->a[i]? = some x->x.toNat=0)/\(∀x:UInt32,0<n->a[n-1]? = some x->x.toNat≠0):=by
 have key:∀k,k<=a.length->(∀(i:Nat) (x:UInt32),k<=i->a[i]? = some x->x.toNat=0)->∃n,n<=k/\(∀(i:Nat) (x:UInt32),n<=i->a[i]? = some x->x.toNat=0)/\(∀x:UInt32,0<n->a[n-1]? = some x->x.toNat≠0):=by
  intro k
  induction k with
  | zero=>intro _ h;exact⟨0,Yi _,h,fun x hx=>by omega⟩
  | succ k ih=>
   intro hk h;by_cases hz:(a[k]'(by omega)).toNat=0
   ·obtain⟨n,h1,h2,h3⟩:=ih (by omega) fun i x hi hx=>by
     rcases Yv k i with h4 | h4
     ·exact h i x h4 hx
     ·have:i=k:=by omega
      subst this;rw[Ya (by omega)]at hx;cases hx;exact hz
    exact⟨n,by omega,h2,h3⟩
   ·refine⟨k+1,Yi _,h,fun x _ hx=>?_⟩;rw[Nat.add_sub_cancel,Ya (by omega)]at hx;cases hx;exact hz
 obtain⟨n,h1,h2,h3⟩:=key a.length (Yi _) fun i x hi hx=>by rw[List.getElem?_eq_none hi]at hx;cases hx
 exact⟨n,h1,zsi h1 h2 h3,h2,h3⟩
def zac(a:List UInt32):(ofN (val a)).length<=a.length:=by
 obtain⟨n,h1,h2,_⟩:=zp7 a;rw[<-h2,Ya3];omega
def zaj{n k:Nat}(h:n<4294967296^k):(ofN n).length<=k:=by
 induction k generalizing n with
 | zero=>
  have:n=0:=by simp at h;omega
  subst this;simp
 | succ k ih=>
  by_cases h0:n=0
  ·subst h0;simp
  ·rw[zh9 h0,Yg];have:=ih (n:=n/4294967296) (by rw[Yac]at h;omega);omega
theorem zae{a:List UInt32}{i:Nat}{x:UInt32}(h:a[i]? = some x):val (a.take (i+1))=val (a.take i)+4294967296^i*x.toNat:=by
 have hi:i<a.length:=by
  rcases Yv i a.length with h1 | h1
  ·exact h1
  ·rw[List.getElem?_eq_none h1]at h;cases h
 rw[Yco,h,zai];simp only[Ydu,zan,zbx,Ya0,Yaa,Ya3];rw[Yds (by omega)]
def zcj{a:List UInt32}{i:Nat}(x:UInt32)(h:i<a.length):val ((a.set i x).take (i+1))=val (a.take i)+4294967296^i*x.toNat:=by
 rw[zae (x:=x) (by rw[Yc4 h]),List.take_set_of_le (Yi i)]
def zbh{a:List UInt32}{i:Nat}(h:a.length<=i):val (a.take i)=val a:=by rw[Yb h]
def za8(n:Nat):val (List.replicate n 0)=0:=by
 induction n with
 | zero=>rfl
 | succ n ih=>simp[Yba,ih]
def zf5{m n:Nat}(h:(ofN m).length<(ofN n).length):m<n:=by
 rcases Yv m n with h1 | h1
 ·exact h1
 ·exfalso;have h2:=zay (ofN m);rw[zad]at h2;have:=zaj (show n<4294967296^(ofN m).length by omega);omega
def zbb{m n:Nat}(h:m<=n):(ofN m).length<=(ofN n).length:=by
 rcases Yv (ofN n).length (ofN m).length with h1 | h1
 ·have:=zf5 h1;omega
 ·exact h1
def Zex(x y:Nat):Int:=if x<y then -1 else if y<x then 1 else 0
def zv8{a b:List UInt32}{i:Nat}{x y:UInt32}(hx:a[i]? = some x)(hy:b[i]? = some y)(h:x.toNat<y.toNat):val (a.take (i+1))<val (b.take (i+1)):=by
 rw[zae hx,zae hy];have h1:=zay (a.take i);have h2:4294967296^(a.take i).length<=4294967296^i:=Yt (by decide) (by simp;omega);have h3:=Ya2 (4294967296^i) (show x.toNat+1<=y.toNat from h);rw[Yao]at h3;omega
def zkq{x y c:Nat}(hx:x<4294967296)(hy:y<4294967296)(hc:c<=1) :
  (x+8589934592-(y+c))%4294967296+(y+c)=x+4294967296*(2-(x+8589934592-(y+c))/4294967296)/\2-(x+8589934592-(y+c))/4294967296<=1:=by omega
def lls(l:List (List UInt32)):List (List AV):=l.map fun a=>[.sl (Za a) .an]
@[simp] def z3y(l:List (List UInt32)):(lls l).length=l.length:=by simp[lls]
@[simp] def zah9(l:List (List UInt32)):wkL (lls l)=lls l:=by rw[zbw];simp[lls,wkR]
@[simp] def z1v(l:List (List UInt32))(i:Nat)(h:i<(lls l).length):(lls l)[i]=[.sl (Za (l[i]'(by simpa using h))) .an]:=by simp[lls]
section
variable{T:Tbl}
def zvg(a:List UInt32)(hl:a.length<9223372036854775808){n:Nat}(hn:n<=a.length)(h0:∀(i:Nat) (x:UInt32),n<=i->a[i]? = some x->x.toNat=0)(h1:∀x:UInt32,0<n->a[n-1]? = some x->x.toNat≠0) :
  ∀m:Nat,(n<=m/\m<=a.length)->Zu T 0 0 (.norm false [0,3]) l86_0 ⟨[(0,.sl (Za a) .an),(3,.i .i64 (m:Int))],[],2⟩=some (.n,⟨[(0,.sl (Za a) .an),(3,.i .i64 (n:Int))],[],2⟩):=by
 refine za0 (fun m:Nat=>⟨[(0,.sl (Za a) .an),(3,.i .i64 (m:Int))],[],2⟩) _ (fun m=>m) _ ?_
 rintro m ⟨hm,hma⟩
 by_cases h2:m=0
 ·right;subst h2;have:n=0:=by omega
  subst this;constructor<;>simp[l86_0]
 ·have hw:IntKind.wrap .i64 ((m:Int)-1)=((m-1:Nat):Int):=by rw[zab _ (by omega)];omega
  have hm1:m-1<a.length:=by omega
  have hg:a[m-1]? = some (a[m-1]'hm1):=Ya hm1;have hpos:0<m:=by omega
  by_cases h3:m=n
  ·right;subst h3;have hx:=h1 _ hpos hg;constructor<;>simp[l86_0,hpos,hw,hm1,hx]
  ·left;refine⟨m-1,⟨by omega,by omega⟩,by show m-1<m;omega,?_,rfl⟩;have hx:=h0 (m-1) _ (by omega) hg;simp[l86_0,hpos,hw,hm1,hx]
end
section
variable{T:Tbl}[Zn T]
def zbn(a:List UInt32)(hl:a.length<=4294967296):Zb T 86 [.sl (Za a) .an]=some (.sl (Za (ofN (val a))) .an):=by
 obtain⟨n,h1,h2,h3,h4⟩:=zp7 a;have hr:=zvg (T:=T) a (by omega) h1 h3 h4 a.length ⟨h1,Yi _⟩;rw[zaa Zn.h86 rfl,b86];simp[hr,h1,h2]
def zvh(a:List UInt32)(m:Nat)(hl:a.length+m<=4294967296):Zb T 106 [.sl (Za a) .an,.i .i64 (m:Int)]=some (.sl (Za (a++List.replicate m 0)) .an):=by
 have hw:IntKind.wrap .i64 ((a.length:Int)+m)=((a.length+m:Nat):Int):=zab _ (by omega);have h0:(0:Int)<=(a.length:Int)+m:=by omega
 have h2:(a.length:Int)+m<=4294967296:=by omega
 have h3:((a.length:Int)+m).toNat=a.length+m:=by omega
 rw[zaa Zn.h106 rfl,b106];simp[hw,h0,h2,h3,Yb]
def zcn(a:List UInt32)(m:Nat)(hl:a.length+m<=4294967296):Zd0 T 2106 [.sl (Za a) .an,.i .i64 (m:Int)] [] =
  some (.bs (.loc 10) 1 1 0 (a.length+m),[(.loc 10,⟨1,.own,1,Za (a++List.replicate m 0)⟩)]):=by
 have hw:IntKind.wrap .i64 ((a.length:Int)+m)=((a.length+m:Nat):Int):=zab _ (by omega);have h0:(0:Int)<=(a.length:Int)+m:=by omega
 have h2:(a.length:Int)+m<=4294967296:=by omega
 have h3:((a.length:Int)+m).toNat=a.length+m:=by omega
 rw[zdp Zn.h2106 rfl,b2106];simp[hw,h0,h2,h3]
def za7(a:List UInt32)(hl:a.length<=4294967296):Zb T 71 [.sl (Za a) .an]=some (.sl (Za (ofN (val a))) .an):=by
 have h1:=zac a;have h2:=zvh (T:=T) (ofN (val a)) 0 (by omega);simp only[Y8]at h2;rw[zaa Zn.h71 rfl,b71];simp[zbn a hl,h2]
def zd6(n:Nat)(h:n<18446744073709551616):Zb T 72 [u64 n]=some (.sl (Za (ofN n)) .an):=by
 have e2:val [w32 n,w32 (n/4294967296)]=n:=by simp[zdt];omega
 have h2:=zbn (T:=T) [w32 n,w32 (n/4294967296)] (by simp);rw[e2]at h2;have h3:n/4294967296%4294967296=n/4294967296:=Yu (by omega);rw[zaa Zn.h72 rfl,b72];simp[h3,zbm _ _ _ (show n/4294967296<4294967296 by omega),h2]
def zen(a:List UInt32)(hl:a.length<=4294967296):Zb T 70 [.sl (Za a) .an]=some (.b (decide (val a=0))):=by
 rw[zaa Zn.h70 rfl,b70];have:((((ofN (val a)).length:Int) == 0))=decide (val a=0):=by
  rw[Yb0];simp[za4]
 simp[zbn a hl,this]
def Zf1(a b:List UInt32)(y:Nat×Nat×List UInt32):St:=
 ⟨[(0,.sl (Za a) .an),(1,.sl (Za b) .an),(5,.bs (.fld (.loc 17) 10) 1 1 0 (a.length+1)),(6,u32 y.2.1),(19,.i .i64 a.length),(20,.i .i64 y.1)],
  [(.fld (.loc 17) 10,⟨1,.own,1,Za y.2.2⟩)],3⟩
def zmn(a b:List UInt32)(hb:b.length<=a.length)(hl:a.length<=1000000):∀y:Nat×Nat×List UInt32,
  (y.1<=a.length/\y.2.1<=1/\y.2.2.length=a.length+1/\val (y.2.2.take y.1)+4294967296^y.1*y.2.1=val (a.take y.1)+val (b.take y.1)) ->
  ∃r,(∃(c:Nat) (out:List UInt32),r=(Ex.n,(⟨[(0,.sl (Za a) .an),(5,.bs (.fld (.loc 17) 10) 1 1 0 (a.length+1)),(6,u32 c)],[(.fld (.loc 17) 10,⟨1,.own,1,Za out⟩)],3⟩:St)) /\
   out.length=a.length+1/\c<=1/\val (out.take a.length)+4294967296^a.length*c=val a+val b)/\Zu T 0 0 (.norm false [0,5,6]) l85_0 (Zf1 a b y)=some r:=by
 refine za6 _ _ (fun y=>a.length-y.1) _ ?_
 rintro⟨i,c,out⟩ ⟨hi,hc,ho,hv⟩
 simp only at hi hc ho hv;by_cases h0:i<a.length
 ·left;have ha:a[i]? = some (a[i]'h0):=Ya h0;have hoi:i<out.length:=by omega
  have hog:out[i]? = some (out[i]'hoi):=Ya hoi;have hw:IntKind.wrap .i64 ((i:Int)+1)=((i+1:Nat):Int):=zab _ (by omega);have hc2:c<4294967296:=by omega
  have hil:(i:Int)<(a.length:Int)+1:=by omega
  have h1:=zae ha;by_cases h2:i<b.length
  ·have hbg:b[i]? = some (b[i]'h2):=Ya h2;have h3:=zae hbg;refine⟨(i+1,((a[i]'h0).toNat+(b[i]'h2).toNat+c)/4294967296,out.set i (w32 ((a[i]'h0).toNat+(b[i]'h2).toNat+c))),⟨by simp only;omega,?_,by simp[ho],?_⟩,by simp only;omega,?_⟩
   ·have:=zal (a[i]'h0);have:=zal (b[i]'h2);simp only;omega
   ·simp only;rw[zcj _ hoi,h1,h3,zdt,Yac];generalize 4294967296^i=p at *
    generalize (a[i]'h0).toNat=x at *
    generalize (b[i]'h2).toNat=z at *
    have e:=Yca (x+z+c) 4294967296;have e2:p*((x+z+c)%4294967296)+p*4294967296*((x+z+c)/4294967296)=p*(x+z+c):=by
     conv=>rhs;rw[<-e]
     rw[Yao,Yaw];omega
    rw[Yao,Yao]at e2;omega
   ·simp[l85_0,Zf1,h0,h2,hog,hw,hil,zd5,hc2]
  ·have h3:val (b.take (i+1))=val (b.take i):=by rw[zbh (by omega),zbh (by omega)]
   refine⟨(i+1,((a[i]'h0).toNat+0+c)/4294967296,out.set i (w32 ((a[i]'h0).toNat+0+c))),⟨by simp only;omega,?_,by simp[ho],?_⟩,by simp only;omega,?_⟩
   ·have:=zal (a[i]'h0);simp only;omega
   ·simp only;rw[zcj _ hoi,h1,h3,zdt,Yac];generalize 4294967296^i=p at *
    generalize (a[i]'h0).toNat=x at *
    have e:=Yca (x+0+c) 4294967296;have e2:p*((x+0+c)%4294967296)+p*4294967296*((x+0+c)/4294967296)=p*(x+0+c):=by
     conv=>rhs;rw[<-e]
     rw[Yao,Yaw];omega
    rw[Yao,Yao]at e2;omega
   ·simp[l85_0,Zf1,h0,h2,hog,hw,hil,zd5,hc2]
 ·right;have:i=a.length:=by omega
  subst this;rw[Yb (Yi _),Yb hb]at hv;refine⟨_,⟨c,out,rfl,ho,hc,hv⟩,?_,?_⟩<;>simp[l85_0,Zf1]
def zvi(a b:List UInt32)(hb:b.length<=a.length)(hl:a.length<=1000000):Zb T 85 [.sl (Za a) .an,.sl (Za b) .an]=some (.sl (Za (ofN (val a+val b))) .an):=by
 have hf:=zcn (T:=T) a 1 (by omega);simp only[Yeg]at hf;obtain⟨_,⟨c,out,rfl,ho,hc,hv⟩,hr⟩:=zmn (T:=T) a b hb hl (0,0,a++List.replicate 1 0) ⟨Y4 _,Y4 _,by simp,by simp⟩;unfold Zf1 at hr;simp at hr;have hog:out[a.length]? = some (out[a.length]'(by omega)):=Ya _;have h1:¬ (a.length:Int)<b.length:=by omega
 have h2:¬ a.length<b.length:=by omega
 have h3:(a.length:Int)<(a.length:Int)+1:=by omega
 have hval:val (out.set a.length (w32 c))=val a+val b:=by
  rw[<-Yb (l:=out.set a.length (w32 c)) (i:=a.length+1) (by simp;omega),zcj _ (by omega),zaf (by omega)];exact hv
 have ht:=zbn (T:=T) (out.set a.length (w32 c)) (by simp;omega);rw[hval]at ht;have htk:List.take (a.length+1) (out.set a.length (w32 c))=out.set a.length (w32 c):=Yb (by simp;omega);rw[zaa Zn.h85 rfl,b85];simp[h1,hf,hr,h3,zbm _ _ _ (show c<4294967296 by omega),htk,ht,ho]
def zrv(a b:List UInt32)(hb:a.length<b.length)(hl:b.length<=1000000):Zb T 85 [.sl (Za a) .an,.sl (Za b) .an]=some (.sl (Za (ofN (val a+val b))) .an):=by
 have hf:=zcn (T:=T) b 1 (by omega);simp only[Yeg]at hf;obtain⟨_,⟨c,out,rfl,ho,hc,hv⟩,hr⟩:=zmn (T:=T) b a (by omega) hl (0,0,b++List.replicate 1 0) ⟨Y4 _,Y4 _,by simp,by simp⟩;unfold Zf1 at hr;simp at hr;have hog:out[b.length]? = some (out[b.length]'(by omega)):=Ya _;have h1:(a.length:Int)<b.length:=by omega
 have h3:(b.length:Int)<(b.length:Int)+1:=by omega
 have hval:val (out.set b.length (w32 c))=val a+val b:=by
  rw[<-Yb (l:=out.set b.length (w32 c)) (i:=b.length+1) (by simp;omega),zcj _ (by omega),zaf (by omega),hv,Ybj]
 have ht:=zbn (T:=T) (out.set b.length (w32 c)) (by simp;omega);rw[hval]at ht;have htk:List.take (b.length+1) (out.set b.length (w32 c))=out.set b.length (w32 c):=Yb (by simp;omega);rw[zaa Zn.h85 rfl,b85];simp[h1,hf,hr,h3,zbm _ _ _ (show c<4294967296 by omega),htk,ht,ho]
def zxz(a b:List UInt32)(ha:a.length<=1000000)(hb:b.length<=1000000):Zb T 85 [.sl (Za a) .an,.sl (Za b) .an]=some (.sl (Za (ofN (val a+val b))) .an):=by
 rcases Yv a.length b.length with h | h
 ·exact zrv a b h hb
 ·exact zvi a b h ha
def Zdo(l:List (List UInt32)):Nat:=(l.map val).sum
def zx0(K:Nat):∀m:List (List UInt32),m.length<=1000->(∀a∈m,a.length<=K)->(ofN (Zdo m)).length<=K+1:=by
 intro m hm hw;apply zaj;rw[Yac];have hp0:0<4294967296^K:=Ybr (by decide);have hall:∀a∈m,val a<4294967296^K:=fun a ha=>Ym (zay a) (Yt (by decide) (hw a ha));generalize 4294967296^K=p at *
 have h1:Zdo m<=m.length*p:=by
  clear hm hw
  induction m with
  | nil=>simp[Zdo]
  | cons a m ih=>
   have h2:=ih fun a ha=>hall a (Yh _ ha);have h3:=hall a Yj;simp only[Zdo,Yx,Yel,Yg,Yby,Yd1]at h2 ⊢;omega
 have h6:=Y2 p hm;omega
def zx1(l:List (List UInt32))(hl:l.length<=1000)(hw:∀a∈l,a.length<=90000):∀i:Nat,i<=l.length ->
  Zu T 0 0 (.norm false [3]) l56_0 ⟨[(3,.sl (Za (ofN (Zdo (l.take i)))) .an),(6,.sl (lls l) .an),(7,.i .i64 l.length),(8,.i .i64 i)],[],2⟩=some (.n,⟨[(3,.sl (Za (ofN (Zdo l))) .an)],[],2⟩):=by
 refine za0 (fun i:Nat=>⟨[(3,.sl (Za (ofN (Zdo (l.take i)))) .an),(6,.sl (lls l) .an),(7,.i .i64 l.length),(8,.i .i64 i)],[],2⟩) _ (fun i=>l.length-i) _ ?_;intro i hi;by_cases h0:i<l.length
 ·left;have hg:l[i]? = some (l[i]'h0):=Ya h0;have hwr:IntKind.wrap .i64 ((i:Int)+1)=((i+1:Nat):Int):=zab _ (by omega);have hw1:=hw _ (Y0 h0);have ht:=zbn (T:=T) (l[i]'h0) (by omega);have hs:=zx0 90000 (l.take i) (by simp;omega) fun a ha=>hw a (Yaz ha);have hp:=zxz (T:=T) (ofN (Zdo (l.take i))) (ofN (val (l[i]'h0))) (by omega) (by have:=zac (l[i]'h0);omega);rw[zad,zad]at hp;have e:Zdo (l.take i)+val (l[i]'h0)=Zdo (l.take (i+1)):=by
   unfold Zdo;rw[Yco,hg];simp only[Ydu,Yax,Yx,Ybl,Yeh,Yel,List.sum_nil,Yaa]
  rw[e]at hp;have hz:Zik 1 (lls l)=true:=by cases l<;>simp[lls,Zik]
  refine⟨i+1,h0,by show l.length-(i+1)<l.length-i;omega,?_,rfl⟩;simp[l56_0,h0,ht,hp,hwr]
 ·right;have:i=l.length:=by omega
  subst this;rw[Yb (Yi _)];constructor<;>simp[l56_0]
def zp0(l:List (List UInt32))(hl:l.length<=1000)(hw:∀a∈l,a.length<=90000):Zb T 56 [.sl (lls l) .an]=some (.sl (Za (ofN (Zdo l))) .an):=by
 have h:=zx1 (T:=T) l hl hw 0 (Y4 _);simp[Zdo]at h;rw[zaa Zn.h56 rfl,b56];simp[h,Zdo]
def zvj(l:List (List UInt32))(hl:l.length<=1000)(hw:∀a∈l,a.length<=10000):Zb T 56 [.sl (lls l) .an]=some (.sl (Za (ofN (Zdo l))) .an):=zp0 (T:=T) l hl (fun a h=>Yd (hw a h) (by decide))
end
section
variable{T:Tbl}
def zx2(a b:List UInt32)(hab:a.length=b.length)(hl:a.length<=1000000):∀m:Nat,m<=a.length ->
  Zu T 0 1 (.norm false []) l87_0 ⟨[(0,.sl (Za a) .an),(1,.sl (Za b) .an),(5,.i .i64 ((m:Int)-1))],[],2⟩ =
   if val (a.take m)<val (b.take m) then some (.r,⟨[(4,.i .i64 (-1))],[],2⟩) else if val (b.take m)<val (a.take m) then some (.r,⟨[(4,.i .i64 1)],[],2⟩) else some (.n,⟨[],[],2⟩):=by
 refine za0 (fun m:Nat=>⟨[(0,.sl (Za a) .an),(1,.sl (Za b) .an),(5,.i .i64 ((m:Int)-1))],[],2⟩) _ (fun m=>m) _ ?_;intro m hm;cases m with
 | zero=>
  right;constructor<;>simp[l87_0]
 | succ i=>
  have ha:a[i]? = some (a[i]'(by omega)):=Ya _;have hb:b[i]? = some (b[i]'(by omega)):=Ya _;have hia:i<a.length:=by omega
  have hib:i<b.length:=by omega
  have hw:IntKind.wrap .i64 ((i:Int)-1)=(i:Int)-1:=zab _ (by omega);rcases Ybd (a[i]'hia).toNat (b[i]'hib).toNat with h1 | h1 | h1
  ·right;have h2:=zv8 ha hb h1;constructor<;>simp[l87_0,hia,hib,h1,h2]
  ·left;refine⟨i,by omega,Y1 i,?_,?_⟩
   ·simp[l87_0,hia,hib,h1,hw]
   ·have e1:=zae ha;have e2:=zae hb;rw[e1,e2,h1];have e3:(val (a.take i)+4294967296^i*(b[i]'hib).toNat<val (b.take i)+4294967296^i*(b[i]'hib).toNat)=(val (a.take i)<val (b.take i)):=by
     apply propext;omega
    have e4:(val (b.take i)+4294967296^i*(b[i]'hib).toNat<val (a.take i)+4294967296^i*(b[i]'hib).toNat)=(val (b.take i)<val (a.take i)):=by
     apply propext;omega
    simp only[e3,e4]
  ·right;have h2:=zv8 hb ha h1;have h3:¬ val (a.take (i+1))<val (b.take (i+1)):=by omega
   have h4:¬ (a[i]'hia).toNat<(b[i]'hib).toNat:=by omega
   constructor<;>simp[l87_0,hia,hib,h1,h2,h3,h4]
end
section
variable{T:Tbl}[Zn T]
def zf0(a b:List UInt32)(ha:a.length<=1000000)(hb:b.length<=1000000):Zb T 87 [.sl (Za a) .an,.sl (Za b) .an]=some (.i .i64 (Zex (val a) (val b))):=by
 have hta:=zbn (T:=T) a (by omega);have htb:=zbn (T:=T) b (by omega);have hla:=zac a;have hlb:=zac b;rw[zaa Zn.h87 rfl,b87];rcases Ybd (ofN (val a)).length (ofN (val b)).length with h | h | h
 ·have h1:=zf5 h;simp[hta,htb,h,Zex,h1]
 ·have hc:=zx2 (T:=T) (ofN (val a)) (ofN (val b)) h (by omega) (ofN (val a)).length (Yi _);rw[Yb (Yi _),Yb (by omega),zad,zad]at hc;have hw:IntKind.wrap .i64 (((ofN (val a)).length:Int)-1)=((ofN (val a)).length:Int)-1:=zab _ (by omega);have h1:¬ (ofN (val a)).length<(ofN (val b)).length:=by omega
  have h2:¬ (ofN (val b)).length<(ofN (val a)).length:=by omega
  simp[hta,htb,h1,h2,hw,hc,Zex]
  repeat' split
  all_goals simp
 ·have h1:=zf5 h;have h2:¬ val a<val b:=by omega
  have h3:¬ (ofN (val a)).length<(ofN (val b)).length:=by omega
  simp[hta,htb,h,Zex,h1,h2,h3]
def Zib(a b:List UInt32)(y:Nat×Nat×List UInt32):St:=
 ⟨[(0,.sl (Za a) .an),(1,.sl (Za b) .an),(6,.bs (.fld (.loc 19) 10) 1 1 0 a.length),(7,u32 y.2.1),(21,.i .i64 a.length),(22,.i .i64 y.1)],
  [(.fld (.loc 19) 10,⟨1,.own,1,Za y.2.2⟩)],3⟩
def zx3(a b:List UInt32)(hb:b.length<=a.length)(hl:a.length<=1000000):∀y:Nat×Nat×List UInt32,
  (y.1<=a.length/\y.2.1<=1/\y.2.2.length=a.length/\val (y.2.2.take y.1)+val (b.take y.1)=val (a.take y.1)+4294967296^y.1*y.2.1) ->
  ∃r,(∃(c:Nat) (out:List UInt32),r=(Ex.n,(⟨[(6,.bs (.fld (.loc 19) 10) 1 1 0 a.length)],[(.fld (.loc 19) 10,⟨1,.own,1,Za out⟩)],3⟩:St)) /\
   out.length=a.length/\c<=1/\val out+val b=val a+4294967296^a.length*c)/\Zu T 0 0 (.norm false [6]) l88_0 (Zib a b y)=some r:=by
 refine za6 _ _ (fun y=>a.length-y.1) _ ?_
 rintro⟨i,c,out⟩ ⟨hi,hc,ho,hv⟩
 simp only at hi hc ho hv;by_cases h0:i<a.length
 ·left;have ha:a[i]? = some (a[i]'h0):=Ya h0;have hoi:i<out.length:=by omega
  have hog:out[i]? = some (out[i]'hoi):=Ya hoi;have hw:IntKind.wrap .i64 ((i:Int)+1)=((i+1:Nat):Int):=zab _ (by omega);have hc2:c<4294967296:=by omega
  have hx:=zal (a[i]'h0);have h1:=zae ha;have fin:∀z:Nat,z<4294967296->val (b.take (i+1))=val (b.take i)+4294967296^i*z ->
    val ((out.set i (w32 ((a[i]'h0).toNat+8589934592-(z+c)))).take (i+1))+val (b.take (i+1))=val (a.take (i+1))+4294967296^(i+1)*(2-((a[i]'h0).toNat+8589934592-(z+c))/4294967296):=by
   intro z hz h3;have hs:=(zkq hx hz hc).1;rw[zcj _ hoi,h1,h3,zdt,Yac];generalize 4294967296^i=p at *
   generalize (a[i]'h0).toNat=x at *
   generalize (x+8589934592-(z+c))%4294967296=s at *
   generalize 2-(x+8589934592-(z+c))/4294967296=d at *
   have e2:p*s+p*(z+c)=p*x+p*4294967296*d:=by rw[<-Yao,hs,Yao,Yaw]
   rw[Yao]at e2;omega
  by_cases h2:i<b.length
  ·have hbg:b[i]? = some (b[i]'h2):=Ya h2;have h3:=zae hbg;refine⟨(i+1,2-((a[i]'h0).toNat+8589934592-((b[i]'h2).toNat+c))/4294967296,out.set i (w32 ((a[i]'h0).toNat+8589934592-((b[i]'h2).toNat+c)))),⟨h0,(zkq hx (zal _) hc).2,by simp[ho],fin _ (zal _) h3⟩,by simp only;omega,?_⟩;simp[l88_0,Zib,h0,h2,hog,hw,zfk,hc2]
  ·have h3:val (b.take (i+1))=val (b.take i)+4294967296^i*0:=by rw[zbh (by omega),zbh (by omega)];simp
   refine⟨(i+1,2-((a[i]'h0).toNat+8589934592-(0+c))/4294967296,out.set i (w32 ((a[i]'h0).toNat+8589934592-(0+c)))),⟨h0,(zkq hx (by decide) hc).2,by simp[ho],fin 0 (by decide) h3⟩,by simp only;omega,?_⟩;simp[l88_0,Zib,h0,h2,hog,hw,zfk,hc2]
 ·right;have:i=a.length:=by omega
  subst this;rw[Yb (Yi _),Yb hb,Yb (by omega)]at hv;refine⟨_,⟨c,out,rfl,ho,hc,hv⟩,?_,?_⟩<;>simp[l88_0,Zib]
def zds{x y:Nat}:Zex x y<0↔x<y:=by
 unfold Zex;split
 ·simp[*]
 ·split<;>simp[*]
def zvk(a b:List UInt32)(ha:a.length<=1000000)(hb:b.length<=1000000):Zb T 88 [.sl (Za a) .an,.sl (Za b) .an] =
  some (if val a<val b then .tup [.sl [] .an,.b false] else .tup [.sl (Za (ofN (val a-val b))) .an,.b true]):=by
 have hta:=zbn (T:=T) a (by omega);have htb:=zbn (T:=T) b (by omega);have hla:=zac a;have hlb:=zac b;have hc:=zf0 (T:=T) (ofN (val a)) (ofN (val b)) (by omega) (by omega);rw[zad,zad]at hc;rw[zaa Zn.h88 rfl,b88];by_cases h:val a<val b
 ·simp[hta,htb,hc,zds,h]
 ·have hle:=zbb (show val b<=val a by omega);have hf:=zcn (T:=T) (ofN (val a)) 0 (by omega);simp only[Y8,Yaa,List.replicate_zero,Ybg]at hf;obtain⟨_,⟨c,out,rfl,ho,hc1,hv⟩,hr⟩:=zx3 (T:=T) (ofN (val a)) (ofN (val b)) hle (by omega) (0,0,ofN (val a)) ⟨Y4 _,Y4 _,rfl,by simp⟩;unfold Zib at hr;simp at hr;rw[zad,zad]at hv;have hlt:=zay out;rw[ho]at hlt;have hc0:c=0:=by
   rcases Ybo c with h1 | h1
   ·exact h1
   ·have:c=1:=by omega
    subst this;omega
  subst hc0;have hval:val out=val a-val b:=by omega
  have ht:=zbn (T:=T) out (by omega);rw[hval]at ht;have htk:List.take (ofN (val a)).length out=out:=Yb (by omega);simp[hta,htb,hc,zds,h,hf,hr,ho,htk,ht]
def z1j(a b:List UInt32)(ha:a.length<=1000000)(hb:b.length<=1000000):Zb T 57 [.sl (Za a) .an,.sl (Za b) .an] =
  some (.tup [.sl (Za (ofN (if val a<val b then val b-val a else val a-val b))) .an,.i .i64 (Zex (val a) (val b))]):=by
 have hc:=zf0 (T:=T) a b ha hb;rw[zaa Zn.h57 rfl,b57];by_cases h:val a<val b
 ·have h2:¬ val b<val a:=by omega
  have hs:=zvk (T:=T) b a hb ha;rw[if_neg h2]at hs;simp[hc,zds,h,hs]
 ·have hs:=zvk (T:=T) a b ha hb;rw[if_neg h]at hs;simp[hc,zds,h,hs]
def zx4{x y:Nat}(hx:x<4294967296):x ||| (y*4294967296)=x+y*4294967296:=by
 have:=Ycn (i:=32) hx y;rw[Nat.or_comm,Yaf y,show (4294967296:Nat)=2^32 from rfl,<-this];omega
end
section
variable{T:Tbl}
def zrw(l:List UInt32)(hl:l.length<=2):∀i:Nat,i<=l.length ->
  Zu T 0 0 (.norm false [4]) l73_0 ⟨[(4,u64 (val (l.take i))),(12,.sl (Za l) .an),(13,.i .i64 l.length),(14,.i .i64 i)],[],2⟩=some (.n,⟨[(4,u64 (val l))],[],2⟩):=by
 refine za0 (fun i:Nat=>⟨[(4,u64 (val (l.take i))),(12,.sl (Za l) .an),(13,.i .i64 l.length),(14,.i .i64 i)],[],2⟩) _ (fun i=>l.length-i) _ ?_;intro i hi;by_cases h0:i<l.length
 ·left;have hg:l[i]? = some (l[i]'h0):=Ya h0;have hx:=zal (l[i]'h0);have h1:=zae hg;refine⟨i+1,h0,by show l.length-(i+1)<l.length-i;omega,?_,rfl⟩;rcases(show i=0\/i=1 by omega) with rfl | rfl
  ·simp[l73_0,h0,h1]
  ·have h2:val (l.take 1)<4294967296:=by
    have:=zay (l.take 1);have h3:(l.take 1).length=1:=by simp;omega
    rw[h3]at this;simpa using this
   have e1:(l[1]'h0).toNat*4294967296%18446744073709551616=(l[1]'h0).toNat*4294967296:=Yu (by omega);have e2:=zx4 (y:=(l[1]'h0).toNat) h2;have e3:(val (l.take 1)+(l[1]'h0).toNat*4294967296)%18446744073709551616=val (l.take 1)+(l[1]'h0).toNat*4294967296:=Yu (by omega);have e4:val (l.take 1)+(l[1]'h0).toNat*4294967296=val (l.take (1+1)):=by rw[h1];omega
   simp at e4;have h0':(1:Int)<(l.length:Int):=by omega
   have e5:val (List.take 2 l)<18446744073709551616:=by omega
   simp[l73_0,h0,h0',e1,e2,e4,e5]
 ·right;have:i=l.length:=by omega
  subst this;rw[Yb (Yi _)];constructor<;>simp[l73_0]
end
section
variable{T:Tbl}[Zn T]
def zmo(a:List UInt32)(ha:a.length<=1000000):Zb T 73 [.sl (Za a) .an] =
  some (if val a<18446744073709551616 then .tup [u64 (val a),.b true] else .tup [u64 0,.b false]):=by
 have hta:=zbn (T:=T) a (by omega);have hla:=zac a;have hv:=zad (val a);rw[zaa Zn.h73 rfl,b73];generalize hl:ofN (val a)=l at *
 by_cases h:2<l.length
 ·have h2:¬ val a<18446744073709551616:=by
   intro h3;have:=zaj (show val a<4294967296^2 from h3);rw[hl]at this;omega
  have h3:(2:Int)<(l.length:Int):=by omega
  simp[hta,h3,h2]
 ·have h2:val a<18446744073709551616:=by
   have:=zay l;rw[hv]at this;have h3:4294967296^l.length<=4294967296^2:=Yt (by decide) (by omega);omega
  have h3:¬ (2:Int)<(l.length:Int):=by omega
  have hs:=zrw (T:=T) l (by omega) 0 (Y4 _);simp at hs;simp[hta,h3,h2,hs,hv]
end
section
def l89_0:AX:=
 (.note
 (.seq
 (.reg [rg 15 (.bin .lss (.t 14) (.t 13))])
 (.seq
 (.cond (.t 15)
 .skip
 (.exit 0))
 (.seq
 (.block 1
 (.seq
 (.reg [mv 16 14,rg 17 (.iad 1 (.t 12) (.t 14)),rg 18 (.load none (.t 17)),mv 10 16,mv 11 18])
 (.reg [mv 20 0,mv 21 1,mv 22 10,rg 23 (.bin .add (.t 21) (.t 22)),mv 24 3,mv 25 11,mv 26 0,mv 27 1,mv 28 10,rg 29 (.bin .add (.t 27) (.t 28)),rg 30 (.iad 1 (.t 26) (.t 29)),rg 31 (.load none (.t 30)),mv 32 4,rg 33 (.call 117 [(.t 24),(.t 25),(.t 31),(.t 32)]),mv 19 33,rg 34 (.ext (.t 19) 0),rg 35 (.ext (.t 19) 1),mv 4 34,rg 36 (.iad 1 (.t 20) (.t 23)),so (.store 1 (.t 36) (.t 35))])))
 (.reg [rg 37 (.bin .add (.t 14) (.c (.i .i64 1))),mv 14 37]))))
 (.norm false [0,1,2,3,4,12,13,14]))
def b89:AX:=
 (.seq
 (.seq
 (.reg [mv 12 2,rg 13 (.len (.t 12)),rg 14 (.mov (.c (.i .i64 0)))])
 (.lp 0 (.norm false [0,1,2,3,4,12,13,14]) l89_0 (.norm false [0,1,2,4])))
 (.reg [mv 38 0,mv 39 1,mv 40 2,rg 41 (.len (.t 40)),rg 42 (.bin .add (.t 39) (.t 41)),mv 43 4,rg 44 (.iad 1 (.t 38) (.t 42)),so (.store 1 (.t 44) (.t 43))]))
def b100:AX:=
 (.seq
 (.reg [rg 6 (.mov (.c (.sl [] .nl)))])
 (.seq
 (.reg [mv 8 0,rg 9 (.len (.t 8)),rg 10 (.bin .add (.t 9) (.c (.i .i64 1))),rg 11 (.mks 1 [(u32 0)] (.t 10) (.t 10)),mv 7 11])
 (.seq
 (.reg [mv 12 7,mv 13 0,mv 14 1,mv 15 2,rg 16 (.call 89 [(.t 12),(.c (.i .i64 0)),(.t 13),(.t 14),(.t 15)])])
 (.seq
 (.reg [mv 17 7,rg 18 (.call 71 [(.t 17)]),mv 6 18])
 (.pre (.norm false [6]) .ret)))))
def l60_0:AX:=
 (.note
 (.seq
 (.reg [rg 18 (.bin .lss (.t 17) (.t 16))])
 (.seq
 (.cond (.t 18)
 .skip
 (.exit 0))
 (.seq
 (.block 1
 (.seq
 (.reg [mv 19 17,rg 20 (.iad 1 (.t 15) (.t 17)),rg 21 (.load none (.t 20)),mv 6 19,mv 7 21])
 (.reg [mv 22 5,mv 23 6,mv 24 0,mv 25 7,rg 26 (.call 89 [(.t 22),(.t 23),(.t 24),(.t 25),(.c (u32 0))])])))
 (.reg [rg 27 (.bin .add (.t 17) (.c (.i .i64 1))),mv 17 27]))))
 (.norm false [0,5,15,16,17]))
def b60:AX:=
 (.seq
 (.reg [rg 4 (.mov (.c (.sl [] .nl)))])
 (.seq
 (.reg [mv 8 0,rg 9 (.len (.t 8)),mv 10 1,rg 11 (.len (.t 10)),rg 12 (.bin .add (.t 9) (.t 11)),rg 13 (.bin .add (.t 12) (.c (.i .i64 1))),rg 14 (.mks 1 [(u32 0)] (.t 13) (.t 13)),mv 5 14])
 (.seq
 (.seq
 (.reg [mv 15 1,rg 16 (.len (.t 15)),rg 17 (.mov (.c (.i .i64 0)))])
 (.lp 0 (.norm false [0,5,15,16,17]) l60_0 (.norm false [5])))
 (.seq
 (.reg [mv 28 5,rg 29 (.call 71 [(.t 28)]),mv 4 29])
 (.pre (.norm false [4]) .ret)))))
abbrev row89:AFx:=⟨5,45,[],b89,(some [true,false,false,false,false]),false⟩
abbrev row100:AFx:=⟨3,19,[.t 6],b100,none,false⟩
abbrev row60:AFx:=⟨2,30,[.t 4],b60,none,false⟩
class Zw (T:Tbl):Prop extends Zn T where
 h89:Tr T 89=some row89
 h100:Tr T 100=some row100
 h60:Tr T 60=some row60
attribute [simp] Zw.h89 Zw.h100 Zw.h60
end
section
def l92_0:AX:=
 (.note
 (.seq
 (.reg [rg 27 (.bin .lss (.t 26) (.t 25))])
 (.seq
 (.cond (.t 27)
 .skip
 (.exit 0))
 (.seq
 (.block 1
 (.seq
 (.reg [mv 28 26,rg 29 (.iad 1 (.t 24) (.t 26)),rg 30 (.load none (.t 29)),mv 8 28,mv 9 30])
 (.seq
 (.reg [mv 31 9,rg 32 (.conv .u64 (.t 31)),mv 33 6,rg 34 (.bin .shl (.t 32) (.t 33)),mv 10 34])
 (.seq
 (.reg [mv 35 7,mv 36 5,mv 37 8,rg 38 (.bin .add (.t 36) (.t 37)),rg 39 (.iad 1 (.t 35) (.t 38)),rg 40 (.load none (.t 39)),mv 41 10,rg 42 (.conv .u32 (.t 41)),rg 43 (.bin .or (.t 40) (.t 42)),rg 44 (.iad 1 (.t 35) (.t 38)),so (.store 1 (.t 44) (.t 43))])
 (.reg [mv 45 7,mv 46 5,mv 47 8,rg 48 (.bin .add (.t 46) (.t 47)),rg 49 (.bin .add (.t 48) (.c (.i .i64 1))),mv 50 10,rg 51 (.bin .shr (.t 50) (.c (u64 32))),rg 52 (.conv .u32 (.t 51)),rg 53 (.iad 1 (.t 45) (.t 49)),so (.store 1 (.t 53) (.t 52))])))))
 (.reg [rg 54 (.bin .add (.t 26) (.c (.i .i64 1))),mv 26 54]))))
 (.norm false [5,6,7,24,25,26]))
def b92:AX:=
 (.seq
 (.reg [rg 4 (.mov (.c (.sl [] .nl)))])
 (.seq
 (.reg [mv 11 1,rg 12 (.mm true [(.t 11),(.c (.i .i64 0))]),rg 13 (.mm false [(.t 12),(.c (.i .i64 4096))]),mv 1 13])
 (.seq
 (.reg [mv 14 1,rg 15 (.bin .quo (.t 14) (.c (.i .i64 32))),mv 16 1,rg 17 (.bin .rem (.t 16) (.c (.i .i64 32))),mv 5 15,mv 6 17])
 (.seq
 (.reg [mv 18 5,mv 19 0,rg 20 (.len (.t 19)),rg 21 (.bin .add (.t 18) (.t 20)),rg 22 (.bin .add (.t 21) (.c (.i .i64 1))),rg 23 (.mks 1 [(u32 0)] (.t 22) (.t 22)),mv 7 23])
 (.seq
 (.seq
 (.reg [mv 24 0,rg 25 (.len (.t 24)),rg 26 (.mov (.c (.i .i64 0)))])
 (.lp 0 (.norm false [5,6,7,24,25,26]) l92_0 (.norm false [7])))
 (.seq
 (.reg [mv 55 7,rg 56 (.call 71 [(.t 55)]),mv 4 56])
 (.pre (.norm false [4]) .ret)))))))
def l94_0:AX:=
 (.note
 (.seq
 (.reg [rg 28 (.bin .lss (.t 27) (.t 26))])
 (.seq
 (.cond (.t 28)
 .skip
 (.exit 0))
 (.seq
 (.block 1
 (.seq
 (.reg [mv 29 27,mv 8 29])
 (.seq
 (.reg [mv 30 0,mv 31 5,mv 32 8,rg 33 (.bin .add (.t 31) (.t 32)),rg 34 (.iad 1 (.t 30) (.t 33)),rg 35 (.load none (.t 34)),rg 36 (.conv .u64 (.t 35)),mv 9 36])
 (.seq
 (.seq
 (.reg [mv 37 5,mv 38 8,rg 39 (.bin .add (.t 37) (.t 38)),rg 40 (.bin .add (.t 39) (.c (.i .i64 1))),mv 41 0,rg 42 (.len (.t 41)),rg 43 (.bin .lss (.t 40) (.t 42))])
 (.cond (.t 43)
 (.reg [mv 44 9,mv 45 0,mv 46 5,mv 47 8,rg 48 (.bin .add (.t 46) (.t 47)),rg 49 (.bin .add (.t 48) (.c (.i .i64 1))),rg 50 (.iad 1 (.t 45) (.t 49)),rg 51 (.load none (.t 50)),rg 52 (.conv .u64 (.t 51)),rg 53 (.bin .shl (.t 52) (.c (u64 32))),rg 54 (.bin .or (.t 44) (.t 53)),mv 9 54])
 .skip))
 (.reg [mv 55 7,mv 56 8,mv 57 9,mv 58 6,rg 59 (.bin .shr (.t 57) (.t 58)),rg 60 (.conv .u32 (.t 59)),rg 61 (.iad 1 (.t 55) (.t 56)),so (.store 1 (.t 61) (.t 60))])))))
 (.reg [rg 62 (.bin .add (.t 27) (.c (.i .i64 1))),mv 27 62]))))
 (.norm false [0,5,6,7,26,27]))
def b94:AX:=
 (.seq
 (.reg [rg 4 (.mov (.c (.sl [] .nl)))])
 (.seq
 (.reg [mv 10 1,rg 11 (.mm true [(.t 10),(.c (.i .i64 0))]),mv 1 11])
 (.seq
 (.reg [mv 12 1,rg 13 (.bin .quo (.t 12) (.c (.i .i64 32))),mv 14 1,rg 15 (.bin .rem (.t 14) (.c (.i .i64 32))),mv 5 13,mv 6 15])
 (.seq
 (.seq
 (.reg [mv 16 5,mv 17 0,rg 18 (.len (.t 17)),rg 19 (.bin .geq (.t 16) (.t 18))])
 (.cond (.t 19)
 (.seq
 (.reg [rg 4 (.mov (.c (.sl [] .nl)))])
 (.pre (.norm false [4]) .ret))
 .skip))
 (.seq
 (.reg [mv 20 0,rg 21 (.len (.t 20)),mv 22 5,rg 23 (.bin .sub (.t 21) (.t 22)),rg 24 (.mks 1 [(u32 0)] (.t 23) (.t 23)),mv 7 24])
 (.seq
 (.seq
 (.reg [mv 25 7,rg 26 (.len (.t 25)),rg 27 (.mov (.c (.i .i64 0)))])
 (.lp 0 (.norm false [0,5,6,7,26,27]) l94_0 (.norm false [7])))
 (.seq
 (.reg [mv 63 7,rg 64 (.call 71 [(.t 63)]),mv 4 64])
 (.pre (.norm false [4]) .ret))))))))
abbrev row92:AFx:=⟨2,57,[.t 4],b92,none,false⟩
abbrev row94:AFx:=⟨2,65,[.t 4],b94,none,false⟩
class Zz (T:Tbl):Prop where
 h92:Tr T 92=some row92
 h94:Tr T 94=some row94
attribute [simp] Zz.h92 Zz.h94
end
end Go.Ab