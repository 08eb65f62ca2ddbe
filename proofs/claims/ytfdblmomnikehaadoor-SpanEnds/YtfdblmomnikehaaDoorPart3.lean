/-
  A calculus of values, boxes and code, and what functions of the program compute, proved in it.
  Conditions: none beyond those that the theorems state. (Part 3.)
-/
import Derived.Test.YtfdblmomnikehaaDoorPart2

set_option linter.unusedSectionVars false
set_option linter.unusedVariables false
set_option linter.unusedSimpArgs false
set_option linter.unnecessarySimpa false
set_option linter.defProp false
set_option maxRecDepth 100000

namespace Go.Ab
section
open Go.RowKit
theorem zgs(l:List AV)(j:Nat):(wkR l)[j]? = (l[j]?).map wkA:=by
 induction l generalizing j with
 | nil=>simp[wkR]
 | cons c l ih=>cases j<;>simp[wkR,ih]
theorem zgt(l:List AV):(wkR l).length=l.length:=by
 induction l with
 | nil=>rfl
 | cons c l ih=>simp[wkR,ih]
theorem zgu(l:List AV):wkR l=l.map wkA:=by
 induction l with
 | nil=>rfl
 | cons c l ih=>simp[wkR,ih]
theorem zcx(l:List (List AV)):wkL l=l.map wkR:=by
 induction l with
 | nil=>rfl
 | cons c l ih=>simp[wkL,ih]
theorem zrc(l:List (List AV))(j:Nat):(wkL l)[j]? = (l[j]?).map wkR:=by rw[zcx];simp
theorem zgv(l:List (List AV)):(wkL l).length=l.length:=by rw[zcx];simp
section
variable{w:World}{S:Nat->Nat->Prop}{M M':Map}{clk clk':Nat}
def CP.wk{v:Value}{x:AV}(h:CP w S v x):CP w S v (wkA x):=by
 induction h with
 | i k n=>exact .i k n
 | b x=>exact .b x
 | s l=>exact .s l
 | raw v=>exact .raw v
 | dead v=>exact .dead v
 | agg vs cs hl h1 _ ih=>
  refine .agg vs _ (by rw[zgt];omega) h1 fun j v c hv hc=>?_
  grind[zgs]
 | tup vs cs hl _ ih=>
  refine .tup vs _ (by rw[zgt];omega) fun j v c hv hc=>?_
  grind[zgs]
 | slnil f hf=>exact .slnil _ (.inr rfl)
 | slz a f hf=>exact .slz a _ (.inr rfl)
 | sl blk off z cap els f u hf hfull hcap hmax hz hSc _ ih=>
  rw[<-zgv els];refine .sl blk off z cap _ _ u (by grind) (by grind) (by rw[zgv];omega) hmax (fun i r hr=>?_) (fun i j hi hj=>hSc i j (by rw[zgv]at hi;omega) hj) fun i r j c hr hc=>?_
  ·grind[zrc,zgt]
  grind[zrc,zgs]
 | ep blk off cs o u hSc _ ih=>exact .ep blk off cs o u hSc ‹_›
 | fnv f v x _ ih=>exact .fnv f v _ ih
def C.wk{v:Value}{x:AV}(h:C w S M clk v x):C w S M clk v (wkA x):=by
 induction h with
 | p h=>exact .p h.wk
 | bs id g z off n v hg h h1=>exact .bs id g z off n v hg h h1
 | ptr id g z i o v hg h h1=>exact .ptr id g z i o v hg h h1
 | agg vs cs hl h1 _ ih=>
  refine .agg vs _ (by rw[zgt];omega) h1 fun j v c hv hc=>?_
  grind[zgs]
 | tup vs cs hl _ ih=>
  refine .tup vs _ (by rw[zgt];omega) fun j v c hv hc=>?_
  grind[zgs]
 | ifc t v x h _=>exact .ifc t v x h
 | fnp f id g z i o v hg h h1=>exact .fnp f id g z i o v hg h h1
theorem CP.wkIf{v:Value}{x:AV}(ex:Bool)(h:CP w S v x):CP w S v (wkIf ex x):=by
 unfold Go.Ab.wkIf;split
 ·exact h
 ·exact h.wk
theorem C.wkIf{v:Value}{x:AV}(ex:Bool)(h:C w S M clk v x):C w S M clk v (wkIf ex x):=by
 unfold Go.Ab.wkIf;split
 ·exact h
 ·exact h.wk
structure Rlb (M M':Map) (clk clk':Nat) (σ:Nat->Nat):Prop where
 fwd:∀g,g<clk->(M' (σ g)=M g\/M' (σ g)=none)/\σ g<clk'
theorem C.rlC{v:Value}{x:AV}{σn:BId->BId}{σg:Nat->Nat}(hr:Rlb M M' clk clk' σg)(h:C w S M clk v x):C w S M' clk' v (rlC σn σg x):=by
 cases h with
 | p h=>
  cases h with
  | i k n=>exact .p (.i k n)
  | b x=>exact .p (.b x)
  | s l=>exact .p (.s l)
  | raw v=>exact .p (.raw v)
  | dead v=>exact .p (.dead v)
  | agg=>exact .p (.dead _)
  | tup=>exact .p (.dead _)
  | slnil f hf=>exact .p (.slnil f hf)
  | slz a f hf=>exact .p (.slz a f hf)
  | sl blk off z cap els f u h1 h2 h3 h4 h5 h6 h7=>exact .p (.sl blk off z cap els f u h1 h2 h3 h4 h5 h6 h7)
  | ep blk off cs o u h1 h2=>exact .p (.ep blk off cs o u h1 h2)
  | fnv f v x h=>exact .p (.fnv f v x h)
 | bs id g z off n v hg h h1=>
  obtain⟨h2,h3⟩:=hr.fwd g hg;refine .bs _ _ _ _ _ _ h3 ?_ h1;rcases h2 with h2 | h2<;>rw[h2]
  ·exact h
  ·trivial
 | ptr id g z i o v hg h h1=>
  obtain⟨h2,h3⟩:=hr.fwd g hg;refine .ptr _ _ _ _ _ _ h3 ?_ h1;rcases h2 with h2 | h2<;>rw[h2]
  ·exact h
  ·trivial
 | fnp f id g z i o v hg h h1=>
  obtain⟨h2,h3⟩:=hr.fwd g hg;refine .fnp _ _ _ _ _ _ _ h3 ?_ h1;rcases h2 with h2 | h2<;>rw[h2]
  ·exact h
  ·trivial
 | agg vs cs=>exact .p (.dead _)
 | tup vs cs=>exact .p (.dead _)
 | ifc t v x=>exact .p (.dead _)
theorem getElem?_mapped{α β:Type}{l:List α}{f:α->β}{j:Nat}{y:β}(h:(l.map f)[j]? = some y):∃x,l[j]? = some x/\y=f x:=by
 grind
theorem C.rl1{v:Value}{x:AV}{σn:BId->BId}{σg:Nat->Nat}(hr:Rlb M M' clk clk' σg)(h:C w S M clk v x):C w S M' clk' v (rl1 σn σg x):=by
 cases x
 case agg cs=>
  obtain⟨vs,rfl,hl,h1,hc⟩:=h.inv_agg;refine .agg vs _ (by grind) h1 fun j v c hv hcj=>?_
  grind[rlC]
 all_goals exact h.rlC (σn:=σn) hr
def C.rlA{v:Value}{x:AV}{σn:BId->BId}{σg:Nat->Nat}(hr:Rlb M M' clk clk' σg)(h:C w S M clk v x):C w S M' clk' v (rlA σn σg x):=by
 cases x
 case tup cs=>
  obtain⟨vs,rfl,hl,hc⟩:=h.inv_tup;refine .tup vs _ (by grind) fun j v c hv hcj=>?_
  grind[rl1]
 all_goals exact h.rl1 (σn:=σn) hr
def Zat.rl{bx:Box}{ex:Bool}{σn:BId->BId}{σg:Nat->Nat}(hr:Rlb M M' clk clk' σg)(hM:M' (σg bx.gen)=M bx.gen)(h:Zat w S M clk bx):Zat w S M' clk' (Zw ex σn σg bx):=by
 obtain⟨h1,h2,m,hm,h3⟩:=h
 -- each row of the new box
 have row:∀(i:Nat) (r:List AV),(Zw ex σn σg bx).els[i]? = some r->∃r0,bx.els[i]? = some r0/\r.length=r0.length/\∀(j:Nat) c,r[j]? = some c->∃c0,r0[j]? = some c0 /\
   ((bx.kind=.str/\c=Go.Ab.rlC σn σg (wkIf ex c0))\/(bx.kind≠.str/\c=wkIf ex c0)):=by
  grind[Zw,getElem?_mapped,wkIf,zcx,zgu]
 have hlen:(Zw ex σn σg bx).els.length=bx.els.length:=by
  grind[Zw,zgv]
 refine⟨(hr.fwd _ h1).2,fun r hrm=>?_,m,by rw[<-hm];exact hM,?_⟩
 ·obtain⟨i,hi⟩:=Y1 hrm;obtain⟨r0,h4,h5,_⟩:=row i r hi;rw[h5];exact h2 r0 (Yd h4)
 ·cases m with
  | none=>
   grind[Zw]
  | some k=>
   have hkk:(Zw ex σn σg bx).kind=bx.kind:=rfl;by_cases hmp:bx.kind=.mp
   ·obtain⟨es,c,h4,h5,h7⟩:=ckP' hmp h3;refine ckP (hkk.trans hmp) ⟨es,c,h4,?_,h7⟩;have hels:(Zw ex σn σg bx).els=if ex then bx.els else wkL bx.els:=by simp[Zw,hmp]
    rw[hels];cases ex with
    | true=>simpa using h5
    | false=>
     have h8:=Zcx.map (f:=wkA) (fun v x hv=>CP.wk hv) h5;simp only[Yal,if_false,zcx]
     rwa [show wkR=fun r:List AV=>r.map wkA from funext zgu]
   obtain⟨arr,e,h4,h5,h6,h7,h8⟩:=ck' hmp h3;refine ck (by rw[hkk];exact hmp) ⟨arr,e,h4,by rw[hlen];exact h5,fun i r j c hi hj=>?_,h7,by rw[hlen];exact h8⟩;obtain⟨r0,h9,h10,h11⟩:=row i r hi;obtain⟨c0,h12,h13⟩:=h11 j c hj;obtain⟨u,hu,ho,hC,hP⟩:=h6 i r0 j c0 h9 h12;refine⟨u,hu,ho,?_,fun hk=>?_⟩
   ·rcases h13 with ⟨hk,rfl⟩ | ⟨hk,rfl⟩
    ·exact(hC.wkIf ex).rlC hr
    ·exact .p ((hP hk).wkIf ex)
   ·rcases h13 with ⟨hk',rfl⟩ | ⟨hk',rfl⟩
    ·exact absurd hk' hk
    ·exact(hP hk).wkIf ex
def HeapRel.rl{h h2:Heap}{ex:Bool}{σn:BId->BId}{σg:Nat->Nat}{D:Nat->Prop}(hr:Rlb M M' clk clk' σg)(hh:HeapRel w S M clk h)
  (h1:∀b' bx',h2.lookup b'=some bx'->∃b bx,h.lookup b=some bx/\bx'=Zw ex σn σg bx/\M' (σg bx.gen)=M bx.gen/\b'=σn b/\D bx.gen)
  (h3:∀g' m,M' g'=some m->∃b' bx',h2.lookup b'=some bx'/\bx'.gen=g')
  (h4:∀g1 g2,D g1->D g2->σg g1=σg g2->g1=g2)
  (h5:∀g' m,M' g'=some m->∃g,M g=some m/\σg g=g'):HeapRel w S M' clk' h2:=by
 refine⟨fun b' bx' hb=>?_,h3,fun b1 x1 b2 x2 hb1 hb2 hg=>?_,fun g g' k hg hg'=>?_⟩
 ·obtain⟨b,bx,h6,rfl,h7,_⟩:=h1 b' bx' hb;exact(hh.box b bx h6).rl hr h7
 ·obtain⟨c1,y1,h6,rfl,_,rfl,d1⟩:=h1 b1 x1 hb1;obtain⟨c2,y2,h8,rfl,_,rfl,d2⟩:=h1 b2 x2 hb2;rw[hh.gens _ _ _ _ h6 h8 (h4 _ _ d1 d2 hg)]
 ·obtain⟨g1,h6,rfl⟩:=h5 _ _ hg;obtain⟨g2,h7,rfl⟩:=h5 _ _ hg';rw[hh.inj _ _ _ h6 h7]
def WRel.rl{cx:Cx}{h h2:Heap}{ex:Bool}{σn:BId->BId}{σg:Nat->Nat}{D:Nat->Prop}(hr:Rlb M M' clk clk' σg)(hw:WRel cx S M clk h w)(hc:cx.clk0<=clk')
  (h0:∀g m,g<cx.clk0->M' g=some m->M g=some m)
  (h1:∀b' bx',h2.lookup b'=some bx'->∃b bx,h.lookup b=some bx/\bx'=Zw ex σn σg bx/\M' (σg bx.gen)=M bx.gen/\b'=σn b/\D bx.gen)
  (h3:∀g' m,M' g'=some m->∃b' bx',h2.lookup b'=some bx'/\bx'.gen=g')
  (h4:∀g1 g2,D g1->D g2->σg g1=σg g2->g1=g2)
  (h5:∀g' m,M' g'=some m->∃g,M g=some m/\σg g=g'):WRel cx S M' clk' h2 w:=
 ⟨hw.heap.rl hr h1 h3 h4 h5,⟨hw.ext.hS,hw.ext.hcell,hc,fun g m hg hm=>hw.ext.hM g m hg (h0 g m hg hm),fun g k arr e hg hm hb=>hw.ext.hblk g k arr e hg (h0 g _ hg hm) hb⟩,hw.fr,hw.Snew,hw.Slt,
  fun g k hm=>let ⟨g1,h6,_⟩:=h5 g _ hm;hw.Mnew g1 k h6⟩
end
end
section
open Go.RowKit
section
variable{α β:Type}{P:Program}{K:St->Prop}
@[simp] def z3n(t d:Nat)(x:AV)(e:Env):Env.get ((d,x)::e) t=if t=d then x else e.get t:=by
 simp only[Env.get,Yak];by_cases h:t=d
 ·subst h;simp
 ·have:(t == d)=false:=by simpa using h
  simp[this,h]
@[simp] def z6s(t:Nat):Env.get [] t=.dead:=rfl
@[simp] def z3o{st:St}:Zcb P [] st K↔K st:=Iff.rfl
@[simp] def z0h{o:AO}{l:List AO}{st:St}:Zcb P (o::l) st K↔Zfk P o st fun st'=>Zcb P l st' K:=Iff.rfl
@[simp] def zym{d:Option Nat}{op:AOp}{st:St}:Zfk P ⟨d,none,op⟩ st K↔opK P op d st K:=Iff.rfl
@[simp] def z0i(e:Env)(x:AV):Zd e none x=e:=rfl
@[simp] def z0j(e:Env)(d:Nat)(x:AV):Zd e (some d) x=(d,x)::e:=rfl
@[simp] def ev_t(e:Nat->AV)(n:Nat):ev e (.t n)=e n:=rfl
@[simp] def ev_c(e:Nat->AV)(x:AV):ev e (.c x)=x:=rfl
@[simp] def zvp{N:St->Prop}{Q:Exit->St->Prop}{st:St}:Zgl N Q .normal st↔N st:=Iff.rfl
@[simp] def zyn{N:St->Prop}{Q:Exit->St->Prop}{st:St}{id:Nat}:Zgl N Q (.exit id) st↔Q (.exit id) st:=Iff.rfl
@[simp] def z0k{N:St->Prop}{Q:Exit->St->Prop}{st:St}:Zgl N Q .ret st↔Q .ret st:=Iff.rfl
@[simp] def zt1{id:Nat}{Q:Exit->St->Prop}{st:St}:Zc1 id Q .normal st↔Q .normal st:=Iff.rfl
@[simp] def zyo{id:Nat}{Q:Exit->St->Prop}{st:St}:Zc1 id Q .ret st↔Q .ret st:=Iff.rfl
@[simp] def zwp{id id':Nat}{Q:Exit->St->Prop}{st:St}:Zc1 id Q (.exit id') st↔if id'=id then Q .normal st else Q (.exit id') st:=Iff.rfl
def gK(P:Program)(x:AV)(want:Bool)(op:AOp)(d:Option Nat)(st:St)(K:St->Prop):Prop:=
 match x with
 | .b v=>if v=want then opK P op d st K else K ⟨Zd st.env d (.tup []),st.heap,st.clk⟩
 | .tup _=>K ⟨Zd st.env d (.tup []),st.heap,st.clk⟩
 | _=>False
@[simp] def zyp{d:Option Nat}{op:AOp}{t:Nat}{want:Bool}{st:St}:Zfk P ⟨d,some (t,want),op⟩ st K↔gK P (st.env.get t) want op d st K:=by
 rfl
@[simp] def gK_b{v want:Bool}{op:AOp}{d:Option Nat}{st:St}:gK P (.b v) want op d st K↔if v=want then opK P op d st K else K ⟨Zd st.env d (.tup []),st.heap,st.clk⟩:=Iff.rfl
@[simp] def zabw{vs:List AV}{want:Bool}{op:AOp}{d:Option Nat}{st:St}:gK P (.tup vs) want op d st K↔K ⟨Zd st.env d (.tup []),st.heap,st.clk⟩:=Iff.rfl
@[simp] def z6t{z n:Nat}{zs:List AV}{ps:List (Nat×Opd)}{d:Option Nat}{st:St}:opK P (.bsl z zs n ps) d st K↔okK (Zcn z zs n st.heap (ps.map fun p=>(p.1,ev st.env.get p.2))) fun q=>K ⟨Zd st.env d q.1,q.2,st.clk⟩:=Iff.rfl
@[simp] def z6u{x}{d:Option Nat}{st:St}:opK P (.mov x) d st K↔okK (Zg (.mov x) st.env.get st.heap) fun x=>K ⟨Zd st.env d x,st.heap,st.clk⟩:=Iff.rfl
@[simp] def z3p{c a b}{d:Option Nat}{st:St}:opK P (.pick c a b) d st K↔okK (Zg (.pick c a b) st.env.get st.heap) fun x=>K ⟨Zd st.env d x,st.heap,st.clk⟩:=Iff.rfl
@[simp] def z0l{zs ps}{d:Option Nat}{st:St}:opK P (.build zs ps) d st K↔okK (Zg (.build zs ps) st.env.get st.heap) fun x=>K ⟨Zd st.env d x,st.heap,st.clk⟩:=Iff.rfl
@[simp] def z3q{n x}{d:Option Nat}{st:St}:opK P (.load n x) d st K↔okK (Zg (.load n x) st.env.get st.heap) fun x=>K ⟨Zd st.env d x,st.heap,st.clk⟩:=Iff.rfl
@[simp] def z6v{o x y}{d:Option Nat}{st:St}:opK P (.bin o x y) d st K↔okK (Zg (.bin o x y) st.env.get st.heap) fun x=>K ⟨Zd st.env d x,st.heap,st.clk⟩:=Iff.rfl
@[simp] def z6w{g ls x y}{d:Option Nat}{st:St}:opK P (.eqs g ls x y) d st K↔okK (Zg (.eqs g ls x y) st.env.get st.heap) fun x=>K ⟨Zd st.env d x,st.heap,st.clk⟩:=Iff.rfl
@[simp] def z0m{g x}{d:Option Nat}{st:St}:opK P (.eqnil g x) d st K↔okK (Zg (.eqnil g x) st.env.get st.heap) fun x=>K ⟨Zd st.env d x,st.heap,st.clk⟩:=Iff.rfl
@[simp] def z6x{g x y}{d:Option Nat}{st:St}:opK P (.eqb g x y) d st K↔okK (Zg (.eqb g x y) st.env.get st.heap) fun x=>K ⟨Zd st.env d x,st.heap,st.clk⟩:=Iff.rfl
@[simp] def zabx{o x}{d:Option Nat}{st:St}:opK P (.un o x) d st K↔okK (Zg (.un o x) st.env.get st.heap) fun x=>K ⟨Zd st.env d x,st.heap,st.clk⟩:=Iff.rfl
@[simp] def z3r{k x}{d:Option Nat}{st:St}:opK P (.conv k x) d st K↔okK (Zg (.conv k x) st.env.get st.heap) fun x=>K ⟨Zd st.env d x,st.heap,st.clk⟩:=Iff.rfl
@[simp] def z6y{z x lo hi mx}{d:Option Nat}{st:St}:opK P (.slc z x lo hi mx) d st K↔okK (Zg (.slc z x lo hi mx) st.env.get st.heap) fun x=>K ⟨Zd st.env d x,st.heap,st.clk⟩:=Iff.rfl
@[simp] def z0n{x lo hi}{d:Option Nat}{st:St}:opK P (.slstr x lo hi) d st K↔okK (Zg (.slstr x lo hi) st.env.get st.heap) fun x=>K ⟨Zd st.env d x,st.heap,st.clk⟩:=Iff.rfl
@[simp] def z6z{n x}{d:Option Nat}{st:St}:opK P (.fad n x) d st K↔okK (Zg (.fad n x) st.env.get st.heap) fun x=>K ⟨Zd st.env d x,st.heap,st.clk⟩:=Iff.rfl
@[simp] def z60{o n x}{d:Option Nat}{st:St}:opK P (.fld o n x) d st K↔okK (Zg (.fld o n x) st.env.get st.heap) fun x=>K ⟨Zd st.env d x,st.heap,st.clk⟩:=Iff.rfl
@[simp] def z61{z x i}{d:Option Nat}{st:St}:opK P (.iad z x i) d st K↔okK (Zg (.iad z x i) st.env.get st.heap) fun x=>K ⟨Zd st.env d x,st.heap,st.clk⟩:=Iff.rfl
@[simp] def z62{z n x i}{d:Option Nat}{st:St}:opK P (.iaa z n x i) d st K↔okK (Zg (.iaa z n x i) st.env.get st.heap) fun x=>K ⟨Zd st.env d x,st.heap,st.clk⟩:=Iff.rfl
@[simp] def z63{x i}{d:Option Nat}{st:St}:opK P (.ixs x i) d st K↔okK (Zg (.ixs x i) st.env.get st.heap) fun x=>K ⟨Zd st.env d x,st.heap,st.clk⟩:=Iff.rfl
@[simp] def z64{z l n x i}{d:Option Nat}{st:St}:opK P (.ixa z l n x i) d st K↔okK (Zg (.ixa z l n x i) st.env.get st.heap) fun x=>K ⟨Zd st.env d x,st.heap,st.clk⟩:=Iff.rfl
@[simp] def z65{x}{d:Option Nat}{st:St}:opK P (.len x) d st K↔okK (Zg (.len x) st.env.get st.heap) fun x=>K ⟨Zd st.env d x,st.heap,st.clk⟩:=Iff.rfl
@[simp] def z3s{x}{d:Option Nat}{st:St}:opK P (.lens x) d st K↔okK (Zg (.lens x) st.env.get st.heap) fun x=>K ⟨Zd st.env d x,st.heap,st.clk⟩:=Iff.rfl
@[simp] def z3t{n}{d:Option Nat}{st:St}:opK P (.lenc n) d st K↔okK (Zg (.lenc n) st.env.get st.heap) fun x=>K ⟨Zd st.env d x,st.heap,st.clk⟩:=Iff.rfl
@[simp] def zaby{m xs}{d:Option Nat}{st:St}:opK P (.mm m xs) d st K↔okK (Zg (.mm m xs) st.env.get st.heap) fun x=>K ⟨Zd st.env d x,st.heap,st.clk⟩:=Iff.rfl
@[simp] def z66{x n}{d:Option Nat}{st:St}:opK P (.ext x n) d st K↔okK (Zg (.ext x n) st.env.get st.heap) fun x=>K ⟨Zd st.env d x,st.heap,st.clk⟩:=Iff.rfl
@[simp] def z3u{x}{d:Option Nat}{st:St}:opK P (.nilc x) d st K↔okK (Zg (.nilc x) st.env.get st.heap) fun x=>K ⟨Zd st.env d x,st.heap,st.clk⟩:=Iff.rfl
@[simp] def z0o{zs}{d:Option Nat}{st:St}:opK P (.alloc zs) d st K↔okK (stepW (.alloc zs) d st.env.get st.heap st.clk) fun q=>K ⟨Zd st.env d q.1,q.2.1,q.2.2⟩:=Iff.rfl
@[simp] def z0p{n x v}{d:Option Nat}{st:St}:opK P (.store n x v) d st K↔okK (stepW (.store n x v) d st.env.get st.heap st.clk) fun q=>K ⟨Zd st.env d q.1,q.2.1,q.2.2⟩:=Iff.rfl
@[simp] def z67{z zs l c}{d:Option Nat}{st:St}:opK P (.mks z zs l c) d st K↔okK (stepW (.mks z zs l c) d st.env.get st.heap st.clk) fun q=>K ⟨Zd st.env d q.1,q.2.1,q.2.2⟩:=Iff.rfl
@[simp] def z68{z x y}{d:Option Nat}{st:St}:opK P (.app z x y) d st K↔okK (stepW (.app z x y) d st.env.get st.heap st.clk) fun q=>K ⟨Zd st.env d q.1,q.2.1,q.2.2⟩:=Iff.rfl
@[simp] def z3v(k:IntKind)(n:Int):Ze9 .neg (.i k n)=some (.i k (k.wrap (0-n))):=rfl
@[simp] def z3w(t:Bool):Ze9 .not (.b t)=some (.b (!t)):=rfl
attribute [simp] Zg stepW Ze8 Zfd Zeh Zhy mmL mm2 Zfy Zfu Zdh Zdu Zfb Zdt Zfa Zfv Zc9 Zer Zft eqL evO Zji Zbp resV Zbu Zcn Zfi Zfz Zn Zgj Zf3 rowOf Zg0
@[simp] def zm5{k:IntKind}{a b:Int}:Z1 .add (.i k a) (.i k b)=some (.i k (k.wrap (a+b))):=by simp[Z1,Zd4]
@[simp] def zt3{k:IntKind}{a b:Int}:Z1 .sub (.i k a) (.i k b)=some (.i k (k.wrap (a-b))):=by simp[Z1,Zd4]
@[simp] def zt4{k:IntKind}{a b:Int}:Z1 .mul (.i k a) (.i k b)=some (.i k (k.wrap (a*b))):=by simp[Z1,Zd4]
@[simp] def zm6{k:IntKind}{a b:Int}:Z1 .quo (.i k a) (.i k b)=if b=0 then none else some (.i k (k.wrap (a.tdiv b))):=by simp[Z1,Zd4]
@[simp] def zm7{k:IntKind}{a b:Int}:Z1 .rem (.i k a) (.i k b)=if b=0 then none else some (.i k (a.tmod b)):=by simp[Z1,Zd4]
@[simp] def zm8{k:IntKind}{a b:Int}:Z1 .eql (.i k a) (.i k b)=some (.b (a == b)):=by simp[Z1,Zd4]
@[simp] def zm9{k:IntKind}{a b:Int}:Z1 .neq (.i k a) (.i k b)=some (.b (a != b)):=by simp[Z1,Zd4]
@[simp] def zna{k:IntKind}{a b:Int}:Z1 .lss (.i k a) (.i k b)=some (.b (a<b)):=by simp[Z1,Zd4]
@[simp] def zt5{k:IntKind}{a b:Int}:Z1 .leq (.i k a) (.i k b)=some (.b (a<=b)):=by simp[Z1,Zd4]
@[simp] def zt6{k:IntKind}{a b:Int}:Z1 .gtr (.i k a) (.i k b)=some (.b (a > b)):=by simp[Z1,Zd4]
@[simp] def zt7{k:IntKind}{a b:Int}:Z1 .geq (.i k a) (.i k b)=some (.b (a>=b)):=by simp[Z1,Zd4]
@[simp] def z0q{a b:List UInt8}:Z1 .eql (.s a) (.s b)=some (.b (a == b)):=by simp[Z1,Zhx]
@[simp] def z0r{a b:List UInt8}:Z1 .add (.s a) (.s b)=if a.length+b.length<=9223372036854775807 then some (.s (a++b)) else none:=by simp[Z1,Zhx]
def zac(n:Int)(h:-9223372036854775808<=n/\n<9223372036854775808):IntKind.wrap .i64 n=n:=by
 simp[IntKind.wrap,IntKind.signed,IntKind.bits]<;>(omega)<;>omega
end
end
section
open Go.RowKit
section
variable{cx:Cx}{Q:Exit->St->Prop}{st:St}{c:AC}{P:Program}{K:St->Prop}
@[simp] def zyq{β:Type}(b b':BId)(x:β)(l:List (BId×β)):List.lookup b ((b',x)::l)=if b=b' then some x else List.lookup b l:=by
 grind
attribute [simp] Zdp Zak Zdj Zeu Zjh
attribute [simp] AOp.writes AOp.free Zes Zdm
@[simp] def zael(k:IntKind)(n y:Int):bnd (.i k n) y=if 0<=n/\n<=y then some n.toNat else none:=rfl
def WRel.sub{S:Nat->Nat->Prop}{M:Map}{st st':St}{w:World}(hs:Sub st st')(hr:WRel cx S M st.clk st.heap w):∃Mb,WRel cx S Mb st'.clk st'.heap w/\Ext w S M st.clk w S Mb st'.clk:=by
 classical
 generalize hMb:(fun g=>if Live st'.heap g then M g else none:Map)=Mb;have hMb1:∀g m,Mb g=some m->Live st'.heap g/\M g=some m:=by
  grind
 have hMb2:∀g,Live st'.heap g->Mb g=M g:=by grind
 have hx:Ext w S M st.clk w S Mb st'.clk:=⟨fun _ _ hs=>hs,fun _ _ _ _ hc=>hc,hs.clk,fun g m _ hm=>(hMb1 g m hm).2,fun _ _ arr _ _ _ hb=>⟨arr,hb,rfl⟩⟩;refine⟨Mb,⟨⟨fun b bx hb=>?_,fun g m hm=>(hMb1 g m hm).1,fun b bx b' bx' h1 h2 hg=>?_,fun g g' k h1 h2=>hr.heap.inj _ _ _ (hMb1 _ _ h1).2 (hMb1 _ _ h2).2⟩,hr.ext.trans hx,hr.fr,hr.Snew,hr.Slt,fun g k hm=>hr.Mnew g k (hMb1 _ _ hm).2⟩,hx⟩
 ·obtain⟨bx0,h0,h1⟩:=hs.heap b bx hb;have hl:Live st'.heap bx.gen:=⟨b,bx,hb,rfl⟩;have hbox:=hr.heap.box b bx0 h0;rcases h1 with rfl | ⟨hk,rfl⟩
  ·exact hbox.mono hx (hMb2 _ hl) (fun _ _=>rfl) fun _ _ _ hs=>hs
  ·obtain⟨b1,b2,m,hm,b3⟩:=hbox.mono hx (hMb2 bx0.gen hl) (fun _ _=>rfl) fun _ _ _ hs=>hs;refine⟨b1,b2,m,hm,?_⟩;cases m with
   | none=>exact⟨b3.1,by simp,by simp⟩
   | some k=>
    obtain⟨arr,e,c1,c2,c3,c4,c5⟩:=ck' hk.2 b3;exact ck (by simp) ⟨arr,e,c1,c2,fun i r j c hi hj=>let ⟨u,d1,d2,d3,d4⟩:=c3 i r j c hi hj;⟨u,d1,d2,d3,fun _=>d4 hk.1⟩,fun hne=>absurd rfl hne,c5⟩
 ·obtain⟨bx0,h3,h4⟩:=hs.heap b bx h1;obtain⟨bx0',h5,h6⟩:=hs.heap b' bx' h2;have e1:bx.gen=bx0.gen:=by grind
  have e2:bx'.gen=bx0'.gen:=by grind
  exact hr.heap.gens _ _ _ _ h3 h5 (by rw[<-e1,<-e2,hg])
def Zma(rs:List RV)(post:AV->Heap->Nat->Prop):Exit->St->Prop:=
 fun ex st=>(ex=.normal\/ex=.ret)/\∃r,Zbp st rs=some r/\∃h' c',Sub ⟨[],st.heap,st.clk⟩ ⟨[],h',c'⟩/\post r h' c'
end
end
section
open Go.RowKit
theorem zc2:∀(l:Heap) (g j:Nat),j<=Zbd l g j/\Zbd l g j<=j+l.length
 | [],g,j=>by simp[Zbd]
 | p::l,g,j=>by
  have:=zc2 l g (j+1);simp only[Zbd,Yl];split<;>omega
theorem zfw:∀(l:Heap) (g j:Nat),(∃p∈l,p.2.gen=g)->Zbd l g j<j+l.length
 | [],g,j,h=>by grind
 | p::l,g,j,h=>by
  simp only[Zbd,Yl];split
  ·omega
  ·obtain⟨q,hq,he⟩:=h;have hq':q∈l:=by
    grind
   have:=zfw l g (j+1) ⟨q,hq',he⟩;omega
theorem zi0:∀(l:Heap) (g j:Nat),(¬ ∃p∈l,p.2.gen=g)->Zbd l g j=j+l.length
 | [],g,j,h=>by simp[Zbd]
 | p::l,g,j,h=>by
  simp only[Zbd,Yl];rw[if_neg (fun he=>h ⟨p,Yp,he⟩),zi0 l g (j+1) fun⟨q,hq,he⟩=>h ⟨q,Yh _ hq,he⟩];omega
theorem zgw:∀(l:Heap) (g g' j:Nat),(∃p∈l,p.2.gen=g)->(∃p∈l,p.2.gen=g')->Zbd l g j=Zbd l g' j->g=g'
 | [],g,g',j,h,_,_=>by obtain⟨p,hp,_⟩:=h;simp at hp
 | p::l,g,g',j,h,h',he=>by
  simp only[Zbd]at he;have low:=zc2 l g (j+1);have low':=zc2 l g' (j+1);split at he<;>split at he
  ·rename_i h1 h2;rw[<-h1,<-h2]
  ·omega
  ·omega
  ·rename_i h1 h2;have tl:∀g,p.2.gen≠g->(∃q∈p::l,q.2.gen=g)->∃q∈l,q.2.gen=g:=by
    intro g hne ⟨q,hq,he⟩;rcases Yv.1 hq with rfl | h
    ·exact absurd he hne
    ·exact⟨q,h,he⟩
   exact zgw l g g' (j+1) (tl g h1 h) (tl g' h2 h') he
def zey{h:Heap}{ids:List BId}{p:BId×Box}(hp:p∈Zcs h ids):h.lookup p.1=some p.2:=by
 obtain⟨b,_,h2⟩:=List.mem_filterMap.1 hp;cases hb:h.lookup b with
 | none=>grind
 | some bx=>grind
def zax{β γ:Type}[BEq β][LawfulBEq β]:∀(l:List (β×γ)) (b:β) (x:γ),l.lookup b=some x->(b,x)∈l:=by
 intro l b x h
 induction l with
 | nil=>cases h
 | cons p l ih=>
  grind
def zfe{γ:Type}:∀(l:List (BId×γ)) (p:BId×γ),p∈l->∃x,l.lookup p.1=some x:=by
 intro l p h
 induction l with
 | nil=>cases h
 | cons q l ih=>
  obtain⟨q1,q2⟩:=q;by_cases hb:p.1=q1
  ·simp_all
  grind
def zkl{h:Heap}{ids:List BId}{p:BId×Box}(hp:p∈Zcs h ids):(Zcs h ids).lookup p.1=some p.2:=by
 obtain⟨x,hx⟩:=zfe _ _ hp;have h1:=zey (zax _ _ _ hx);rw[zey hp]at h1
 grind
def zl9(live:List Nat)(f:Nat->AV)(t:Nat):(live.map fun t=>(t,f t)).lookup t=if t∈live then some (f t) else none:=by
 induction live with
 | nil=>simp
 | cons s l ih=>
  grind
section
variable{cx:Cx}{st:St}{a:Act}{w:World}
def znh{k:Nat}{hp:Heap}{g g':Nat}(h:∃p∈hp,p.2.gen=g)(h':∃p∈hp,p.2.gen=g')(he:Zbm k hp g=Zbm k hp g'):g=g':=by
 grind[Zbm,zc2,zgw]
def Rel.norm{ex:Bool}{k:Nat}{live:List Nat}(hk:cx.clk0=k+1)(hr:Rel cx st a w):Rel cx (Zbw ex k live st) a w:=by
 obtain⟨S,M,hr⟩:=hr;generalize hids:Zeb st.heap 40 (Zi6 k++(live.map fun t=>(t,st.env.get t)).flatMap fun p=>rfA p.2) []=ids;generalize hhp:Zcs st.heap ids=hp;have hn:Zbw ex k live st=⟨(live.map fun t=>(t,st.env.get t)).map fun p=>(p.1,rlA id (Zbm k hp) (wkIf ex p.2)),hp.map fun p=>(p.1,Zw ex id (Zbm k hp) p.2),k+hp.length+2⟩:=by
  rw[<-hhp,<-hids];rfl
 have hlk:∀b bx,hp.lookup b=some bx->st.heap.lookup b=some bx:=by
  intro b bx hb;have:=zax _ _ _ hb;rw[<-hhp]at this;exact zey this
 have hml:∀p∈hp,hp.lookup p.1=some p.2:=by
  intro p hm;rw[<-hhp]at hm ⊢;exact zkl hm
 classical
 generalize hM':(fun g'=>if h:∃g,(∃p∈hp,p.2.gen=g)/\Zbm k hp g=g' then M (Classical.choose h) else none:Map)=M';have hM1:∀g,(∃p∈hp,p.2.gen=g)->M' (Zbm k hp g)=M g:=by
  intro g hg;rw[<-hM'];have h:∃g0,(∃p∈hp,p.2.gen=g0)/\Zbm k hp g0=Zbm k hp g:=⟨g,hg,rfl⟩;simp only[dif_pos h];rw[znh (Classical.choose_spec h).1 hg (Classical.choose_spec h).2]
 have hM2:∀g' m,M' g'=some m->∃g,(∃p∈hp,p.2.gen=g)/\Zbm k hp g=g'/\M g=some m:=by
  grind
 have hrl:Rlb M M' st.clk (k+hp.length+2) (Zbm k hp):=by
  refine⟨fun g hg=>⟨?_,?_⟩⟩
  ·by_cases hin:∃p∈hp,p.2.gen=g
   ·grind
   ·right;cases hm:M' (Zbm k hp g) with
    | none=>rfl
    | some m=>
     obtain⟨g1,h1,h2,_⟩:=hM2 _ _ hm;have hlt:=zfw hp g1 (k+1) h1
     grind[zi0,zc2,Zbm]
  grind[zc2,Zbm]
 have hw:=hr.wr;refine⟨S,M',?_⟩;rw[hn];refine⟨hr.size,hr.defers,fun t=>?_,?_⟩
 ·rw[Ybx];have e1:Env.get (live.map fun t=>(t,rlA id (Zbm k hp) (wkIf ex (st.env.get t)))) t=(if t∈live then some (rlA id (Zbm k hp) (wkIf ex (st.env.get t))) else none).getD .dead:=by
   rw[<-zl9 live (fun t=>rlA id (Zbm k hp) (wkIf ex (st.env.get t)))];rfl
  show C w S M' _ _ (Env.get (live.map fun t=>(t,rlA id (Zbm k hp) (wkIf ex (st.env.get t)))) t);rw[e1];split
  ·exact((hr.env t).wkIf ex).rlA hrl
  ·exact .p (.dead _)
 ·refine hw.rl (ex:=ex) (σn:=id) (σg:=Zbm k hp) (D:=fun g=>∃p∈hp,p.2.gen=g) hrl (by grind) (fun g m hg hm=>?_) (fun b' bx' hb=>?_) (fun g' m hm=>?_) (fun g1 g2 hd1 hd2 hg=>?_) (fun g' m hm=>?_)
  ·grind[zc2,Zbm]
  ·rw[zd2 (fun _ bx=>Zw ex id (Zbm k hp) bx) b' hp]at hb;obtain⟨bx,h1,rfl⟩:=map_some hb;exact⟨b',bx,hlk _ _ h1,rfl,hM1 _ ⟨_,zax _ _ _ h1,rfl⟩,rfl,⟨_,zax _ _ _ h1,rfl⟩⟩
  ·obtain⟨g1,⟨p,h1,h1'⟩,h2,h3⟩:=hM2 _ _ hm;refine⟨p.1,Zw ex id (Zbm k hp) p.2,?_,by show Zbm k hp p.2.gen=g';grind⟩;rw[zd2 (fun _ bx=>Zw ex id (Zbm k hp) bx) p.1 hp,hml p h1]
   rfl
  ·exact znh hd1 hd2 hg
  grind
def Rel.nil(t:Nat)(id:BId)(z:Nat)(hx:st.env.get t=.sl [] .nl)(hr0:Rel cx st a w):Rel cx ⟨(t,.bs id st.clk z 0 0)::st.env,(id,⟨st.clk,.own,z,[]⟩)::st.heap,st.clk+1⟩ a w:=by
 obtain⟨S,M,hr⟩:=hr0;refine⟨S,Zbl M ((id,⟨st.clk,.own,z,[]⟩)::st.heap) st.clk none,?_⟩;have h1:=hr.set (id:=id) (bx':=⟨st.clk,.own,z,[]⟩) (k':=none) (touched:=none) (clk':=st.clk+1) (Ya2 _) (.inl rfl) (fun hlt=>absurd hlt (Yav _)) (Touch.of_below (Below.refl _ _)) (fun k hk=>by grind)
  ⟨Yt _,fun r hr=>by grind,none,zak _ _ _ _,rfl,by simp⟩
 refine⟨h1.size,h1.defers,fun t'=>?_,h1.wr⟩;have e1:Env.get ((t,AV.bs id st.clk z 0 0)::st.env)=upd st.env.get (some t) (.bs id st.clk z 0 0):=zbk st.env (some t) _;rw[e1];simp only[upd];split
 ·rename_i ht;subst ht;have hv:=hr.env t';rw[hx]at hv;have hv2:a.tmps.getD t' undef=.slice none 0 0:=by
   rcases hv.inv_sl.inv_sl with ⟨_,b0,hv,_,hb2⟩ | ⟨_,_,_,_,_,_,hf,_⟩
   all_goals grind
  rw[hv2];refine .bs _ _ _ _ _ _ (Yt _) ?_ rfl
  grind[Zd3,zak]
 ·exact h1.env t'
def Rel.shr(t:Nat){y:AV}(hy:frz st.heap (st.env.get t)=some y)(hr0:Rel cx st a w):Rel cx ⟨st.env,Zn (refs (st.env.get t)) st.heap,st.clk⟩ a w:=by
 obtain⟨S,M,hr⟩:=hr0;exact⟨_,M,hr.share (refs (st.env.get t)) (zc1 hy)⟩
def Rel.frz(t:Nat){y:AV}(hy:frz st.heap (st.env.get t)=some y)(hr0:Rel cx st a w):Rel cx ⟨(t,y)::st.env,Zn (refs (st.env.get t)) st.heap,st.clk⟩ a w:=by
 obtain⟨S,M,hr⟩:=hr0;have hk:=zc1 hy;refine⟨Zaq st.heap M (refs (st.env.get t)) S,M,?_⟩;have h1:=hr.share (refs (st.env.get t)) hk;refine⟨h1.size,h1.defers,fun t'=>?_,h1.wr⟩;have e1:Env.get ((t,y)::st.env)=upd st.env.get (some t) y:=zbk st.env (some t) _;rw[e1];simp only[upd];split
 ·rename_i ht;subst ht;exact .p (zpv hr.wr.heap (hr.env t') hy fun id hid=>hid)
 ·exact h1.env t'
def Rel.fld(b id:BId)(z i o:Nat){bx:Box}{r:List AV}(hb:st.heap.lookup b=some bx)(hk:bx.kind=.str)(hi:bx.els[i]? = some r)(ho:r[o]? = some (.sl [] .nl))(hid:st.heap.lookup id=none)(hr0:Rel cx st a w):Rel cx ⟨st.env,(b,{ bx with els:=bx.els.set i (r.set o (.bs id st.clk z 0 0)) })::(id,⟨st.clk,.own,z,[]⟩)::st.heap,st.clk+1⟩ a w:=by
 obtain⟨S,M,hr⟩:=hr0;refine⟨S,Zbl M ((id,⟨st.clk,.own,z,[]⟩)::st.heap) st.clk none,?_⟩;have h1:=hr.set (id:=id) (bx':=⟨st.clk,.own,z,[]⟩) (k':=none) (touched:=none) (clk':=st.clk+1) (Ya2 _) (.inl rfl) (fun hlt=>absurd hlt (Yav _)) (Touch.of_below (Below.refl _ _)) (fun k hk=>by grind)
  ⟨Yt _,fun r hr=>by grind,none,zak _ _ _ _,rfl,by simp⟩
 have hb1:List.lookup b ((id,(⟨st.clk,.own,z,[]⟩:Box))::st.heap)=some bx:=by grind
 have hw:=h1.wr;generalize hM':Zbl M ((id,⟨st.clk,.own,z,[]⟩)::st.heap) st.clk none=M' at *
 have hself:M' st.clk=some none:=by rw[<-hM'];exact zak _ _ _ _
 generalize hbx':({ bx with els:=bx.els.set i (r.set o (.bs id st.clk z 0 0)) }:Box)=bx' at *
 have hgen:bx'.gen=bx.gen:=by grind
 have hz:bx'.z=bx.z:=by grind
 have hkk:bx'.kind=bx.kind:=by grind
 have hbox:Zat w S M' (st.clk+1) bx':=by
  obtain⟨b1,b2,m,hm1,b3⟩:=hw.heap.box b bx hb1;refine⟨by omega,fun r' hr'=>?_,m,by grind,?_⟩
  ·grind
  ·cases m with
   | none=>
    grind
   | some k=>
    have hmp:bx.kind≠.mp:=by rw[hk];simp
    obtain⟨arr,e,hh,hsz,hcc,hns,hlt⟩:=ck' hmp b3;refine ck (by rw[hkk];exact hmp) ⟨arr,e,hh,by grind,fun i' r' j c' hi' hj=>?_,by grind,by grind⟩;rw[<-hbx']at hi';simp only[List.getElem?_set]at hi';rw[hz,hkk];split at hi'
    ·rename_i hii;subst hii;split at hi'
     ·cases hi';rw[List.getElem?_set]at hj;split at hj
      ·rename_i hjo;subst hjo;split at hj
       ·cases hj;obtain⟨u,hu,hu1,hC,hP⟩:=hcc i r o _ hi ho;refine⟨u,hu,hu1,?_,fun hne'=>absurd hk hne'⟩;have hv2:u=.slice none 0 0:=by
         rcases hC.inv_sl.inv_sl with ⟨_,b0,hv,_,hb2⟩ | ⟨_,_,_,_,_,_,hf,_⟩
         all_goals grind
        rw[hv2];refine .bs _ _ _ _ _ _ (Yt _) ?_ rfl
        grind[Zd3]
       grind
      grind
     grind
    grind
 have to:∀q x,List.lookup q ((b,bx')::(id,(⟨st.clk,.own,z,[]⟩:Box))::st.heap)=some x->∃x0,List.lookup q ((id,(⟨st.clk,.own,z,[]⟩:Box))::st.heap)=some x0/\x0.gen=x.gen:=by
  grind
 refine⟨h1.size,h1.defers,h1.env,⟨⟨fun q x hq=>?_,fun g m hm=>?_,fun q1 x1 q2 x2 hq1 hq2 hg=>?_,hw.heap.inj⟩,hw.ext,hw.fr,hw.Snew,hw.Slt,hw.Mnew⟩⟩
 ·by_cases hqb:q=b
  ·grind
  ·rw[za2 _ _ hqb]at hq;exact hw.heap.box q x hq
 ·obtain⟨q,x,hq,hg⟩:=hw.heap.live g m hm;by_cases hqb:q=b
  ·grind[zbi]
  ·exact⟨q,x,by grind,hg⟩
 ·obtain⟨y1,hy1,e1⟩:=to q1 x1 hq1;obtain⟨y2,hy2,e2⟩:=to q2 x2 hq2;exact hw.heap.gens _ _ _ _ hy1 hy2 (by rw[e1,e2,hg])
def Rel.str(b:BId){bx:Box}{r:List AV}{i:Nat}(hb:st.heap.lookup b=some bx)(hk:bx.kind≠.sh)(hmp:bx.kind≠.mp)(hi:bx.els[i]? = some r)(hr0:Rel cx st a w):Rel cx ⟨st.env,(b,{ bx with kind:=.str })::st.heap,st.clk⟩ a w:=by
 obtain⟨S,M,hr⟩:=hr0;refine⟨S,M,?_⟩;have hw:=hr.wr;generalize hbx':({ bx with kind:=.str }:Box)=bx' at *
 have hgen:bx'.gen=bx.gen:=by grind
 have hbox:Zat w S M st.clk bx':=by
  obtain⟨b1,b2,m,hm1,b3⟩:=hw.heap.box b bx hb;refine⟨by omega,by grind,m,by grind,?_⟩;cases m with
  | none=>grind
  | some k=>
   obtain⟨arr,e,hh,hsz,hcc,hns,hlt⟩:=ck' hmp b3;refine ck (by rw[<-hbx'];simp) ⟨arr,e,hh,by grind,fun i' r' j c' hi' hj=>?_,by grind,by grind⟩;obtain⟨u,h1,h2,h3,h4⟩:=hcc i' r' j c' (by grind) hj;exact⟨u,by grind,h2,h3,by grind⟩
 have to:∀q x,List.lookup q ((b,bx')::st.heap)=some x->∃x0,List.lookup q st.heap=some x0/\x0.gen=x.gen:=by
  grind
 refine⟨hr.size,hr.defers,hr.env,⟨⟨fun q x hq=>?_,fun g m hm=>?_,fun q1 x1 q2 x2 hq1 hq2 hg=>?_,hw.heap.inj⟩,hw.ext,hw.fr,hw.Snew,hw.Slt,hw.Mnew⟩⟩
 ·by_cases hqb:q=b
  ·grind
  ·rw[za2 _ _ hqb]at hq;exact hw.heap.box q x hq
 ·obtain⟨q,x,hq,hg⟩:=hw.heap.live g m hm;by_cases hqb:q=b
  ·grind[zbi]
  ·exact⟨q,x,by grind,hg⟩
 ·obtain⟨y1,hy1,e1⟩:=to q1 x1 hq1;obtain⟨y2,hy2,e2⟩:=to q2 x2 hq2;exact hw.heap.gens _ _ _ _ hy1 hy2 (by rw[e1,e2,hg])
def Rel.gh{k:Nat}{g:Gh}{st':St}(hk:cx.clk0=k+1)(hg:ghS k g st=some st')(hr:Rel cx st a w):Rel cx st' a w:=by
 cases g with
 | nil t z=>
  simp only[ghS]at hg;split at hg<;>cases hg;rename_i hx;exact hr.nil t _ z hx
 | frz t=>
  obtain⟨y,hy,rfl⟩:=map_some hg;exact hr.frz t hy
 | shr t=>
  simp only[ghS]at hg;obtain⟨y,hy,rfl⟩:=map_some hg;exact hr.shr t hy
 | norm ex live=>
  cases hg;exact hr.norm hk
 | trm live=>
  cases hg;have key:∀(l:List Nat) (t:Nat) (x:AV),(l.map fun t=>(t,st.env.get t)).lookup t=some x->st.env.get t=x:=by
   intro l
   induction l with
   | nil=>simp
   | cons a l ih=>grind [List.lookup]
  have hs:Sub st ⟨live.map fun t=>(t,st.env.get t),st.heap,st.clk⟩:=⟨fun t x h=>key _ _ _ h,fun b bx h=>⟨bx,h,.inl rfl⟩,Yg _⟩;exact Rel.sub hs hr
 | opn t j z=>
  simp only[ghS]at hg;split at hg<;>try (cases hg;done)
  split at hg<;>try (cases hg;done)
  rename_i bx hbx;split at hg<;>try (cases hg;done)
  rename_i r hi;split at hg<;>cases hg;rename_i hc;have hb:=(zan hbx).1;have h1:=hr.str _ hb hc.1 (zcj hbx) hi;have hn:∀b o,BId.fld b o≠b:=fun b o h=>by
   have h2:SizeOf.sizeOf (BId.fld b o)=SizeOf.sizeOf b:=by rw[h]
   simp at h2;omega
  have h2:=h1.fld (bx:={ bx with kind:=.str }) _ (.fld _ _) z _ 0 (zbi _ _ _) rfl hi rfl (by rw[za2 _ _ (hn _ _)];simpa using hc.2);refine Rel.sub ?_ h2;constructor
  ·intro t x h;show (st.env.lookup t).getD .dead=x;rw[show st.env.lookup t=some x from h]
   rfl
  ·intro b' bx' h;refine⟨bx',?_,.inl rfl⟩;simp only[Ybv]
   grind
  ·exact Yg _
 | shi t j=>
  simp only[ghS]at hg;split at hg<;>try (cases hg;done)
  split at hg<;>try (cases hg;done)
  split at hg<;>try (cases hg;done)
  obtain⟨y,hy,rfl⟩:=map_some hg;obtain⟨S,M,hr⟩:=hr;exact⟨_,M,hr.share (refs _) (zc1 hy)⟩
 | shf t i o=>
  simp only[ghS]at hg;split at hg<;>try (cases hg;done)
  split at hg<;>try (cases hg;done)
  split at hg<;>try (cases hg;done)
  split at hg<;>try (cases hg;done)
  obtain⟨y,hy,rfl⟩:=map_some hg;obtain⟨S,M,hr⟩:=hr;exact⟨_,M,hr.share (refs _) (zc1 hy)⟩
 | fld t i o z=>
  simp only[ghS]at hg;split at hg<;>try (cases hg;done)
  split at hg<;>try (cases hg;done)
  rename_i bx hbx;split at hg<;>try (cases hg;done)
  rename_i r hi;split at hg<;>try (cases hg;done)
  rename_i ho;split at hg<;>cases hg;rename_i hc;exact hr.fld _ _ z i o (zan hbx).1 hc.1 hi ho (by simpa using hc.2)
end
end
section
open Go.RowKit
theorem zkm:∀(l:Heap) (g j:Nat),(∃p∈l,p.2.gen=g)->∃q,l[Zbd l g j-j]? = some q/\q.2.gen=g/\j<=Zbd l g j
 | [],g,j,h=>by grind
 | p::l,g,j,h=>by
  simp only[Zbd];split
  ·grind
  ·obtain⟨q,hq,he⟩:=h;have hq':q∈l:=by
    grind
   obtain⟨q2,h1,h2,h3⟩:=zkm l g (j+1) ⟨q,hq',he⟩
   grind
theorem zh8:∀(l:List BId) (b b':BId) (j:Nat),b∈l->b'∈l->Zde l b j=Zde l b' j->b=b'
 | [],b,b',j,h,_,_=>by cases h
 | c::l,b,b',j,h,h',he=>by
  have low:∀(l:List BId) (x:BId) (j:Nat),j<=Zde l x j:=by
   intro l x
   induction l with
   | nil=>intro j;exact Yg _
   | cons y l ih=>intro j;simp only[Zde];split;exact Yg _;exact Yf (Ya2 j) (ih (j+1))
  simp only[Zde]at he;have l1:=low l b (j+1);have l2:=low l b' (j+1);split at he<;>split at he
  ·rename_i h1 h2;rw[<-h1,<-h2]
  ·omega
  ·omega
  ·rename_i h1 h2;have tl:∀x,c≠x->x∈c::l->x∈l:=by
    intro x hne hx;rcases Yv.1 hx with rfl | hx
    ·exact absurd rfl hne
    ·exact hx
   exact zh8 l b b' (j+1) (tl b h1 h) (tl b' h2 h') he
def zdv{γ:Type}:∀(l:List (BId×γ)),(l.map (·.1)).Nodup->∀p∈l,l.lookup p.1=some p.2:=by
 intro l hn p hp
 induction l with
 | nil=>grind
 | cons q l ih=>
  grind
theorem zgx{α:Type}:∀(l:List α),l.Nodup->∀(i j:Nat) (x:α),l[i]? = some x->l[j]? = some x->i=j
 | [],_,i,j,x,h,_=>by simp at h
 | y::l,hn,i,j,x,hi,hj=>by
  simp only[Ydr]at hn;cases i with
  | zero=>
   cases j with
   | zero=>rfl
   | succ j=>
    simp at hi hj;subst hi;exact absurd (Yd hj) hn.1
  | succ i=>
   cases j with
   | zero=>
    simp at hi hj;subst hj;exact absurd (Yd hi) hn.1
   | succ j=>rw[zgx l hn.2 i j x hi hj]
def Zco.rl{P:Program}{f:FuncId}{ys:List AV}{hp:Heap}{clk d:Nat}{ex:Bool}{l:List BId}{r0:AV}{hb':Heap}{c':Nat}
  (hkeys:hp.map (·.1)=l) (hnd:l.Nodup)
  (hnd2:((hb'.map fun p=>(Zac l d p.1,Zw true (Zac l d) (Zah hp clk) p.2)).map (·.1)).Nodup)
  (hA:Zco P f (ys.map fun y=>rlA (inN l) (inG hp) (wkIf ex y)) (hp.map fun p=>(inN l p.1,Zw ex (inN l) (inG hp) p.2)) (hp.length+1) (fun r h c=>r=r0/\h=hb'/\c=c')) :
  Zco P f ys hp clk (fun r h c=>r=rlA (Zac l d) (Zah hp clk) r0/\h=hb'.map (fun p=>(Zac l d p.1,Zw true (Zac l d) (Zah hp clk) p.2))/\c=clk+(c'-hp.length)):=by
 refine⟨hA.1,fun w S M cargs hl hC hh hS hM=>?_⟩;have hml:∀p∈hp,hp.lookup p.1=some p.2:=zdv hp (by grind);have hnd':(hb'.map (·.1)).Nodup:=by
  grind
 classical
 -- the call's own numbering
 generalize hM1:(fun g'=>if h:∃g,(∃p∈hp,p.2.gen=g)/\inG hp g=g' then M (Classical.choose h) else none:Map)=M1;have inj1:∀g1 g2,(∃p∈hp,p.2.gen=g1)->(∃p∈hp,p.2.gen=g2)->inG hp g1=inG hp g2->g1=g2:=fun g1 g2 h1 h2 he=>zgw hp g1 g2 0 h1 h2 he;have hM1a:∀g,(∃p∈hp,p.2.gen=g)->M1 (inG hp g)=M g:=by
  intro g hg;rw[<-hM1];have h:∃g0,(∃p∈hp,p.2.gen=g0)/\inG hp g0=inG hp g:=⟨g,hg,rfl⟩;simp only[dif_pos h];rw[inj1 _ _ (Classical.choose_spec h).1 hg (Classical.choose_spec h).2]
 have hM1b:∀g' m,M1 g'=some m->∃g,(∃p∈hp,p.2.gen=g)/\inG hp g=g'/\M g=some m:=by
  grind
 have rl1:Rlb M M1 clk (hp.length+1) (inG hp):=by
  refine⟨fun g _=>⟨?_,?_⟩⟩
  ·by_cases hin:∃p∈hp,p.2.gen=g
   ·grind
   ·right;cases hm:M1 (inG hp g) with
    | none=>rfl
    | some m=>
     obtain⟨g1,h1,h2,_⟩:=hM1b _ _ hm;have hlt:=zfw hp g1 0 h1
     grind[zi0,inG]
  grind[zc2,inG]
 have mem_keys:∀p∈hp,p.1∈l:=fun p hpm=>by grind
 have heap1:HeapRel w S M1 (hp.length+1) (hp.map fun p=>(inN l p.1,Zw ex (inN l) (inG hp) p.2)):=by
  refine hh.rl (ex:=ex) (σn:=inN l) (σg:=inG hp) (D:=fun g=>∃p∈hp,p.2.gen=g) rl1 (fun b' bx' hb=>?_) (fun g' m hm=>?_) inj1 (fun g' m hm=>?_)
  ·obtain⟨p,hpm,he⟩:=Yw.1 (zax _ _ _ hb)
   grind
  ·obtain⟨g1,⟨p,hpm,h1⟩,h2,h3⟩:=hM1b _ _ hm;obtain⟨x,hx⟩:=zfe (hp.map fun p=>(inN l p.1,Zw ex (inN l) (inG hp) p.2)) (inN l p.1,Zw ex (inN l) (inG hp) p.2) (Yw.2 ⟨p,hpm,rfl⟩);refine⟨_,x,hx,?_⟩;obtain⟨q,hqm,he⟩:=Yw.1 (zax _ _ _ hx);simp only[Prod.mk.injEq]at he;have hqp:q.1=p.1:=by
    grind[inN,zh8]
   have:q.2=p.2:=by
    grind
   rw[<-he.2,this];show inG hp p.2.gen=g'
   grind
  grind
 have range1:∀g k,M1 g=some (some k)->∃g0,M g0=some (some k):=fun g k hm=>let ⟨g1,_,_,h3⟩:=hM1b g _ hm;⟨g1,h3⟩
 refine(hA.2 w S M1 cargs (by grind) (fun j v c hv hc=>?_) heap1 hS (fun g k hm=>let ⟨g0,h0⟩:=range1 g k hm;hM g0 k h0)).mono ?_
 ·obtain⟨c0,h1,rfl⟩:=getElem?_mapped hc;exact((hC j v c0 hv h1).wkIf ex).rlA rl1
 intro e w' ⟨v,r,h',S',M2,clk2,he,⟨hr0,hh',hc2⟩,hCr,hw⟩;subst hr0;subst hh';subst hc2;have hw:=hw 0
 -- back
 have gens:∀(i:Nat) p,hp[i]? = some p->∀(j:Nat) q,hp[j]? = some q->p.2.gen=q.2.gen->i=j:=by
  intro i p hi j q hj hg;have h1:=hh.gens _ _ _ _ (hml p (Yd hi)) (hml q (Yd hj)) hg;refine zgx l hnd i j p.1 ?_ ?_
  all_goals grind
 have low:∀g m,M2 g=some m->g<hp.length\/hp.length+1<=g:=by
  intro g m hm;rcases Yo g (hp.length+1) with h1 | h1
  ·obtain⟨g1,h2,h3,_⟩:=hM1b g m (hw.ext.hM g m h1 hm);have:=zfw hp g1 0 h2;unfold inG at h3;omega
  omega
 have outLt:∀g,g<hp.length->∃p,hp[g]? = some p/\Zah hp clk g=p.2.gen/\p.2.gen<clk:=by
  intro g hg;have h1:hp[g]? = some (hp[g]'hg):=Ya hg;refine⟨_,h1,by simp[Zah,h1],(hh.box _ _ (hml _ (Y4 hg))).1⟩
 have outGe:∀g,hp.length<=g->Zah hp clk g=clk+(g-hp.length):=by
  grind[Zah]
 have inj2:∀g1 g2,(∃m,M2 g1=some m)->Zah hp clk g1=Zah hp clk g2->g1=g2:=by
  intro g1 g2 ⟨m,hm⟩ he;rcases Yo g1 hp.length with h1 | h1<;>rcases Yo g2 hp.length with h2 | h2
  all_goals grind
 generalize hM3:(fun g'=>if h:∃g,(∃m,M2 g=some m)/\Zah hp clk g=g' then M2 (Classical.choose h) else none:Map)=M3;have hM3a:∀g,(∃m,M2 g=some m)->M3 (Zah hp clk g)=M2 g:=by
  intro g hg;have h:∃g0,(∃m,M2 g0=some m)/\Zah hp clk g0=Zah hp clk g:=⟨g,hg,rfl⟩
  grind
 have hM3b:∀g' m,M3 g'=some m->∃g,Zah hp clk g=g'/\M2 g=some m:=by
  grind
 have rl2:Rlb M2 M3 clk2 (clk+(clk2-hp.length)) (Zah hp clk):=by
  refine⟨fun g hg=>⟨?_,?_⟩⟩
  ·grind
  ·rcases Yo g hp.length with h1 | h1
   all_goals grind
 have back:∀g m,g<clk->M3 g=some m->∃g1,g1<hp.length/\M2 g1=some m/\M1 g1=some m/\M g=some m:=by
  intro g m hg hm;obtain⟨g1,h1,h2⟩:=hM3b _ _ hm;have hlt:g1<hp.length:=by
   grind
  have h3:=hw.ext.hM g1 m (by grind) h2;obtain⟨g2,h4,h5,h6⟩:=hM1b _ _ h3;obtain⟨p,a1,a2,_⟩:=outLt g1 hlt;obtain⟨q,b1,b2,_⟩:=zkm hp g2 0 h4
  grind[inG]
 refine⟨v,_,_,S',M3,_,he,⟨rfl,rfl,rfl⟩,hCr.rlA rl2,fun nt=>⟨?_,?_,?_,fun k o hs=>?_,hw.Slt,fun g k hm=>?_⟩⟩
 ·refine hw.heap.rl (ex:=true) (σn:=Zac l d) (σg:=Zah hp clk) (D:=fun g=>∃m,M2 g=some m) rl2 (fun b' bx' hb=>?_) (fun g' m hm=>?_) (fun g1 g2 h1 _ he=>inj2 g1 g2 h1 he) (fun g' m hm=>?_)
  ·obtain⟨p,hpm,he⟩:=Yw.1 (zax _ _ _ hb);cases he;have h1:=zdv h' hnd' p hpm;obtain⟨_,_,m,hm,_⟩:=hw.heap.box _ _ h1
   grind
  ·obtain⟨g1,h1,h2⟩:=hM3b _ _ hm;obtain⟨b,bx,h3,h4⟩:=hw.heap.live g1 m h2;refine⟨Zac l d b,Zw true (Zac l d) (Zah hp clk) bx,?_,by show Zah hp clk bx.gen=g';grind⟩;exact zdv _ hnd2 (Zac l d b,Zw true (Zac l d) (Zah hp clk) bx) (Yw.2 ⟨(b,bx),zax _ _ _ h3,rfl⟩)
  grind
 ·refine⟨hw.ext.hS,hw.ext.hcell,by grind,fun g m hg hm=>?_,fun g k arr e hg hm hb=>?_⟩
  ·grind
  ·obtain⟨g1,h1,h2,_,_⟩:=back g _ hg hm;exact hw.ext.hblk g1 k arr e (by grind) h2 hb
 ·exact⟨hw.fr.os,hw.fr.tape,hw.fr.output,hw.fr.size,fun k hk hn=>hw.fr.block k hk fun⟨g,hm⟩=>hn (range1 g k hm)⟩
 ·rcases hw.Snew k o hs with h1 | h1 | ⟨g,h1⟩
  ·grind
  ·grind
  ·exact .inr (.inr (range1 g k h1))
 ·obtain⟨g1,h1,h2⟩:=hM3b _ _ hm;obtain⟨h3,h4⟩:=hw.Mnew g1 k h2;refine⟨h3,?_⟩;rcases h4 with h4 | ⟨g,h4⟩
  ·grind
  ·exact .inr (range1 g k h4)
def Z9.wk{P:Program}{f:FuncId}{xs:List AV}{post:AV->Prop}{ex:Bool}(h:Z9 P f (xs.map (wkIf ex)) post):Z9 P f xs post:=
 ⟨h.1,fun w S cargs hl hC hS=>h.2 w S cargs (by grind) (fun j v c hv hc=>by
  obtain⟨c0,h1,rfl⟩:=getElem?_mapped hc;exact(hC j v c0 hv h1).wkIf ex) hS⟩
end
section
open Go.RowKit
def Zby(ν:Nat->FuncId)(τ:Nat->Nat):AOp->AOp
 | .call u args=>.call (ν u) args
 | .ifc k x=>.ifc (τ k) x
 | .inv nm _ _ r args=>.inv nm 0 (if nm="()" then 1 else 0) r args
 | .xop (.mkf k) xs=>.xop (.mkf (τ k)) xs
 | .xop (.mkv k) xs=>.xop (.mkv (τ k)) xs
 | op=>op
def Zk(ν:Nat->FuncId)(τ:Nat->Nat)(o:AO):AO:=⟨o.dst,o.guard,Zby ν τ o.op⟩
def Zbj(ν:Nat->FuncId)(τ:Nat->Nat)(o:DO):DO:=⟨Zk ν τ o.ao,o.lo,o.hi⟩
def er(ν:Nat->FuncId)(τ:Nat->Nat):AX->AC
 | .skip=>.skip
 | .reg l=>.reg (l.map (Zk ν τ))
 | .draw l=>.draw (l.map (Zbj ν τ))
 | .seq a b=>.seq (er ν τ a) (er ν τ b)
 | .cond c x y=>.cond c (er ν τ x) (er ν τ y)
 | .block id c=>.block id (er ν τ c)
 | .loop c=>.loop (er ν τ c)
 | .exit id=>.exit id
 | .ret=>.ret
 | .note c _=>er ν τ c
 | .pre _ c=>er ν τ c
 | .scope c=>.scope (er ν τ c)
 | .lp id _ c _=>.block id (.loop (er ν τ c))
 | .bad=>.bad
 | .drawT hd tl=>.drawT (hd.map (Zk ν τ)) (tl.map (Zk ν τ))
 | .drawM hd tl=>.drawM (hd.map (Zk ν τ)) (tl.map (Zk ν τ))
 | .drawC l1 o l2 tl=>.drawT (l1.map (Zk ν τ)++Zk ν τ o::l2.map (Zk ν τ)) (tl.map (Zk ν τ))
 | .drawN l1 o l2=>.draw (l1.map (Zbj ν τ) ++ ⟨Zk ν τ o,0,0⟩::l2.map (Zbj ν τ))
 | .drawR hd tl=>.drawT (hd.map (Zk ν τ)) (tl.map (Zk ν τ))
 | .drawP l1 o l2 da cs n xs vs=>.draw (l1.map (Zbj ν τ) ++ ⟨Zk ν τ o,0,1⟩::(l2.map (Zbj ν τ)++[⟨⟨some da,none,.alloc cs⟩,0,1⟩,⟨⟨none,none,.store n xs vs⟩,1,2⟩]))
 | .prim _=>.bad
 | .label l=>.label l
 | .goto l=>.goto l
 | .gsc l c r=>.gsc l (er ν τ c) (er ν τ r)
def erF(ν:Nat->FuncId)(τ:Nat->Nat)(af:AFx):AF:=⟨af.np,af.nt,af.res,er ν τ af.body⟩
def Ex.out:Ex->Exit
 | .n=>.normal
 | .x id=>.exit id
 | .r=>.ret
 | .g l=>.goto l
def LWp(cx:Cx)(c:AC)(Q:Exit->St->Prop)(st:St):Prop:=
 ∀code,Zj cx.P cx.nt code=some c->cx.P.follows .mixedOrders=true->∀a w,Rel cx st a w->∀(b:Frame) (k:List Item) (cs:List Frame),
  ∃e a' w',(∃st',Q e st'/\Rel cx st' a' w')/\Arrives cx.P (lone (b.at a (.code code :: .inLoop code::k)) cs w) b k cs e a' w'
def zub{cx:Cx}{c:AC}{Q:Exit->St->Prop}{st:St}(h:AWp cx c (Zgl (fun s=>LWp cx c Q s) Q) st):LWp cx c Q st:=by
 intro code hc hm a w hr b k cs;obtain⟨ex,a1,w1,⟨st1,hq1,hrel1⟩,harr⟩:=h code hc hm a w hr b (.inLoop code::k) cs;cases ex with
 | normal=>
  obtain⟨e2,a2,w2,hq2,harr2⟩:=hq1 code hc hm a1 w1 hrel1 b k cs;exact⟨e2,a2,w2,hq2,.of_steps (Steps.trans harr (.one step_inLoop)) harr2⟩
 | exit id=>exact⟨_,a1,w1,⟨st1,hq1,hrel1⟩,.pass (x:=.inLoop code) rfl (fun _ _=>.inl (by simp)) harr⟩
 | goto l=>exact⟨_,a1,w1,⟨st1,hq1,hrel1⟩,.pass (x:=.inLoop code) rfl (fun _ _=>.inl (by simp)) harr⟩
 | ret=>exact⟨_,a1,w1,⟨st1,hq1,hrel1⟩,.pass (x:=.inLoop code) rfl (fun _ _=>.inl (by simp)) harr⟩
 | panic ch=>exact⟨_,a1,w1,⟨st1,hq1,hrel1⟩,.pass (x:=.inLoop code) rfl (fun _ _=>.inl (by simp)) harr⟩
 | outgrown=>exact⟨_,a1,w1,⟨st1,hq1,hrel1⟩,.pass (x:=.inLoop code) rfl (fun _ _=>.inl (by simp)) harr⟩
def zgy{cx:Cx}{c:AC}{Q:Exit->St->Prop}{st:St}(h:LWp cx c Q st):AWp cx (.loop c) Q st:=by
 intro code hc hm a w hr;have hcode:=hc;cases code<;>simp only[Zj]at hc<;>try cases hc
 case loop c1=>
  obtain⟨x',hx,he⟩:=map_some hc;cases he;intro b k cs;obtain⟨e,a',w',hq,harr⟩:=h c1 hx hm a w hr b k cs;exact⟨e,a',w',hq,.of_steps (.one step_loop) harr⟩
 case region id ops draw=>
  rcases zag hcode with ⟨_,l,_,h1⟩ | ⟨_,l,_,⟨n,_,h1⟩ | ⟨_,h1⟩ | ⟨n,_,h1⟩ | h1⟩<;>cases h1
 all_goals simp[Yc]at hc
def LWp.mono{cx:Cx}{c:AC}{Q Q':Exit->St->Prop}{st:St}(h:LWp cx c Q st)(hq:∀ex st,Q ex st->Q' ex st):LWp cx c Q' st:=
 fun code hc hm a w hr b k cs=>let ⟨e,a',w',⟨st',h1,h2⟩,h3⟩:=h code hc hm a w hr b k cs;⟨e,a',w',⟨st',hq _ _ h1,h2⟩,h3⟩
def Is(e:Ex)(st':St):Exit->St->Prop:=fun ex s=>ex=e.out/\s=st'
def za7{ν:Nat->FuncId}{τ:Nat->Nat}(op:AOp):(Zby ν τ op).writes=op.writes:=by
 cases op<;>first | rfl | (rename_i k xs;cases k<;>rfl)
theorem zuc(j:Nat):Zh8 j≠"()":=by
 unfold Zh8
 grind
def zkn{T:Tbl}{k:Nat}{nm:String}{u:Nat}(h:(nm,u)∈Za9 T k):nm≠"()":=by
 grind[Za9,Zga,zuc]
structure GoodO (P:Program) (ν:Nat->FuncId) (T:Tbl) (O:Orc):Prop where
 meth:∀k nm u,(nm,u)∈Za9 T k->Zc2 P (Zc T k) nm=some (ν u)
 fnn:∀k u,Ze1 T k=some u->Zc T k=ν u
 pure:∀u af xs r h,T u=some af->af.lent=none->O.call u xs []=some (r,h)->Z9 P (ν u) xs (·=r)
 lent:∀u af ms xs hb r hb',T u=some af->af.lent=some ms->O.call u xs hb=some (r,hb')->Zco P (ν u) xs hb (hb.length+1) (fun r1 h1 c1=>r1=r/\h1=hb'/\c1=hb.length+hb'.length+2)
 loop:∀k c st e st',O.loop k c st=some (e,st')->∀cx:Cx,cx.P=P->cx.clk0=k+1->LWp cx (er ν (Zc T) c) (Is e st') st
section
variable{P:Program}{ν:Nat->FuncId}{T:Tbl}{O:Orc}
def zhq(q:BId->Bool)(h:Heap)(b:BId):(h.filter fun p=>!q p.1).lookup b=if q b=true then none else h.lookup b:=by
 induction h with
 | nil=>simp
 | cons p h ih=>
  grind
def zcy(hO:GoodO P ν T O){u:Nat}{xs:List AV}{d:Option Nat}{st st':St}{K:St->Prop}(h:Z3 O T u xs d st=some st')(hK:K st') :
  Zd7 P (ν u) xs st.heap (fun r h=>K ⟨Zd st.env d r,h,st.clk⟩)\/Zd8 P (ν u) xs st.heap st.clk (fun r h c=>K ⟨Zd st.env d r,h,c⟩):=by
 unfold Z3 at h;split at h
 ·cases h
 rename_i af hT;split at h
 ·rename_i hl;obtain⟨ys,h1,h2⟩:=bind_some h;obtain⟨r,h3,h4⟩:=bind_some h2;refine .inl ⟨ys,(·=r.1),h1,(hO.pure u af _ r.1 r.2 hT hl h3).wk,?_⟩
  grind
 ·rename_i ms hl;obtain⟨ys,h1,h2⟩:=bind_some h;simp only at h2;generalize hh1:Zn (Zb4 ms xs) st.heap=h1' at *
  generalize hll:Zeb h1' 40 (Zek ms xs) []=l at *
  generalize hhp:Zcs h1' l=hp at *
  split at h2
  ·rename_i hc;obtain⟨r,h3,h4⟩:=bind_some h2;generalize hhb:(r.2.map fun p=>(Zac l (d.getD 0) p.1,Zw true (Zac l (d.getD 0)) (Zah hp st.clk) p.2))=hb' at *
   split at h4
   ·rename_i hchk;cases h4;simp only[Yk,decide_eq_true_eq]at hchk;obtain⟨⟨k2,k3⟩,k4⟩:=hchk;have hmem:∀b bx,hp.lookup b=some bx->h1'.lookup b=some bx:=by
     intro b bx hb;have:=zax _ _ _ hb;rw[<-hhp]at this;exact zey this
    have hin:∀b,(hp.lookup b).isSome=true↔b∈l:=by
     intro b;constructor
     ·intro hb;obtain⟨bx,hb⟩:=Ybl.1 hb;rw[<-hc.1];exact Yw.2 ⟨_,zax _ _ _ hb,rfl⟩
     ·intro hb;rw[<-hc.1]at hb;obtain⟨p,hp1,rfl⟩:=Yw.1 hb;obtain⟨x,hx⟩:=zfe _ _ hp1
      grind
    have hlk:∀id,(h1'.filter fun p=>!(l.contains p.1 || (hb'.map (·.1)).contains p.1)).lookup id=if (l.contains id || (hb'.map (·.1)).contains id)=true then none else h1'.lookup id:=
     fun id=>zhq (fun b=>l.contains b || (hb'.map (·.1)).contains b) h1' id
    refine .inr ⟨ms,ys,h1,hp,h1'.filter (fun p=>!(l.contains p.1 || (hb'.map (·.1)).contains p.1)),_,⟨fun id bx hid=>?_,fun id bx hid=>?_⟩,fun id hid=>?_,Zco.rl hc.1 hc.2 (by rw[hhb];omega) (by
     have:=hO.lent u af ms _ _ r.1 r.2 hT hl h3;rw[Yad]at this;exact this),?_⟩
    ·grind
    ·grind
    ·rw[hlk,if_pos (by grind)]
    ·rintro r' h' c' hle ⟨rfl,rfl,rfl⟩
     rw[hhb]
     grind
   grind
  grind
theorem zrd(hO:GoodO P ν T O){op:AOp}{d:Option Nat}{st st':St}{K:St->Prop}(h:opX O T op d st=some st')(hK:K st'):opK P (Zby ν (Zc T) op) d st K:=by
 cases op<;>simp only[opX]at h
 case call u args=>exact zcy hO h hK
 case ifc k x=>
  cases h;exact⟨_,rfl,hK⟩
 case inv nm k u r args=>
  split at h
  ·rename_i t y hy;split at h
   ·rename_i hc;obtain⟨rfl,hm⟩:=hc;exact .inl ⟨if_neg (zkn hm),_,y,_,hy,hO.meth k nm u hm,zcy hO h hK⟩
   grind
  ·rename_i f x hy;split at h
   ·rename_i hc;obtain⟨rfl,rfl,hm⟩:=hc;have hc:=zcy hO h hK;rw[<-hO.fnn k u hm]at hc;exact .inr (.inl ⟨rfl,_,x,hy,hc⟩)
   grind
  ·rename_i f id g z i o hy;split at h
   ·rename_i hc;obtain⟨rfl,rfl,hm⟩:=hc;have hc:=zcy hO h hK;rw[<-hO.fnn k u hm]at hc;exact .inr (.inr ⟨rfl,_,id,g,z,i,o,hy,zwq hm,hc⟩)
   grind
  grind
 case xop k xs=>
  cases k
  all_goals
   obtain⟨q,h1,rfl⟩:=map_some h;exact⟨q,h1,hK⟩
 all_goals
  obtain⟨q,h1,rfl⟩:=map_some h;exact⟨q,h1,hK⟩
def zko(hO:GoodO P ν T O){o:AO}{st st':St}{K:St->Prop}(h:Zev O T o st=some st')(hK:K st'):Zfk P (Zk ν (Zc T) o) st K:=by
 grind[Zev,Zfk,Zk,zrd,gX]
theorem zco(hO:GoodO P ν T O):∀(l:List AO) (st st':St) (K:St->Prop),Zcd O T l st=some st'->K st'->Zcb P (l.map (Zk ν (Zc T))) st K
 | [],st,st',K,h,hK=>by cases h;exact hK
 | o::l,st,st',K,h,hK=>by
  obtain⟨s1,h1,h2⟩:=bind_some h;exact zko hO h1 (zco hO l s1 st' K h2 hK)
theorem zkp(hO:GoodO P ν T O){op:AOp}{e:Env}{h:Heap}{older:List Heap}{x:AV}{K:AV->Prop}(hx:opD O T op e h older=some x)(hK:K x):opQ P (Zby ν (Zc T) op) e h older K:=by
 by_cases hap:∃z x0 y,op=.app z x0 y
 ·obtain⟨z,x0,y,rfl⟩:=hap;by_cases hc:x0=.c (.sl [] .nl)
  ·subst hc;exact⟨x,hx,hK⟩
  ·exfalso;cases x0 with
   | t n=>simp[opD,Zg]at hx
   | c a=>
    cases a
    case sl els f=>
     cases els with
     | nil=>cases f<;>first | exact hc rfl | simp[opD,Zg]at hx
     | cons r l=>simp[opD,Zg]at hx
    all_goals simp[opD,Zg]at hx
 cases op<;>(try exact absurd ⟨_,_,_,rfl⟩ hap)<;>simp only[opD]at hx
 case call u args=>
  split at hx
  ·grind
  rename_i af hT;split at hx
  ·rename_i hc;simp only[Yk]at hc;obtain⟨r,h1,rfl⟩:=map_some hx;exact⟨_,⟨zdf hc.2,fun hf=>by grind⟩,r.1,(hO.pure u af _ r.1 r.2 hT (by simp_all) h1).wk,hK⟩
  grind
 case ifc k x=>
  cases hx;exact⟨_,rfl,trivial,hK⟩
 case inv nm k u r args=>
  split at hx
  ·rename_i t y hy;split at hx
   ·rename_i hc0;obtain⟨rfl,hm⟩:=hc0;split at hx
    ·grind
    rename_i af hT;split at hx
    ·rename_i hc;simp only[Yk]at hc;obtain⟨r,h1,rfl⟩:=map_some hx;exact⟨if_neg (zkn hm),_,y,_,hy,hO.meth k nm u hm,hc.2,r.1,(hO.pure u af _ r.1 r.2 hT (by simp_all) h1).wk,hK⟩
    grind
   grind
  grind
 case bsl z zs len ps=>
  split at hx
  ·rename_i hc;obtain⟨q,h1,rfl⟩:=map_some hx;exact⟨hc,q,h1,hK⟩
  grind
 case xop k xs=>
  simp_all
 all_goals
  obtain⟨q,h1,h2⟩:=bind_some hx;split at h2
  ·rename_i hc;cases h2;refine⟨_,h1,?_,hK⟩;rcases zop hc with hc | hc
   ·simp only[Zby];rw[hc]
    trivial
   ·simp only[Zby];split
    ·trivial
    ·exact hc
  ·cases h2
def zni{o:AO}{e:Env}{h':Heap}{x:AV}(hf:o.op.free=false)(hw:o.op.writes=false)(hg:o.guard=none\/∃t want,o.guard=some (t,want)/\e.get t=.b want)(hs:Zew o.op e.get h'=some x):QF P h' (Zk ν (Zc T) o) e.get x:=by
 have hq:QOp P (Zby ν (Zc T) o.op) e.get h' x:=by
  obtain⟨d,g,op⟩:=o;by_cases hap:∃z x0 y,op=.app z x0 y
  ·obtain⟨z,x0,y,rfl⟩:=hap;by_cases hc:x0=.c (.sl [] .nl)
   all_goals simp_all
  cases op<;>first | exact absurd ⟨_,_,_,rfl⟩ hap | exact hs | (cases hf;done) | (cases hw;done) | (cases hs)
 grind[QF,Zk]
def zre{o:AO}{e:Env}{h':Heap}(hg:∃t want,o.guard=some (t,want)/\(e.get t=.b (!want)\/e.get t=.tup [])):QF P h' (Zk ν (Zc T) o) e.get (.tup []):=by
 grind[QF,Zk]
def znj{o:AO}{e:Env}{h h':Heap}{x:AV}(hf:o.op.freeE e.get=true)(hq:QF P h (Zk ν (Zc T) o) e.get x):QF P h' (Zk ν (Zc T) o) e.get x:=
 zit (o:=Zk ν (Zc T) o) (by show (Zby ν (Zc T) o.op).freeE e.get=true;cases hop:o.op<;>rw[hop]at hf<;>first | rfl | exact hf | cases hf) h h' hq
def znk{o:AO}{e:Env}{h:Heap}{older:List Heap}{r:AV×Bool}(hx:qX O T o e h older=some r)(hr:r.2=true)(hf:o.op.free=true):o.op.freeE e.get=true:=by
 cases hop:o.op
 case call u args=>
  have key:∀x,opD O T (.call u args) e h older=some x->(args.map (ev e.get)).all noRef=true:=by
   grind[opD]
  unfold qX at hx;rw[hop]at hx;split at hx
  ·obtain⟨x,h1,_⟩:=map_some hx;exact key x h1
  ·split at hx
   ·split at hx
    ·obtain⟨x,h1,_⟩:=map_some hx;exact key x h1
    grind
   all_goals grind
 all_goals (rw[hop]at hf;exact hf)
def zd6(hO:GoodO P ν T O){o:AO}{e:Env}{h:Heap}{older:List Heap}{r:AV×Bool}{K:AV->Prop}(hx:qX O T o e h older=some r)(hK:K r.1) :
  qK P (Zk ν (Zc T) o) e h older K/\(r.2=true->(o.guard=none\/∃t want,o.guard=some (t,want)/\e.get t=.b want))/\(r.2=false->r.1=.tup []/\∃t want,o.guard=some (t,want)/\(e.get t=.b (!want)\/e.get t=.tup [])):=by
 unfold qX at hx;unfold qK;simp only[Zk];cases hg:o.guard with
 | none=>
  rw[hg]at hx;obtain⟨x,h1,rfl⟩:=map_some hx
  grind[zkp]
 | some p=>
  obtain⟨t,want⟩:=p;rw[hg]at hx;simp only at hx ⊢;cases hx2:e.get t with
  | b v=>
   rw[hx2]at hx;simp only at hx ⊢;split at hx
   ·rename_i hv;obtain⟨x,h1,rfl⟩:=map_some hx
    grind[zkp]
   ·rename_i hv;rw[if_neg hv];cases hx;refine⟨hK,?_,?_⟩
    ·grind
    intro _;refine⟨rfl,t,want,rfl,.inl ?_⟩;cases v<;>cases want<;>simp_all
  | tup l=>
   grind
  | _=>rw[hx2]at hx;simp at hx
def zbz{pend:Zz}{h:Heap}(hp:Zv pend h=true):∀p∈pend,0<p.1->Zew p.2.1 p.2.2.1.get h=some p.2.2.2:=by
 grind[Zv]
def Zdl(pendX:Zz)(pend:Zf5):Prop:=∀q∈pend,(∀h',q.2 h')\/q.1=0\/∃p∈pendX,p.1=q.1/\∀h',Zew p.2.1 p.2.2.1.get h'=some p.2.2.2->q.2 h'
def Zdl.next{pendX:Zz}{pend:Zf5}(h:Zdl pendX pend):Zdl (pendX.map fun p=>(p.1-1,p.2)) (pend.map fun p=>(p.1-1,p.2)):=by
 intro q hq;obtain⟨q0,h1,rfl⟩:=Yw.1 hq;rcases h q0 h1 with h2 | h2 | ⟨p,h2,h3,h4⟩
 ·grind
 ·omega
 ·exact .inr (.inr ⟨_,Yw.2 ⟨p,h2,rfl⟩,by omega,h4⟩)
theorem zcz(hO:GoodO P ν T O):∀(l:List DO) (e:Env) (h:Heap) (clk:Nat) (older:List Heap) (pendX:Zz) (pend:Zf5) (st':St) (K:St->Prop),Zdl pendX pend->Zao O T l e h clk older pendX=some st'->K st'->Zdq P (l.map (Zbj ν (Zc T))) e h clk older pend K
 | [],e,h,clk,older,pendX,pend,st',K,hpr,hx,hK=>by cases hx;exact hK
 | o::l,e,h,clk,older,pendX,pend,st',K,hpr,hx,hK=>by
  simp only[Zao]at hx;simp only[Yy,Zdq];have hw:(Zbj ν (Zc T) o).ao.op.writes=o.ao.op.writes:=by
   exact za7 _
  rw[hw];cases ho:o.ao.op.writes with
  | true=>
   rw[ho]at hx;simp only at hx ⊢;split at hx
   ·rename_i hg;obtain⟨q,h1,h2⟩:=bind_some hx;split at h2
    ·rename_i hpd;have e1:Zby ν (Zc T) o.ao.op=o.ao.op:=by
      cases hop:o.ao.op<;>rw[hop]at ho<;>first | rfl | (simp[AOp.writes]at ho;done) | (rename_i k xs;cases k<;>first | rfl | simp_all)
     refine⟨by show o.ao.guard=none;simpa using hg,q,?_,fun p hp h0=>?_,zcz hO l _ _ _ _ _ _ st' K hpr.next h2 hK⟩
     ·show stepW (Zby ν (Zc T) o.ao.op) o.ao.dst e.get h clk=some q
      grind
     ·rcases hpr p hp with h3 | h3 | ⟨p',h3,h4,h5⟩
      ·grind
      ·omega
      ·exact h5 _ (zbz hpd p' h3 (by omega))
    grind
   grind
  | false=>
   rw[ho]at hx;simp only at hx ⊢;split at hx
   rotate_left
   ·rename_i p hrow;obtain⟨x,h1,h2⟩:=bind_some hx;obtain⟨hg,args,hop,hfr,hold⟩:=zex hrow;unfold Zct at h1;split at h1
    ·grind
    rename_i af hT;split at h1
    rotate_left
    ·grind
    obtain⟨r,h3,rfl⟩:=map_some h1;have hcall:Z9 P (ν p.1) p.2 (·=r.1):=(hO.pure p.1 af _ r.1 r.2 hT (by simp_all) h3).wk;have hao:Zk ν (Zc T) o.ao=⟨o.ao.dst,none,.call (ν p.1) args⟩:=by unfold Zk;rw[hg,hop];rfl
    show qK P (Zk ν (Zc T) o.ao) e h (older.take (older.length-o.lo)) _;rw[hao];refine⟨p.2,⟨hfr,fun _=>hold⟩,r.1,hcall,?_⟩;refine zcz hO l _ _ _ _ _ _ st' K ?_ h2 hK;intro q hq;rcases Yv.1 hq with rfl | hq
    ·by_cases hn:older.length<o.hi
     ·refine .inr (.inr ⟨(o.hi-older.length,o.ao.op,e,.tup p.2),?_,rfl,fun h' hs=>?_⟩)
      ·grind
      ·simp only[hop,Zew]at hs;obtain⟨zs,h6,h7⟩:=map_some hs;cases h7;show QF P h' (Zk ν (Zc T) o.ao) e.get r.1;rw[hao];exact⟨_,h6,hcall⟩
     ·exact .inr (.inl (by show o.hi-older.length=0;omega))
    ·rcases hpr q hq with h3 | h3 | ⟨p',h3,h4,h5⟩
     all_goals grind
   obtain⟨r,h1,h2⟩:=bind_some hx;have key:=fun(K':AV->Prop) (hk:K' r.1)=>zd6 hO (K:=K') h1 hk;refine(key _ ?_).1;refine zcz hO l _ _ _ _ _ _ st' K ?_ h2 hK;obtain⟨_,k1,k2⟩:=key (fun _=>True) trivial;intro q hq;rcases Yv.1 hq with rfl | hq
   ·cases hr2:r.2 with
    | false=>
     obtain⟨h3,h4⟩:=k2 hr2;exact .inl fun h'=>by
      rw[h3];exact zre h4
    | true=>
     cases hf:o.ao.op.free with
     | true=>
      obtain⟨hqk,_⟩:=key (fun x=>x=r.1) rfl;obtain⟨x,hq1,_,hxr⟩:=zn8 (o:=Zk ν (Zc T) o.ao) (by rw[<-ho];exact hw) hqk;subst hxr;exact .inl fun h'=>znj (znk h1 hr2 hf) hq1
     | false=>
      by_cases hn:older.length<o.hi
      ·refine .inr (.inr ⟨(o.hi-older.length,o.ao.op,e,r.1),?_,rfl,fun h' hs=>zni hf ho (k1 hr2) hs⟩)
       grind[Zam]
      ·exact .inr (.inl (by show o.hi-older.length=0;omega))
   ·rcases hpr q hq with h3 | h3 | ⟨p,h3,h4,h5⟩
    ·grind
    ·omega
    grind[Zam]
theorem zgz(hO:GoodO P ν T O)(tl:List AO):∀(l:List AO) (e:Env) (h:Heap) (clk:Nat) (st':St) (K:St->Prop),Zcu O T tl l e h clk=some st'->K st'->Zdc P (tl.map (Zk ν (Zc T))) (l.map (Zk ν (Zc T))) e h clk K
 | [],e,h,clk,st',K,hx,hK=>zco hO tl _ st' K hx hK
 | o::l,e,h,clk,st',K,hx,hK=>by
  obtain⟨r,h1,h2⟩:=bind_some hx;exact(zd6 hO (K:=fun x=>Zdc P (tl.map (Zk ν (Zc T))) (l.map (Zk ν (Zc T))) (Zd e o.dst x) h clk K) h1 (zgz hO tl l _ h clk st' K h2 hK)).1
theorem zek(hO:GoodO P ν T O)(tl:List AO):∀(l:List AO) (e:Env) (h:Heap) (clk:Nat) (st':St) (K:St->Prop),Zbi O T tl l e h clk=some st'->K st'->Zdc P (tl.map (Zk ν (Zc T))) (l.map (Zk ν (Zc T))) e h clk K
 | [],e,h,clk,st',K,hx,hK=>zco hO tl _ st' K hx hK
 | o::l,e,h,clk,st',K,hx,hK=>by
  unfold Zbi at hx;split at hx
  ·obtain⟨r,h1,h2⟩:=bind_some hx;exact(zd6 hO (K:=fun x=>Zdc P (tl.map (Zk ν (Zc T))) (l.map (Zk ν (Zc T))) (Zd e o.dst x) h clk K) h1 (zek hO tl l _ h clk st' K h2 hK)).1
  ·rename_i p hrow;obtain⟨x,h1,h2⟩:=bind_some hx;obtain⟨hg,args,hop,hfr,hold⟩:=zex hrow;unfold Zct at h1;split at h1
   ·grind
   rename_i af hT;split at h1
   rotate_left
   ·grind
   obtain⟨r,h3,rfl⟩:=map_some h1;have hcall:Z9 P (ν p.1) p.2 (·=r.1):=(hO.pure p.1 af _ r.1 r.2 hT (by simp_all) h3).wk;have hao:Zk ν (Zc T) o=⟨o.dst,none,.call (ν p.1) args⟩:=by unfold Zk;rw[hg,hop];rfl
   have ih:=zek hO tl l _ h clk st' K h2 hK;show qK P (Zk ν (Zc T) o) e h [] _;rw[hao];exact⟨p.2,⟨hfr,fun _=>hold⟩,r.1,hcall,ih⟩
def zff{c0:Nat}{op:AOp}{e:Env}{l:List Nat}{ν:Nat->FuncId}{τ:Nat->Nat}(h:Zf0 c0 op e l=true):∀g∈l,Zd9 c0 (Zby ν τ op) e.get g:=by
 intro g hg;have h1:=Yi.1 h g hg;simp only[Ybm,decide_eq_true_eq,List.any_eq_true,List.contains_iff_mem]at h1;rcases h1 with h1 | ⟨t,ht,h2⟩
 ·exact .inl h1
 ·refine .inr ⟨t,?_,h2⟩;cases op<;>first | exact ht | (cases ht;done) | (rename_i k xs;cases k<;>first | exact ht | cases ht)
def zma(hO:GoodO P ν T O){u:Nat}{xs:List AV}{d clk:Nat}{q:AV×Heap×Nat}(h:Zdr O T u xs d clk=some q):∃m,q.2.2=clk+m/\Zh4 P (ν u) xs clk q.1 q.2.1 m:=by
 unfold Zdr at h;split at h
 ·cases h
 rename_i af hT;split at h
 ·cases h
 rename_i ms hl;split at h
 ·rename_i hn;obtain⟨r,h3,h4⟩:=bind_some h;simp only at h4;split at h4
  ·rename_i hc;cases h4;obtain⟨hnd,hg1,hg2⟩:=hc;refine⟨r.2.length+2,rfl,hn,?_,hnd,fun g hg=>?_,fun p hp g hg=>?_⟩
   ·have hA:=hO.lent u af ms _ _ r.1 r.2 hT hl h3;have:=Zco.rl (ys:=xs) (hp:=[]) (clk:=clk) (d:=d) (ex:=af.exact) (l:=[]) (r0:=r.1) (hb':=r.2) (c':=0+r.2.length+2) rfl List.nodup_nil (by grind) (by simpa using hA)
    grind
   ·have:=Yi.1 hg1 g hg
    grind
   ·obtain⟨hk,rr,hr,y,hy,hgy⟩:=hg;have h5:=Yi.1 hg2 p hp;simp only[hk,if_true]at h5;have h6:=Yi.1 (Yi.1 h5 rr hr) y hy;have:=Yi.1 h6 g hgy
    grind
  grind
 grind
def zh9{op:AOp}{ua:Nat×List Opd}(h:op.lentN=some ua):op=.call ua.1 ua.2:=by
 cases op<;>simp only[AOp.lentN]at h<;>try cases h
 grind
theorem zez(q:BId->Bool):∀(h:Heap) (id:BId),(h.filter fun p=>q p.1).lookup id=if q id then h.lookup id else none
 | [],id=>by grind
 | (c,x)::h,id=>by
  have ih:=zez q h id
  grind
def zel(ids:List BId)(h:Heap):Zbt (Zdk ids h) h:=by
 intro id bx hb;unfold Zdk at hb;split at hb
 ·omega
 ·rw[zez fun b=>!ids.contains b]at hb
  grind
def zrf{z d g g' z' off n:Nat}{x' y:Opd}{ρ:Nat->AV}{x:AV}{hp:Heap}{c:Nat}{b:BId}{o:Box}(hv:ev ρ x'=.bs b g' z' off n)(h:stepW (.app z x' y) (some d) ρ [(b,o)] g=some (x,hp,c)) :
  ∃bx,hp=[(b,bx),(b,o)]/\c=g+1/\bx.gen=g:=by
 obtain⟨ys,_,h1⟩:=bind_some h;rw[hv]at h1;obtain⟨b0,_,h2⟩:=bind_some h1
 grind
def Inv(X h:Heap)(c0:Nat):Prop:=∀id o,X.lookup id=some o->h.lookup id=some o\/∃o',h.lookup id=some o'/\c0<=o'.gen
theorem zb0(hO:GoodO P ν T O)(tl:List AO)(h0 X:Heap)(c0:Nat)(hX0:Zbt h0 X):∀(l:List AO) (e:Env) (h:Heap) (clk:Nat) (st':St) (K:St->Prop),Zbt h0 h->c0<=clk->Inv X h c0->Zaf O T tl h0 c0 X l e h clk=some st'->K st'->Zar P h0 c0 X (fun e h clk=>Zcb P (tl.map (Zk ν (Zc T))) ⟨e,h,clk⟩ K) (l.map (Zk ν (Zc T))) e h clk
 | [],e,h,clk,st',K,_,_,_,hx,hK=>zco hO tl _ st' K hx hK
 | o::l,e,h,clk,st',K,hsb,hck,hinv,hx,hK=>by
  simp only[Zaf]at hx;simp only[Yy,Zar];have hmk:(Zk ν (Zc T) o).op.maker=o.op.maker:=by
   obtain⟨d,g,op⟩:=o;cases op<;>first | rfl | (rename_i k xs;cases k<;>rfl)
  have hsE:(Zk ν (Zc T) o).op.isStore=o.op.isStore:=by
   obtain⟨d,g,op⟩:=o;cases op<;>first | rfl | (rename_i k xs;cases k<;>rfl)
  have hadd:∀(B:Heap),(∀p∈B,h.lookup p.1=none)->Zbt h0 (B++h):=by
   intro B hB id bx hid;have h1:=hsb id bx hid
   grind
  have hiadd:∀(B:Heap),(∀p∈B,h.lookup p.1=none)->Inv X (B++h) c0:=by
   intro B hB id o ho;have hn:B.lookup id=none:=by
    cases hl:B.lookup id with
    | none=>rfl
    | some y=>
     rcases hinv id o ho with h2 | ⟨o',h2,_⟩<;>(grind)
   rw[zci,hn];simpa using hinv id o ho
  have hXn:∀id,h.lookup id=none->X.lookup id=none:=by
   intro id hid;cases hl:X.lookup id with
   | none=>rfl
   | some o=>rcases hinv id o hl with h2 | ⟨o',h2,_⟩<;>(grind)
  have h0n:∀id,X.lookup id=none->h0.lookup id=none:=by
   intro id hid;cases hl:h0.lookup id with
   | none=>rfl
   | some o=>have:=hX0 _ _ hl;grind
  rw[hmk,hsE];cases hm:o.op.maker with
  | true=>
   rw[hm]at hx;simp only at hx ⊢;split at hx
   ·rename_i d hg hd;have hop:Zby ν (Zc T) o.op=o.op:=by
     obtain⟨d,g,op⟩:=o;cases op<;>first | rfl | (cases hm;done) | (rename_i k xs;cases k<;>first | rfl | cases hm)
    split at hx
    rotate_left
    ·rename_i p how;obtain⟨q,h1,h2⟩:=bind_some hx;split at h2
     ·rename_i hc;obtain⟨x,hp,c'⟩:=q;obtain⟨b,bo⟩:=p;obtain⟨z,x',y,g',z',off,n,hopa,hev⟩:∃z x' y g' z' off n,o.op=.app z x' y/\ev e.get x'=.bs b g' z' off n:=by
       unfold Zfq at how;split at how
       ·rename_i z x' y hoa;cases hv:ev e.get x'<;>rw[hv]at how<;>simp only[Zho]at how<;>try (cases how;done)
        unfold Zia at how
        grind
       grind
      obtain⟨hb1,⟨ox,hb2⟩,hb3,hb4⟩:h0.lookup b=none/\(∃ox,X.lookup b=some ox)/\h.lookup b=some bo/\bo.gen<c0:=by
       rw[hopa]at how;simp only[Zfq,hev,Zho]at how;unfold Zia at how
       grind
      have hbx:X.lookup b=some bo:=by
       rcases hinv b ox hb2 with h3 | ⟨o',h3,h4⟩
       all_goals grind
      obtain⟨bx,rfl,rfl,hbg⟩:=zrf hev (by rw[hopa]at h1;exact h1);simp only[Ycv,Ydb]at h2 hc;refine⟨hg,d,x,b,bx,some bo,hd,by rw[show (Zk ν (Zc T) o).op=o.op from hop];exact h1,hb3,hbx,hb1,fun o2 ho2=>by grind,fun g hgb=>?_,zb0 hO tl h0 X c0 hX0 l _ _ _ st' K (fun id y hy=>?_) (by omega) (fun id o2 ho2=>?_) h2 hK⟩
      ·obtain⟨hk,r,hr,y,hy,hgy⟩:=hgb;simp only[Zgb,Ycq,List.all_nil,Ydz,hk,if_true,Yi]at hc;exact zff (hc r hr y hy) g hgy
      ·have hne:(id == b)=false:=by
        grind
       rw[Yak,hne];exact hsb id y hy
      ·rw[Yak];by_cases hi:id=b
       ·grind
       ·have hne:(id == b)=false:=by grind
        rw[hne];exact hinv id o2 ho2
     grind
    obtain⟨q,h1,h2⟩:=bind_some hx;split at h2
    ·rename_i hc;simp only[Yk]at hc;obtain⟨x,hp,c'⟩:=q;obtain⟨bx,rfl,rfl⟩:∃bx,hp=[(.loc d,bx)]/\c'=clk+1:=zlu hm h1;have hln:h.lookup (.loc d)=none:=Yb5.1 hc.1;have hB1:∀p∈[((.loc d:BId),bx)],h.lookup p.1=none:=fun p hp=>by grind
     refine⟨hg,d,x,.loc d,bx,none,hd,by rw[show (Zk ν (Zc T) o).op=o.op from hop];exact h1,hln,hXn _ hln,h0n _ (hXn _ hln),fun o2 ho2=>(by grind),fun g hgb=>?_,zb0 hO tl h0 X c0 hX0 l _ _ _ st' K (hadd [(.loc d,bx)] hB1) (by omega) (hiadd _ hB1) h2 hK⟩;obtain⟨hk,r,hr,y,hy,hgy⟩:=hgb;have h3:=hc.2;simp only[Zgb,Ycq,List.all_nil,Ydz,hk,if_true,Yi]at h3;exact zff (h3 r hr y hy) g hgy
    grind
   grind
  | false=>
   rw[hm]at hx;cases hst:o.op.isStore with
   | true=>
    rw[hst]at hx;simp only at hx ⊢;split at hx
    ·rename_i hg hd;obtain⟨q,h1,h2⟩:=bind_some hx;split at h2
     ·rename_i hfr;obtain⟨dd,gg,op⟩:=o;subst hg hd;cases op<;>try (cases hst;done)
      rename_i n x v;obtain⟨h',e1,rfl⟩:=map_some h1;refine⟨rfl,rfl,h',?_,?_,zb0 hO tl h0 X c0 hX0 l e h' clk st' K ?_ hck ?_ h2 hK⟩
      ·show stepW (.store n x v) none e.get h clk=_;simp only[stepW,e1]
       rfl
      rotate_left 2
      ·intro id bx hid;simp only[Zel]at hfr;unfold Zak at e1;split at e1
       ·rename_i id2 g z i o hx2;rw[hx2]at hfr;obtain⟨bx2,_,e2⟩:=bind_some e1;obtain⟨r2,_,e3⟩:=bind_some e2;obtain⟨cs,_,e4⟩:=bind_some e3;split at e4
        ·cases e4;have hne:(id == id2)=false:=by
          grind
         simp only[Yak,hne];exact hinv id bx hid
        grind
       grind
      all_goals
       intro id bx hid;have h3:=hsb id bx hid;replace hid:=hX0 id bx hid;simp only[Zel]at hfr;unfold Zak at e1;split at e1
       ·rename_i id2 g z i o hx2;rw[hx2]at hfr;simp only[Yb5]at hfr;obtain⟨bx2,_,e2⟩:=bind_some e1;obtain⟨r2,_,e3⟩:=bind_some e2;obtain⟨cs,_,e4⟩:=bind_some e3
        grind
       grind
     grind
    grind
   | false=>
   rw[hst]at hx;cases hlN:o.op.lentN with
   | some ua=>
    rw[hlN]at hx;simp only at hx;split at hx
    ·rename_i d hg hd;obtain⟨q,h1,h2⟩:=bind_some hx;split at h2
     ·rename_i hfr;obtain⟨m,hm2,hcb⟩:=zma hO h1;obtain⟨dd,gg,op⟩:=o;subst hg hd;have hop:=zh9 hlN;subst hop;rw[hm2]at h2;exact .inr ⟨rfl,ν ua.1,ua.2,d,q.1,q.2.1,m,rfl,rfl,hcb,fun p hp=>by simpa using Yi.1 hfr p hp,zb0 hO tl h0 X c0 hX0 l _ _ _ st' K (hadd _ fun p hp=>by simpa using Yi.1 hfr p hp) (by omega) (hiadd _ fun p hp=>by simpa using Yi.1 hfr p hp) h2 hK⟩
     grind
    grind
   | none=>
   rw[hlN]at hx;obtain⟨x,h1,h2⟩:=bind_some hx;split at h2
   ·rename_i hc;refine .inl ?_;exact(zd6 hO (K:=fun x=>(∀g∈gnA x,Zd9 c0 (Zk ν (Zc T) o).op e.get g)/\Zar P h0 c0 X (fun e h clk=>Zcb P (tl.map (Zk ν (Zc T))) ⟨e,h,clk⟩ K) (l.map (Zk ν (Zc T))) (Zd e o.dst x) h clk) h1 ⟨zff hc,zb0 hO tl h0 X c0 hX0 l _ h clk st' K hsb hck hinv h2 hK⟩).1
   grind
def zrg{O:Orc}{u:Nat}{xs:List AV}{d:Option Nat}{st s:St}(h:Z3 O T u xs d st=some s):∃r,s.env=Zd st.env d r:=by
 unfold Z3 at h;split at h
 ·cases h
 split at h
 ·obtain⟨ys,h1,h2⟩:=bind_some h;obtain⟨r,h3,h4⟩:=bind_some h2;cases h4;exact⟨_,rfl⟩
 ·obtain⟨ys,h1,h2⟩:=bind_some h;simp only at h2;split at h2
  ·obtain⟨r,h3,h4⟩:=bind_some h2;split at h4
   ·cases h4;exact⟨_,rfl⟩
   ·cases h4
  ·cases h2
def zor{f:FuncId}{xs:List AV}{h:Heap}{K K':AV->Heap->Prop}(hk:∀r h,K r h->K' r h)(hc:Zd7 P f xs h K):Zd7 P f xs h K':=by
 obtain⟨ys,post,h1,h2,h3⟩:=hc;exact⟨ys,post,h1,h2,fun r hr=>hk _ _ (h3 r hr)⟩
def zos{f:FuncId}{xs:List AV}{h:Heap}{clk:Nat}{K K':AV->Heap->Nat->Prop}(hk:∀r h c,K r h c->K' r h c)(hc:Zd8 P f xs h clk K):Zd8 P f xs h clk K':=by
 obtain⟨ms,ys,h1,hb,hr,post,h2,h3,h4,h5⟩:=hc;refine⟨ms,ys,h1,hb,hr,post,h2,h3,h4,fun r hb' c' h6 h7=>?_⟩;obtain⟨e1,e2,e3,e4⟩:=h5 r hb' c' h6 h7;exact⟨e1,e2,e3,hk _ _ _ e4⟩
def znl{op:AOp}{e:Env}{h:Heap}{older:List Heap}{K K':AV->Prop}(hk:∀x,K x->K' x)(hc:opQ P op e h older K):opQ P op e h older K':=by
 by_cases hap:∃z x0 y,op=.app z x0 y
 ·obtain⟨z,x0,y,rfl⟩:=hap;by_cases hx:x0=.c (.sl [] .nl)
  ·subst hx;obtain⟨x,h1,h2⟩:=hc;exact⟨x,h1,hk _ h2⟩
  ·cases x0 with
   | t n=>
    obtain⟨x,h1,h2,h3⟩:=hc;exact⟨x,h1,h2,hk _ h3⟩
   | c a=>
    cases a
    case sl els f=>
     cases els with
     | nil=>
      cases f
      case nl=>exact absurd rfl hx
      all_goals
       obtain⟨x,h1,h2,h3⟩:=hc;exact⟨x,h1,h2,hk _ h3⟩
     | cons r l=>
      obtain⟨x,h1,h2,h3⟩:=hc;exact⟨x,h1,h2,hk _ h3⟩
    all_goals
     obtain⟨x,h1,h2,h3⟩:=hc;exact⟨x,h1,h2,hk _ h3⟩
 cases op<;>(try exact absurd ⟨_,_,_,rfl⟩ hap)
 case call f args=>
  obtain⟨ys,h1,r,h3,h4⟩:=hc;exact⟨ys,h1,r,h3,hk _ h4⟩
 case inv=>
  obtain⟨h0,t,y,f,h1,h2,h3,r,h4,h5⟩:=hc;exact⟨h0,t,y,f,h1,h2,h3,r,h4,hk _ h5⟩
 case bsl=>
  obtain⟨h1,q,h2,h3⟩:=hc;exact⟨h1,q,h2,hk _ h3⟩
 all_goals
  obtain⟨x,h1,h2,h3⟩:=hc;exact⟨x,h1,h2,hk _ h3⟩
def zwu{o:AO}{e:Env}{h:Heap}{older:List Heap}{K K':AV->Prop}(hk:∀x,K x->K' x)(hc:qK P o e h older K):qK P o e h older K':=by
 unfold qK at hc ⊢;split at hc
 ·exact znl hk hc
 ·split at hc
  ·split at hc
   ·rename_i hv;simp only[hv,if_true];exact znl hk hc
   ·rename_i hv;simp only[hv,if_false];exact hk _ hc
  ·exact hk _ hc
  ·exact hc
def zdi(hO:GoodO P ν T O){o:AO}{e:Env}{h:Heap}{clk:Nat}{s:St}(hx:Zc6 O T o ⟨e,h,clk⟩=some s):∃x,Zcq P (Zk ν (Zc T) o) e.get h clk x s.heap s.clk/\s.env=Zd e o.dst x:=by
 obtain⟨dst,g,op⟩:=o;unfold Zc6 at hx;simp only at hx;split at hx
 ·rename_i d u args;obtain⟨x,hx2⟩:=zrg hx;have hc:=zcy hO (K:=fun s'=>s'=s) hx rfl;refine⟨x,⟨rfl,ν u,args,rfl,?_⟩,hx2⟩;have key:∀r (h':Heap) (c:Nat),(⟨Zd e (some d) r,h',c⟩:St)=s->r=x/\h'=s.heap/\c=s.clk:=by
   intro r h' c he;subst he;simp only[Zd]at hx2
   simp_all
  rcases hc with hc | hc
  ·exact .inl (zor (fun r h' hk=>key r h' clk hk) hc)
  ·exact .inr (zos (fun r h' c hk=>key r h' c hk) hc)
 ·cases hx
def QS(P:Program)(h0 h1:Heap):List AO->Env->Env->Prop
 | [],e,e'=>e=e'
 | o::r,e,e'=>∃x,QF P h0 o e.get x/\QF P h1 o e.get x/\QS P h0 h1 r (Zd e o.dst x) e'
def ze0(hO:GoodO P ν T O){o:DO}{e:Env}{h:Heap}{older:List Heap}{r:AV×Bool}(hw:o.ao.op.writes=false)(hx:qX O T o.ao e h older=some r) :
  QF P h (Zk ν (Zc T) o.ao) e.get r.1/\(∀h'∈older,QF P h' (Zk ν (Zc T) o.ao) e.get r.1)/\((∀h',QF P h' (Zk ν (Zc T) o.ao) e.get r.1)\/(r.2=true/\o.ao.op.free=false/\∀h',Zew o.ao.op e.get h'=some r.1->QF P h' (Zk ν (Zc T) o.ao) e.get r.1)):=by
 have hw':(Zk ν (Zc T) o.ao).op.writes=false:=by
  rw[<-hw];exact za7 _
 obtain⟨hqk,k1,k2⟩:=zd6 hO (K:=fun x=>x=r.1) hx rfl;obtain⟨x,hq1,hq2,hxr⟩:=zn8 hw' hqk;subst hxr;refine⟨hq1,fun h' hh=>?_,?_⟩
 ·cases hf:(Zk ν (Zc T) o.ao).op.freeE e.get with
  | true=>exact zit hf h _ hq1
  | false=>exact hq2 hf h' hh
 ·cases hr2:r.2 with
  | false=>
   obtain⟨h3,h4⟩:=k2 hr2;exact .inl fun h'=>by
    rw[h3];exact zre h4
  | true=>
   cases hf:o.ao.op.free with
   | true=>exact .inl fun h'=>znj (znk hx hr2 hf) hq1
   | false=>exact .inr ⟨rfl,rfl,fun h' hs=>zni hf hw (k1 hr2) hs⟩
theorem zia(hO:GoodO P ν T O){K:Env->Zz->Option St}{h:Heap}:∀(l:List DO) (e:Env) (pend:Zz) (st':St),(∀o∈l,0<o.hi)->Zb6 O T K h l e pend=some st' ->
  ∃e' pend',K e' pend'=some st'/\∀h1,Zv pend' h1=true->Zv pend h1=true/\QS P h h1 (l.map fun o=>Zk ν (Zc T) o.ao) e e'
 | [],e,pend,st',_,hx=>⟨e,pend,hx,fun h1 hp=>⟨hp,rfl⟩⟩
 | o::l,e,pend,st',hhi,hx=>by
  unfold Zb6 at hx;split at hx
  ·cases hx
  rename_i hw;obtain⟨r,h1,h2⟩:=bind_some hx;obtain⟨e',pend',h3,h4⟩:=zia hO l _ _ st' (fun o ho=>hhi o (Yh _ ho)) h2;obtain⟨q1,_,q2⟩:=ze0 hO hw h1;refine⟨e',pend',h3,fun hp1 hp=>?_⟩;obtain⟨h5,h6⟩:=h4 hp1 hp;have hpn:=hhi o Yp;have hold:Zv pend hp1=true:=by
   classical
   unfold Zv;refine decide_eq_true fun p hp h0=>zbz h5 p ?_ h0;unfold Zam;split
   ·exact Yh _ hp
   ·exact hp
  refine⟨hold,r.1,q1,?_,h6⟩;rcases q2 with q2 | ⟨e1,e2,q2⟩
  ·exact q2 hp1
  ·refine q2 hp1 (zbz h5 (o.hi-0,o.ao.op,e,r.1) ?_ (by simpa using hpn));unfold Zam;rw[e1,e2];simp[hpn]
theorem zkq{h0 h1:Heap}{c0 c1:Nat}{K:St->Prop}{tl:List AO}:∀(l r:List AO) (e e':Env),QS P h0 h1 l e e'->Zb5 P tl h0 c0 h1 c1 K false r e'->Zb5 P tl h0 c0 h1 c1 K false (l++r) e
 | [],r,e,e',hq,hk=>by cases hq;exact hk
 | o::l,r,e,e',⟨x,h2,h3,h4⟩,hk=>.inl ⟨x,h2,h3,zkq l r _ e' h4 hk⟩
theorem zg0(hO:GoodO P ν T O){K:Env->Option St}{h0 h1:Heap}{c0 c1:Nat}{Q:St->Prop}{tl:List AO}{st':St}(hK:∀e,K e=some st'->Zcb P tl ⟨e,h1,c1⟩ Q):∀(l:List AO) (e:Env),Zb7 O T K h0 h1 l e=some st' ->
  Zb5 P tl h0 c0 h1 c1 Q true (l.map (Zk ν (Zc T))) e
 | [],e,hx=>⟨rfl,hK e hx⟩
 | o::l,e,hx=>by
  unfold Zb7 at hx;split at hx
  ·cases hx
  rename_i hw;obtain⟨r,e1,e2⟩:=bind_some hx;obtain⟨q1,q2,_⟩:=ze0 hO (o:=⟨o,0,0⟩) hw e1;exact .inl ⟨r.1,q2 h0 Yp,q1,zg0 hO hK l _ e2⟩
def zmb(hO:GoodO P ν T O){l1 l2 tl:List AO}{o:AO}{st st':St}{K:St->Prop}(hx:Zex O T l1 o l2 tl st=some st')(hK:K st') :
  ∃h1 c1,Zb5 P (tl.map (Zk ν (Zc T))) st.heap st.clk h1 c1 K false (l1.map (Zk ν (Zc T))++Zk ν (Zc T) o::l2.map (Zk ν (Zc T))) st.env:=by
 unfold Zex at hx;obtain⟨e',pend',h1,h2⟩:=zia hO _ _ _ st' (fun o ho=>by
  obtain⟨o',_,rfl⟩:=Yw.1 ho;exact Nat.one_pos) hx
 obtain⟨s,h3,h4⟩:=bind_some h1;split at h4
 ·rename_i hpd;obtain⟨x,hcd,henv⟩:=zdi hO h3;obtain⟨_,hqs⟩:=h2 s.heap hpd;refine⟨s.heap,s.clk,zkq _ _ _ e' (by simpa[Ybx,Function.comp_def]using hqs) (.inr ⟨rfl,x,hcd,?_⟩)⟩;show Zb5 P _ st.heap st.clk s.heap s.clk K true _ (Zd e' o.dst x);rw[<-henv];exact zg0 hO (fun e he=>zco hO tl _ st' K he hK) l2 _ h4
 ·cases h4
theorem zdw{K:St->Prop}:∀(l:List DO) (e:Env) (h:Heap) (clk:Nat) (older:List Heap) (pend:Zf5),Zdq P l e h clk older pend K->Zas P (l.map fun o=>(false,o)) e h clk older pend K
 | [],_,_,_,_,_,h=>h
 | o::l,e,h,clk,older,pend,hk=>by
  simp only[Yy,Zas];simp only[Zdq]at hk;cases hw:o.ao.op.writes with
  | true=>
   rw[hw]at hk;obtain⟨h1,q,h2,h3,h4⟩:=hk;exact⟨h1,q,h2,h3,zdw l _ _ _ _ _ h4⟩
  | false=>
   rw[hw]at hk;simp only at hk ⊢;exact zwu (fun x hx=>zdw l _ _ _ _ _ hx) hk
theorem zib(hO:GoodO P ν T O){K:Env->Zz->Option St}{h:Heap}{clk:Nat}{rest:List (Bool×DO)}{Q:St->Prop}{st':St}(hK:∀e pendX pend,Zdl pendX pend->K e pendX=some st'->Zas P rest e h clk [] pend Q) :
  ∀(l:List DO) (e:Env) (pendX:Zz) (pend:Zf5),Zdl pendX pend->Zb6 O T K h l e pendX=some st'->Zas P ((l.map fun o=>(false,Zbj ν (Zc T) o))++rest) e h clk [] pend Q
 | [],e,pendX,pend,hpr,hx=>hK e pendX pend hpr hx
 | o::l,e,pendX,pend,hpr,hx=>by
  unfold Zb6 at hx;split at hx
  ·cases hx
  rename_i hw;have hw':(Zbj ν (Zc T) o).ao.op.writes=false:=by
   rw[<-hw];exact za7 _
  obtain⟨r,h1,h2⟩:=bind_some hx;simp only[Yy,Yb6,Zas,hw',Ydj];have hk2:Zas P ((l.map fun o=>(false,Zbj ν (Zc T) o))++rest) (Zd e o.ao.dst r.1) h clk [] ((o.hi,fun h'=>QF P h' (Zk ν (Zc T) o.ao) e.get r.1)::pend) Q:=by
   refine zib hO hK l _ _ _ ?_ h2;obtain⟨_,_,q2⟩:=ze0 hO hw h1;intro q hq;rcases Yv.1 hq with rfl | hq
   ·rcases q2 with q2 | ⟨e1,e2,q2⟩
    ·exact .inl q2
    ·by_cases hn:0<o.hi
     ·refine .inr (.inr ⟨(o.hi-0,o.ao.op,e,r.1),?_,rfl,q2⟩);unfold Zam;rw[e1,e2];simp[hn]
     ·exact .inr (.inl (by show o.hi=0;omega))
   ·rcases hpr q hq with h3 | h3 | ⟨p,h3,h4,h5⟩
    ·exact .inl h3
    ·exact .inr (.inl h3)
    ·refine .inr (.inr ⟨p,?_,h4,h5⟩);unfold Zam;split
     ·exact Yh _ h3
     ·exact h3
  exact(zd6 hO (K:=fun x=>Zas P ((l.map fun o=>(false,Zbj ν (Zc T) o))++rest) (Zd e o.ao.dst x) h clk [] ((o.hi,fun h'=>QF P h' (Zk ν (Zc T) o.ao) e.get x)::pend) Q) h1 hk2).1
def zmc(hO:GoodO P ν T O){l1 l2:List DO}{o:AO}{st st':St}{K:St->Prop}(hx:Zey O T l1 o l2 st=some st')(hK:K st') :
  Zas P ((l1.map (Zbj ν (Zc T))).map (fun o=>(false,Zc8 0 o))++(true,⟨Zk ν (Zc T) o,0,0⟩)::(l2.map (Zbj ν (Zc T))).map (fun o=>(false,Zc8 0 o))) st.env st.heap st.clk [] [] K/\o.op.writes=false:=by
 unfold Zey at hx;split at hx
 ·cases hx
 rename_i hwn;refine⟨?_,by simpa using hwn⟩;have hadj:∀l:List DO,(l.map (Zbj ν (Zc T))).map (fun o=>(false,Zc8 0 o))=(l.map (Zc8 0)).map (fun o=>(false,Zbj ν (Zc T) o)):=fun l=>by
  simp only[Ybx]
  rfl
 rw[hadj l1,hadj l2];refine zib hO (fun e pendX pend hpr h1=>?_) _ _ _ _ (fun q hq=>by cases hq) hx;obtain⟨s,h3,h4⟩:=bind_some h1;split at h4
 ·rename_i hpd;obtain⟨x,hcd,henv⟩:=zdi hO h3;refine⟨x,s.heap,s.clk,hcd,fun p hp h0=>?_,?_⟩
  ·rcases hpr p hp with h5 | h5 | ⟨p',h5,h6,h7⟩
   ·exact h5 _
   ·omega
   ·exact h7 _ (zbz hpd p' h5 (by omega))
  ·show Zas P _ (Zd e o.dst x) s.heap s.clk [st.heap] _ K;rw[<-henv];have:=zcz hO (l2.map (Zc8 0)) s.env s.heap s.clk [st.heap] _ (pend.map fun p=>(p.1-1,p.2)) st' K hpr.next h4 hK;have h8:=zdw _ _ _ _ _ _ this;rw[Ybx]at h8;exact h8
 ·cases h4
theorem zrh{hs hs':List Heap}(h:∀x∈hs',x∈hs):∀(l:List AO) (e e':Env),QL P hs l e e'->QL P hs' l e e'
 | [],e,e',hq=>hq
 | o::l,e,e',⟨x,h1,h2⟩=>⟨x,fun y hy=>h1 y (h y hy),zrh h l _ _ h2⟩
theorem zic(hO:GoodO P ν T O){K:Env->Zz->Option St}{h:Heap}:∀(l:List DO) (e:Env) (pend:Zz) (st':St),(∀o∈l,0<o.hi)->Zb6 O T K h l e pend=some st' ->
  (∀o∈l,o.ao.op.writes=false)/\∃e' pend',K e' pend'=some st'/\∀hs:List Heap,(∀h1∈hs,Zv pend' h1=true)->(∀h1∈hs,Zv pend h1=true)/\QL P (h::hs) (l.map fun o=>Zk ν (Zc T) o.ao) e e'
 | [],e,pend,st',_,hx=>⟨(fun o ho=>by cases ho),e,pend,hx,fun hs hp=>⟨hp,rfl⟩⟩
 | o::l,e,pend,st',hhi,hx=>by
  unfold Zb6 at hx;split at hx
  ·cases hx
  rename_i hw;obtain⟨r,h1,h2⟩:=bind_some hx;obtain⟨hwl,e',pend',h3,h4⟩:=zic hO l _ _ st' (fun o ho=>hhi o (Yh _ ho)) h2;obtain⟨q1,_,q2⟩:=ze0 hO hw h1;refine⟨fun o' ho=>?_,e',pend',h3,fun hs hp=>?_⟩
  ·rcases Yv.1 ho with rfl | ho
   ·exact hw
   ·exact hwl o' ho
  obtain⟨h5,h6⟩:=h4 hs hp;have hpn:=hhi o Yp;refine⟨fun hp1 hm=>?_,r.1,fun hp1 hm=>?_,h6⟩
  ·classical
   unfold Zv;refine decide_eq_true fun p hp h0=>zbz (h5 hp1 hm) p ?_ h0;unfold Zam;split
   ·exact Yh _ hp
   ·exact hp
  ·rcases Yv.1 hm with rfl | hm
   ·exact q1
   ·rcases q2 with q2 | ⟨e1,e2,q2⟩
    ·exact q2 hp1
    ·refine q2 hp1 (zbz (h5 hp1 hm) (o.hi-0,o.ao.op,e,r.1) ?_ (by simpa using hpn));unfold Zam;rw[e1,e2];simp[hpn]
theorem zg1(hO:GoodO P ν T O){K:Env->Option St}{hs:List Heap}{h1:Heap}{st':St}:∀(l:List AO) (e:Env),Zb8 O T K hs h1 l e=some st' ->
  (∀o∈l,o.op.writes=false)/\∃e',K e'=some st'/\QL P (h1::hs) (l.map (Zk ν (Zc T))) e e'
 | [],e,hx=>⟨(fun o ho=>by cases ho),e,hx,rfl⟩
 | o::l,e,hx=>by
  unfold Zb8 at hx;split at hx
  ·cases hx
  rename_i hw;obtain⟨r,e1,e2⟩:=bind_some hx;obtain⟨q1,q2,_⟩:=ze0 hO (o:=⟨o,0,0⟩) hw e1;obtain⟨hwl,e',h3,h4⟩:=zg1 hO l _ e2;refine⟨fun o' ho=>?_,e',h3,r.1,fun hp hm=>?_,h4⟩
  ·rcases Yv.1 ho with rfl | ho
   ·exact hw
   ·exact hwl o' ho
  ·rcases Yv.1 hm with rfl | hm
   ·exact q1
   ·exact q2 hp hm
def zri{h h':Heap}(hs:Zi7 h h'=true):Zhn h h':=by
 classical
 unfold Zi7 at hs;intro b bx hb;exact of_decide_eq_true hs (b,bx) (zax _ _ _ hb)
def zmd(hO:GoodO P ν T O){cx:Cx}(hP:cx.P=P){l1 l2:List DO}{o:AO}{da n:Nat}{cs:List AV}{xs vs:Opd}{st st':St}{Q:Exit->St->Prop}(hx:Zds O T l1 o l2 da cs n xs vs st=some st')(hK:Q .normal st') :
  AWp cx (.draw (l1.map (Zbj ν (Zc T)) ++ ⟨Zk ν (Zc T) o,0,1⟩::(l2.map (Zbj ν (Zc T))++[⟨⟨some da,none,.alloc cs⟩,0,1⟩,⟨⟨none,none,.store n xs vs⟩,1,2⟩]))) Q st:=by
 subst hP;unfold Zds at hx;split at hx
 case isFalse=>cases hx
 rename_i hlow;simp only[Yk,Bool.not_eq_true']at hlow;obtain⟨⟨hl1,hl2⟩,how⟩:=hlow;obtain⟨hw1,e',pend',h1,h2⟩:=zic hO _ _ _ st' (fun o ho=>by
  obtain⟨o',_,rfl⟩:=Yw.1 ho;exact Nat.one_pos) hx
 obtain⟨s1,h3,h4⟩:=bind_some h1;obtain⟨s2,h5,h6⟩:=bind_some h4;split at h6
 case isFalse=>cases h6
 rename_i hc;simp only[Yk]at hc;obtain⟨⟨⟨p1,p2⟩,p3⟩,hsame,hsub⟩:=hc;obtain⟨i1,i2,i3⟩:s2.env=s1.env/\st.clk<=s1.clk/\s1.clk+1<=s2.clk:=by
  classical
  unfold Zib at hsame;exact of_decide_eq_true hsame
 obtain⟨x,hcd,henv⟩:=zdi hO h3;obtain⟨x2,hcd2,henv2⟩:=zdi hO h5;have hxx:x2=x:=by
  rw[henv,henv2]at i1;obtain⟨dst,g,op⟩:=o;unfold Zc6 at h3;simp only at h3 i1;split at h3
  ·simp only[Zd,List.cons.injEq,Prod.mk.injEq,and_true,true_and]at i1;exact i1
  ·cases h3
 subst hxx;obtain⟨hw2,e2,h7,h8⟩:=zg1 hO _ _ h6;obtain⟨h9,hst,hq2⟩:=map_some h7;subst hq2;obtain⟨_,hq1⟩:=h2 [s1.heap,(.loc da,⟨s1.clk,.str,cs.length,[cs]⟩)::st.heap,s2.heap] (fun y hy=>by
  simp only[Yv,Ydl,or_false]at hy;rcases hy with rfl | rfl | rfl
  ·exact p1
  ·exact p2
  ·exact p3)
 refine zq3 (h1:=s1.heap) (hb:=s2.heap) (hm:=s2.heap) (c1:=s1.clk) (cb:=s2.clk) (cm:=s2.clk) (e1:=e') (e2:=e2) (x:=x2) (fun d hd=>?_) (by show (Zby ν (Zc T) o.op).writes=false;rw[za7];exact how) ?_ hcd hcd2 (fun _ _ h=>h) (Yg _) ?_ (zri hsub) hst hK i2 i3
 ·unfold Zgm at hl1 hl2;rw[Yi]at hl1 hl2;rcases Yan.1 hd with hd | hd
  ·obtain⟨d',hd',rfl⟩:=Yw.1 hd;refine⟨of_decide_eq_true (hl1 d' hd'),?_⟩;show (Zby ν (Zc T) d'.ao.op).writes=false;rw[za7];exact hw1 ⟨d'.ao,0,1⟩ (Yw.2 ⟨d',hd',rfl⟩)
  ·obtain⟨d',hd',rfl⟩:=Yw.1 hd;refine⟨of_decide_eq_true (hl2 d' hd'),?_⟩;show (Zby ν (Zc T) d'.ao.op).writes=false;rw[za7];exact hw2 d'.ao (Yw.2 ⟨d',hd',rfl⟩)
 ·have:=zrh (hs':=[st.heap,s1.heap,(.loc da,⟨s1.clk,.str,cs.length,[cs]⟩)::st.heap,s2.heap]) (fun y hy=>hy) _ _ _ hq1;simpa[Ybx,Function.comp_def,Zbj]using this
 ·have:=zrh (hs':=[st.heap,s1.heap,(.loc da,⟨s1.clk,.str,cs.length,[cs]⟩)::st.heap,s2.heap]) (fun y hy=>by
   simp only[Yv,Ydl,or_false]at hy ⊢;rcases hy with h | h | h | h
   ·exact .inr (.inl h)
   ·exact .inr (.inr (.inl h))
   ·exact .inr (.inr (.inr h))
   ·exact .inl h) _ _ _ h8
  rw[henv]at this;rw[Ybx]at this ⊢;exact this
def zrj{cx:Cx}{c:AC}{st:St}{id:Nat}{o:Option (Ex×St)}{e:Ex}{st':St}(h0:∀e1 s1,o=some (e1,s1)->AWp cx c (Is e1 s1) st)
  (h:(o.bind fun r=>match r.1 with | .x j=>if j=id then some (Ex.n,r.2) else some r | _=>some r)=some (e,st')):AWp cx (.block id c) (Is e st') st:=by
 obtain⟨⟨e1,s1⟩,h1,h2⟩:=bind_some h;refine zj0 ((h0 e1 s1 h1).mono ?_)
 rintro ex s ⟨rfl,rfl⟩
 cases e1 with
 | n=>cases h2;exact⟨rfl,rfl⟩
 | x j=>
  simp only at h2;show Zc1 id _ (.exit j) _;simp only[Zc1];split at h2
  ·rename_i hj;rw[if_pos hj];cases h2;exact⟨rfl,rfl⟩
  ·rename_i hj;rw[if_neg hj];cases h2;exact⟨rfl,rfl⟩
 | r=>cases h2;exact⟨rfl,rfl⟩
 | g l=>cases h2;exact⟨rfl,rfl⟩
def zud{k:Nat}{cx:Cx}(hk:cx.clk0=k+1){c:AC}{st:St}{g:Gh}{o:Option (Ex×St)}{e:Ex}{st':St}(h0:∀e1 s1,o=some (e1,s1)->AWp cx c (Is e1 s1) st)
  (h:(o.bind fun r=>match r.1 with | .n=>(ghS k g r.2).map fun s=>(Ex.n,s) | _=>some r)=some (e,st')):AWp cx c (Is e st') st:=by
 obtain⟨⟨e1,s1⟩,h1,h2⟩:=bind_some h;intro code hc hm a w hr;refine wp_mono (h0 e1 s1 h1 code hc hm a w hr) ?_
 rintro ex a' w' ⟨s,⟨rfl,rfl⟩,hr'⟩
 cases e1 with
 | n=>
  obtain⟨s2,h3,h4⟩:=map_some h2;cases h4;exact⟨_,⟨rfl,rfl⟩,hr'.gh hk h3⟩
 | x id=>cases h2;exact⟨_,⟨rfl,rfl⟩,hr'⟩
 | r=>cases h2;exact⟨_,⟨rfl,rfl⟩,hr'⟩
 | g l=>cases h2;exact⟨_,⟨rfl,rfl⟩,hr'⟩
theorem zav(hO:GoodO P ν T O){k:Nat}{cx:Cx}(hP:cx.P=P)(hk:cx.clk0=k+1):∀(c:AX) (st:St) (e:Ex) (st':St),evX O T k c st=some (e,st')->AWp cx (er ν (Zc T) c) (Is e st') st
 | .skip,st,e,st',h=>by cases h;exact ztw ⟨rfl,rfl⟩
 | .reg l,st,e,st',h=>by
  obtain⟨s,h1,h2⟩:=map_some h;cases h2;refine zwk ?_;rw[hP];exact zco hO l st st' _ h1 ⟨rfl,rfl⟩
 | .draw l,st,e,st',h=>by
  obtain⟨s,h1,h2⟩:=map_some h;cases h2;refine ztx ?_;rw[hP];exact zcz hO l _ _ _ _ _ _ st' _ (fun q hq=>by simp at hq) h1 ⟨rfl,rfl⟩
 | .drawT hd tl,st,e,st',h=>by
  obtain⟨s,h1,h2⟩:=map_some h;cases h2;refine zjz ?_;rw[hP];exact zgz hO tl hd _ _ _ st' _ h1 ⟨rfl,rfl⟩
 | .drawM hd tl,st,e,st',h=>by
  obtain⟨s,h1,h2⟩:=map_some h;cases h2;refine zqd (zel (Zdf hd st.env) st.heap) ?_;rw[hP];exact zb0 hO tl _ _ _ (zel _ _) hd _ _ _ st' _ (zel _ _) (Yg _) (fun _ _ h=>.inl h) h1 ⟨rfl,rfl⟩
 | .drawC l1 o l2 tl,st,e,st',h=>by
  obtain⟨s,h1,h2⟩:=map_some h;cases h2;obtain⟨hp1,c1,h3⟩:=zmb hO (K:=fun s=>Is .n st' .normal s) h1 ⟨rfl,rfl⟩;rw[<-hP]at h3;exact zqz h3
 | .drawN l1 o l2,st,e,st',h=>by
  obtain⟨s,h1,h2⟩:=map_some h;cases h2;obtain⟨h3,h4⟩:=zmc hO (K:=fun s=>Is .n st' .normal s) h1 ⟨rfl,rfl⟩;rw[<-hP]at h3;refine zq0 ?_ h3;show (Zby ν (Zc T) o.op).writes=false;rw[za7];exact h4
 | .drawR hd tl,st,e,st',h=>by
  obtain⟨s,h1,h2⟩:=map_some h;cases h2;refine zjz ?_;rw[hP];exact zek hO tl hd _ _ _ st' _ h1 ⟨rfl,rfl⟩
 | .drawP l1 o l2 da cs n xs vs,st,e,st',h=>by
  obtain⟨s,h1,h2⟩:=map_some h;cases h2;exact zmd hO hP h1 ⟨rfl,rfl⟩
 | .bad,st,e,st',h=>by cases h
 | .prim f,st,e,st',h=>by cases h
 | .seq a b,st,e,st',h=>by
  obtain⟨⟨e1,s1⟩,h1,h2⟩:=bind_some h;refine zwl ((zav hO hP hk a st e1 s1 h1).mono ?_)
  rintro ex s ⟨rfl,rfl⟩
  cases e1 with
  | n=>exact zav hO hP hk b _ e st' h2
  | x id=>cases h2;exact⟨rfl,rfl⟩
  | r=>cases h2;exact⟨rfl,rfl⟩
  | g l=>cases h2;exact⟨rfl,rfl⟩
 | .cond c x y,st,e,st',h=>by
  simp only[evX]at h;split at h
  ·rename_i t ht;refine zty ht (fun h1=>?_) (fun h1=>?_)
   ·subst h1;exact zav hO hP hk x st e st' (by simpa using h)
   ·subst h1;exact zav hO hP hk y st e st' (by simpa using h)
  ·cases h
 | .block id c,st,e,st',h=>by
  obtain⟨⟨e1,s1⟩,h1,h2⟩:=bind_some h;refine zj0 ((zav hO hP hk c st e1 s1 h1).mono ?_)
  rintro ex s ⟨rfl,rfl⟩
  cases e1 with
  | n=>cases h2;exact⟨rfl,rfl⟩
  | x j=>
   simp only at h2;show Zc1 id _ (.exit j) _;simp only[Zc1];split at h2
   ·rename_i hj;rw[if_pos hj];cases h2;exact⟨rfl,rfl⟩
   ·rename_i hj;rw[if_neg hj];cases h2;exact⟨rfl,rfl⟩
  | r=>cases h2;exact⟨rfl,rfl⟩
  | g l=>cases h2;exact⟨rfl,rfl⟩
 | .loop c,st,e,st',h=>zgy (hO.loop k c st e st' (by simpa only[evX]using h) cx hP hk)
 | .exit id,st,e,st',h=>by cases h;exact ztz ⟨rfl,rfl⟩
 | .ret,st,e,st',h=>by cases h;exact zwm ⟨rfl,rfl⟩
 | .note c g,st,e,st',h=>by
  obtain⟨⟨e1,s1⟩,h1,h2⟩:=bind_some h;intro code hc hm a w hr;refine wp_mono (zav hO hP hk c st e1 s1 h1 code hc hm a w hr) ?_
  rintro ex a' w' ⟨s,⟨rfl,rfl⟩,hr'⟩
  cases e1 with
  | n=>
   obtain⟨s2,h3,h4⟩:=map_some h2;cases h4;exact⟨_,⟨rfl,rfl⟩,hr'.gh hk h3⟩
  | x id=>cases h2;exact⟨_,⟨rfl,rfl⟩,hr'⟩
  | r=>cases h2;exact⟨_,⟨rfl,rfl⟩,hr'⟩
  | g l=>cases h2;exact⟨_,⟨rfl,rfl⟩,hr'⟩
 | .lp id g c g2,st,e,st',h=>by
  obtain⟨s,h1,h2⟩:=bind_some h;have h3:((O.loop k c s).bind fun r=>match r.1 with | .x j=>if j=id then some (Ex.n,r.2) else some r | _=>some r).bind (fun r=>match r.1 with | .n=>(ghS k g2 r.2).map fun s=>(Ex.n,s) | _=>some r)=some (e,st'):=by
   rw[<-h2];cases O.loop k c s with
   | none=>rfl
   | some r=>
    obtain⟨e1,s1⟩:=r;cases e1 with
    | n=>rfl
    | r=>rfl
    | g l=>rfl
    | x j=>
     simp only[Yac];split<;>rfl
  have h4:AWp cx (.block id (.loop (er ν (Zc T) c))) (Is e st') s:=
   zud hk (fun e1 s1 he=>zrj (fun e2 s2 he2=>zgy (hO.loop k c s e2 s2 he2 cx hP hk)) he) h3
  intro code hc hm a w hr;exact h4 code hc hm a w (hr.gh hk h1)
 | .scope c,st,e,st',h=>by
  obtain⟨⟨e1,s1⟩,h1,h2⟩:=bind_some h;refine zqe ((zav hO hP hk c st e1 s1 h1).mono ?_)
  rintro ex s ⟨rfl,rfl⟩
  cases e1 with
  | g l=>cases h2
  | n=>cases h2;exact⟨fun l he=>(by cases he),rfl,rfl⟩
  | x j=>cases h2;exact⟨fun l he=>(by cases he),rfl,rfl⟩
  | r=>cases h2;exact⟨fun l he=>(by cases he),rfl,rfl⟩
 | .label l,st,e,st',h=>by cases h;exact zqf ⟨rfl,rfl⟩
 | .goto l,st,e,st',h=>by cases h;exact zt0 ⟨rfl,rfl⟩
 | .gsc l c r,st,e,st',h=>by
  have key:∀n o,Zic (fun s=>evX O T k r s) l n o=some (e,st')->∃e1 s1,o=some (e1,s1)/\GQ cx l (er ν (Zc T) r) (Is e st') n e1.out s1:=by
   intro n
   induction n with
   | zero=>intro o h;cases h
   | succ n ih=>
    intro o h;simp only[Zic]at h;obtain⟨⟨e1,s1⟩,h1,h2⟩:=bind_some h;refine⟨e1,s1,h1,?_⟩;cases e1 with
    | g j=>
     simp only at h2;split at h2
     ·rename_i hj;obtain⟨e2,s2,h3,h4⟩:=ih _ h2;refine⟨hj,(zav hO hP hk r s1 e2 s2 h3).mono ?_⟩
      rintro ex s ⟨rfl,rfl⟩
      exact h4
     ·cases h2
    | n=>cases h2;exact⟨rfl,rfl⟩
    | x j=>cases h2;exact⟨rfl,rfl⟩
    | r=>cases h2;exact⟨rfl,rfl⟩
  obtain⟨e1,s1,h1,h2⟩:=key _ _ h;refine zwn 100 ((zav hO hP hk c st e1 s1 h1).mono ?_)
  rintro ex s ⟨rfl,rfl⟩
  exact h2
 | .pre g c,st,e,st',h=>by
  obtain⟨s,h1,h2⟩:=bind_some h;intro code hc hm a w hr;exact zav hO hP hk c s e st' h2 code hc hm a w (hr.gh hk h1)
def zot{f:FuncId}{xs:List AV}{hb:Heap}{k:Nat}{ex:Bool}{x:AV}{hh:Heap}{cc:Nat}(h:Zco P f xs hb (k+1) (fun r h c=>r=x/\h=hh/\c=cc)) :
  Zco P f xs hb (k+1) (fun r h c=>r=(Zbw ex k [0] ⟨[(0,x)],hh,cc⟩).env.get 0/\h=(Zbw ex k [0] ⟨[(0,x)],hh,cc⟩).heap/\c=(Zbw ex k [0] ⟨[(0,x)],hh,cc⟩).clk):=by
 refine⟨h.1,fun w S M cargs hl hC hheap hS hM=>(h.2 w S M cargs hl hC hheap hS hM).mono ?_⟩;intro e w' ⟨v,r,h',S',M',clk',he,⟨h1,h2,h3⟩,hCr,hw⟩;subst h1;subst h2;subst h3;have hrel:Rel ⟨P,1,w,S,M,k+1⟩ ⟨[(0,r)],h',clk'⟩ { tmps:=#[v],defers:=[] } w':=by
  refine⟨S',M',rfl,rfl,fun t=>?_,hw 1⟩;cases t with
  | zero=>simp_all
  | succ t=>exact .p (.dead _)
 obtain⟨S2,M2,hr2⟩:=hrel.norm (ex:=ex) (k:=k) (live:=[0]) rfl;refine⟨v,_,_,S2,M2,_,he,⟨rfl,rfl,rfl⟩,by simpa using hr2.env 0,fun nt=>?_⟩;have:=hr2.wr;exact⟨this.heap,this.ext,this.fr,this.Snew,this.Slt,this.Mnew⟩
def Z9.res{f:FuncId}{xs:List AV}{y:AV}{ex:Bool}(h:Z9 P f xs (·=y)):Z9 P f xs (·=wkIf ex y):=
 ⟨h.1,fun w S cargs hl hC hS=>(h.2 w S cargs hl hC hS).mono fun _ _ ⟨v,r,he,hr,hb,hC⟩=>⟨v,_,he,rfl,hb,by rw[<-hr];exact hC.wkIf ex⟩⟩
def TOk(P:Program)(ν:Nat->FuncId)(T:Tbl):Prop:=∀u af,T u=some af ->
 match af.body.isPrim with
 | some f=>∀xs r,f xs=some r->Z9 P (ν u) xs (·=r)
 | none=>if af.body.isBad=true then (∀m∈Zga af,Zc2 P af.np m.1=some (ν m.2))/\(af.res.isEmpty=true->af.np=ν af.nt) else Zbh P (ν u)=some (erF ν (Zc T) af)
def GoodO.next(hT:TOk P ν T)(hm:P.follows .mixedOrders=true)(hO:GoodO P ν T O):GoodO P ν T (Zbx T O):=by
 have bad_no:∀(af:AFx) (k:Nat) (s:St) (r:Ex×St),af.body.isBad=true->evX O T k af.body s=some r->False:=by
  intro af k s r hb he;cases hbd:af.body<;>rw[hbd]at hb he<;>first | (cases hb;done) | (simp only[evX]at he;grind)
 refine⟨hO.meth,hO.fnn,fun u af xs r h hu hl hc=>?_,fun u af ms xs hb r hb' hu hl hc=>?_,fun k c st e st' h cx hP hk=>?_⟩
 ·have hTu:=hT u af hu;simp only[Zbx,hu]at hc;split at hc
  ·rename_i f hf;split at hc
   ·obtain⟨x,h1,h2⟩:=map_some hc
    grind
   grind
  rename_i hf;rw[hf]at hTu;split at hc
  ·rename_i hcond;obtain⟨⟨e,s⟩,h1,h2⟩:=bind_some hc;rw[if_neg (fun hb=>bad_no af _ _ _ hb h1)]at hTu;have key:∃x y,(e=.n\/e=.r)/\Zbp s af.res=some x/\frz s.heap x=some y/\r=wkIf af.exact y:=by
    unfold Zid at h2;cases e with
    | x id=>grind
    | g id=>grind
    | n=>
     obtain⟨x,h3,h4⟩:=bind_some h2;rw[hl]at h4;obtain⟨y,h5,h6⟩:=map_some h4
     grind
    | r=>
     obtain⟨x,h3,h4⟩:=bind_some h2;rw[hl]at h4;obtain⟨y,h5,h6⟩:=map_some h4
     grind
   obtain⟨x,y,he,h3,h5,rfl⟩:=key;refine Z9.res (zqg hTu hm hcond.1 fun cx hP hnt hclk=>((zav hO hP hclk af.body _ e s h1).mono ?_))
   rintro ex s' ⟨rfl,rfl⟩
   exact⟨by rcases he with rfl | rfl;exact .inl rfl;exact .inr rfl,x,y,h3,h5,rfl⟩
  grind
 ·have hTu:=hT u af hu;simp only[Zbx,hu]at hc;split at hc
  ·grind
  rename_i hf;rw[hf]at hTu;split at hc
  ·rename_i hcond;obtain⟨⟨e,s⟩,h1,h2⟩:=bind_some hc;rw[if_neg (fun hb=>bad_no af _ _ _ hb h1)]at hTu;have key:∃x,(e=.n\/e=.r)/\Zbp s af.res=some x/\r=(Zbw af.exact hb.length [0] ⟨[(0,x)],s.heap,s.clk⟩).env.get 0/\hb'=(Zbw af.exact hb.length [0] ⟨[(0,x)],s.heap,s.clk⟩).heap:=by
    unfold Zid at h2;cases e with
    | x id=>grind
    | g id=>grind
    | n=>
     obtain⟨x,h3,h4⟩:=bind_some h2
     grind
    | r=>
     obtain⟨x,h3,h4⟩:=bind_some h2
     grind
   obtain⟨x,he,h3,rfl,rfl⟩:=key;have hA:Zco P (ν u) xs hb (hb.length+1) (fun r h c=>r=x/\h=s.heap/\c=s.clk):=by
    refine zj1 hTu hm hcond.1 fun cx hP hnt hclk=>((zav hO hP hclk af.body _ e s h1).mono ?_)
    rintro ex s' ⟨rfl,rfl⟩
    exact⟨by rcases he with rfl | rfl;exact .inl rfl;exact .inr rfl,x,h3,rfl,rfl,rfl⟩
   have hB:=zot (ex:=af.exact) hA;refine⟨hB.1,fun w S M cargs hl hC hheap hS hM=>(hB.2 w S M cargs hl hC hheap hS hM).mono ?_⟩;intro e w' ⟨v,r,h',S',M',clk',he,⟨a1,a2,a3⟩,hCr,hw⟩;refine⟨v,r,h',S',M',clk',he,⟨a1,a2,?_⟩,hCr,hw⟩;rw[a3];simp only[Zbw,Yad]
  grind
 ·obtain⟨⟨e1,s1⟩,h1,h2⟩:=bind_some h;refine zub ((zav hO hP hk c st e1 s1 h1).mono ?_)
  rintro ex s ⟨rfl,rfl⟩
  cases e1 with
  | n=>exact hO.loop k c _ e st' h2 cx hP hk
  | x id=>cases h2;exact⟨rfl,rfl⟩
  | r=>cases h2;exact⟨rfl,rfl⟩
  | g l=>cases h2;exact⟨rfl,rfl⟩
def z69(hT:TOk P ν T):∀k nm u,(nm,u)∈Za9 T k->Zc2 P (Zc T k) nm=some (ν u):=by
 intro k nm u hm;unfold Za9 at hm;unfold Zc;cases hT':T (1000000+k) with
 | none=>grind
 | some af=>
  rw[hT']at hm;simp only at hm ⊢;split at hm
  ·rename_i hb;have:=hT _ af hT';have hp:af.body.isPrim=none:=by cases hbd:af.body<;>rw[hbd]at hb<;>first | rfl | cases hb
   grind
  grind
def fnn0(hT:TOk P ν T):∀k u,Ze1 T k=some u->Zc T k=ν u:=by
 intro k u hm;unfold Ze1 at hm;unfold Zc;cases hT':T (1000000+k) with
 | none=>grind
 | some af=>
  rw[hT']at hm;simp only at hm ⊢;split at hm
  ·rename_i hb;simp only[Yk]at hb;have:=hT _ af hT';have hp:af.body.isPrim=none:=by cases hbd:af.body<;>rw[hbd]at hb<;>first | rfl | cases hb.1.1
   grind
  grind
theorem GoodO.orcN(hT:TOk P ν T)(hm:P.follows .mixedOrders=true):∀n,GoodO P ν T (orcN T n)
 | 0=>⟨z69 hT,fnn0 hT,fun _ _ _ _ _ _ _ h=>(by cases h),fun _ _ _ _ _ _ _ _ _ h=>(by cases h),fun _ _ _ _ _ h=>(by cases h)⟩
 | n+1=>(GoodO.orcN hT hm n).next hT hm
end
end
section
open Go.RowKit
inductive Qy where
 | call (u:Nat) (xs:List AV) (hb:Heap) (r:AV×Heap)
 | loop (k:Nat) (c:AX) (st:St) (r:Ex×St)
def Holds(O:Orc):Qy->Prop
 | .call u xs hb r=>O.call u xs hb=some r
 | .loop k c st r=>O.loop k c st=some r
def Z2{α:Type}(f:Orc->Option α):Prop:=∀O r,f O=some r->∃L:List Qy,(∀q∈L,Holds O q)/\∀O',(∀q∈L,Holds O' q)->f O'=some r
def Z2.const{α:Type}(a:Option α):Z2 fun _=>a:=fun _ _ h=>⟨[],by simp,fun _ _=>h⟩
def Z2.bind{α β:Type}{g:Orc->Option α}{h:Orc->α->Option β}(hg:Z2 g)(hh:∀x,Z2 fun O=>h O x):Z2 fun O=>(g O).bind (h O):=by
 intro O r he;obtain⟨x,h1,h2⟩:=bind_some he;obtain⟨L1,a1,a2⟩:=hg O x h1;obtain⟨L2,b1,b2⟩:=hh x O r h2;refine⟨L1++L2,fun q hq=>?_,fun O' hO'=>?_⟩
 all_goals grind
def Z2.map{α β:Type}{g:Orc->Option α}(hg:Z2 g)(f:α->β):Z2 fun O=>(g O).map f:=by
 have:=hg.bind (h:=fun _ x=>some (f x)) fun x=>.const _
 grind[Option.map_eq_bind,Function.comp_def]
def Z2.call(u:Nat)(xs:List AV)(hb:Heap):Z2 fun O=>O.call u xs hb:=fun O r h=>⟨[.call u xs hb r],by simpa[Holds]using h,fun O' h'=>by simpa[Holds]using h'⟩
def Z2.loop(k:Nat)(c:AX)(st:St):Z2 fun O=>O.loop k c st:=fun O r h=>⟨[.loop k c st r],by simpa[Holds]using h,fun O' h'=>by simpa[Holds]using h'⟩
section
variable(T:Tbl)
def zg2(u:Nat)(xs:List AV)(d:Option Nat)(st:St):Z2 fun O=>Z3 O T u xs d st:=by
 unfold Z3;split
 ·exact .const _
 ·split
  ·refine Z2.bind (.const _) fun ys=>Z2.bind (.call _ _ _) fun r=>.const _
  ·refine Z2.bind (.const _) fun ys=>?_;simp only;split
   ·refine Z2.bind (.call _ _ _) fun r=>.const _
   ·exact .const _
def zrk(op:AOp)(d:Option Nat)(st:St):Z2 fun O=>opX O T op d st:=by
 by_cases hx:∃k xs,op=.xop k xs
 ·obtain⟨k,xs,rfl⟩:=hx;cases k<;>exact .const _
 cases op<;>(try exact absurd ⟨_,_,rfl⟩ hx)<;>simp only[opX]<;>first | exact .const _ | exact zg2 T _ _ _ _ | (split<;>first | exact .const _ | (split<;>first | exact .const _ | exact zg2 T _ _ _ _))
def zrl(o:AO)(st:St):Z2 fun O=>Zev O T o st:=by
 unfold Zev;split
 ·exact zrk T _ _ _
 ·unfold gX;split
  ·split
   ·exact zrk T _ _ _
   ·exact .const _
  ·exact .const _
  ·exact .const _
theorem zd7:∀(l:List AO) (st:St),Z2 fun O=>Zcd O T l st
 | [],st=>.const _
 | o::l,st=>by
  exact(zrl T o st).bind fun s=>zd7 l s
def zrm(op:AOp)(e:Env)(h:Heap)(older:List Heap):Z2 fun O=>opD O T op e h older:=by
 by_cases hap:∃z x0 y,op=.app z x0 y
 ·obtain⟨z,x0,y,rfl⟩:=hap;by_cases hc:x0=.c (.sl [] .nl)
  ·subst hc;exact .const _
  ·simp only[zl8 hc];exact .const _
 cases op<;>(try exact absurd ⟨_,_,_,rfl⟩ hap)<;>simp only[opD]<;>try exact .const _
 case call=>
  split
  ·exact .const _
  ·split
   ·exact(Z2.call _ _ _).map _
   ·exact .const _
 case inv=>
  split
  ·split
   ·split
    ·exact .const _
    ·split
     ·exact(Z2.call _ _ _).map _
     ·exact .const _
   ·exact .const _
  ·exact .const _
def zg3(o:AO)(e:Env)(h:Heap)(older:List Heap):Z2 fun O=>qX O T o e h older:=by
 unfold qX;split
 ·exact(zrm T _ _ _ _).map _
 ·split
  ·split
   ·exact(zrm T _ _ _ _).map _
   ·exact .const _
  ·exact .const _
  ·exact .const _
def zkr(u:Nat)(ys:List AV):Z2 fun O=>Zct O T u ys:=by
 unfold Zct;split
 ·exact .const _
 ·split
  ·exact(Z2.call _ _ _).map _
  ·exact .const _
theorem zdx:∀(l:List DO) (e:Env) (h:Heap) (clk:Nat) (older:List Heap) (pend:Zz),Z2 fun O=>Zao O T l e h clk older pend
 | [],e,h,clk,older,pend=>.const _
 | o::l,e,h,clk,older,pend=>by
  simp only[Zao];split
  ·split
   ·refine Z2.bind (.const _) fun q=>?_;split
    ·exact zdx l _ _ _ _ _
    ·exact .const _
   ·exact .const _
  ·split
   ·exact(zg3 T _ _ _ _).bind fun x=>zdx l _ _ _ _ _
   ·exact(zkr T _ _).bind fun x=>zdx l _ _ _ _ _
theorem zg4(tl:List AO):∀(l:List AO) (e:Env) (h:Heap) (clk:Nat),Z2 fun O=>Zbi O T tl l e h clk
 | [],e,h,clk=>zd7 T tl _
 | o::l,e,h,clk=>by
  simp only[Zbi];split
  ·exact(zg3 T _ _ _ _).bind fun x=>zg4 tl l _ _ _
  ·exact(zkr T _ _).bind fun x=>zg4 tl l _ _ _
theorem zks(tl:List AO):∀(l:List AO) (e:Env) (h:Heap) (clk:Nat),Z2 fun O=>Zcu O T tl l e h clk
 | [],e,h,clk=>zd7 T tl _
 | o::l,e,h,clk=>by
  exact(zg3 T _ _ _ _).bind fun x=>zks tl l _ _ _
def zrn(u:Nat)(xs:List AV)(d clk:Nat):Z2 fun O=>Zdr O T u xs d clk:=by
 unfold Zdr;split
 ·exact .const _
 ·split
  ·exact .const _
  ·split
   ·refine(Z2.call _ _ _).bind fun r=>?_;exact .const _
   ·exact .const _
theorem zdy(tl:List AO)(h0:Heap)(c0:Nat)(X:Heap):∀(l:List AO) (e:Env) (h:Heap) (clk:Nat),Z2 fun O=>Zaf O T tl h0 c0 X l e h clk
 | [],e,h,clk=>zd7 T tl _
 | o::l,e,h,clk=>by
  simp only[Zaf];split
  ·split
   ·split
    all_goals
     refine Z2.bind (.const _) fun q=>?_;split
     ·exact zdy tl h0 c0 X l _ _ _
     ·exact .const _
   ·exact .const _
  ·split
   ·split
    ·refine Z2.bind (.const _) fun q=>?_;split
     ·exact zdy tl h0 c0 X l _ _ _
     ·exact .const _
    ·exact .const _
   split
   ·split
    ·refine(zrn T _ _ _ _).bind fun q=>?_;split
     ·exact zdy tl h0 c0 X l _ _ _
     ·exact .const _
    ·exact .const _
   ·refine(zg3 T _ _ _ _).bind fun x=>?_;split
    ·exact zdy tl h0 c0 X l _ _ _
    ·exact .const _
theorem zfx{K:Orc->Env->Zz->Option St}(hK:∀e pend,Z2 fun O=>K O e pend)(h:Heap):∀(l:List DO) (e:Env) (pend:Zz),Z2 fun O=>Zb6 O T (K O) h l e pend
 | [],e,pend=>hK e pend
 | o::l,e,pend=>by
  simp only[Zb6];split
  ·exact .const _
  ·exact(zg3 T _ _ _ _).bind fun x=>zfx hK h l _ _
theorem zkt{K:Orc->Env->Option St}(hK:∀e,Z2 fun O=>K O e)(h0 h1:Heap):∀(l:List AO) (e:Env),Z2 fun O=>Zb7 O T (K O) h0 h1 l e
 | [],e=>hK e
 | o::l,e=>by
  simp only[Zb7];split
  ·exact .const _
  ·exact(zg3 T _ _ _ _).bind fun x=>zkt hK h0 h1 l _
def ze1(o:AO)(st:St):Z2 fun O=>Zc6 O T o st:=by
 unfold Zc6;split
 ·exact zg2 T _ _ _ _
 ·exact .const _
def zro(l1:List AO)(o:AO)(l2 tl:List AO)(st:St):Z2 fun O=>Zex O T l1 o l2 tl st:=by
 unfold Zex;refine zfx T (fun e pend=>(ze1 T _ _).bind fun s=>?_) _ _ _ _;split
 ·exact zkt T (fun e=>zd7 T _ _) _ _ _ _
 ·exact .const _
def zrp(l1:List DO)(o:AO)(l2:List DO)(st:St):Z2 fun O=>Zey O T l1 o l2 st:=by
 unfold Zey;split
 ·exact .const _
 refine zfx T (fun e pend=>(ze1 T _ _).bind fun s=>?_) _ _ _ _;split
 ·exact zdx T _ _ _ _ _ _
 ·exact .const _
theorem zku{K:Orc->Env->Option St}(hK:∀e,Z2 fun O=>K O e)(hs:List Heap)(h1:Heap):∀(l:List AO) (e:Env),Z2 fun O=>Zb8 O T (K O) hs h1 l e
 | [],e=>hK e
 | o::l,e=>by
  simp only[Zb8];split
  ·exact .const _
  ·exact(zg3 T _ _ _ _).bind fun x=>zku hK hs h1 l _
def zrq(l1:List DO)(o:AO)(l2:List DO)(da:Nat)(cs:List AV)(n:Nat)(xs vs:Opd)(st:St):Z2 fun O=>Zds O T l1 o l2 da cs n xs vs st:=by
 unfold Zds;split
 case isFalse=>exact .const _
 refine zfx T (fun e pend=>(ze1 T _ _).bind fun s1=>(ze1 T _ _).bind fun s2=>?_) _ _ _ _;split
 ·exact zku T (K:=fun _ e2=>(Zak n s2.heap (ev (Zd e2 (some da) (.ptr (.loc da) s1.clk cs.length 0 0)).get xs) (ev (Zd e2 (some da) (.ptr (.loc da) s1.clk cs.length 0 0)).get vs)).map fun h2=>⟨Zd e2 (some da) (.ptr (.loc da) s1.clk cs.length 0 0),h2,s2.clk⟩) (fun e=>.const _) _ _ _ _
 ·exact .const _
theorem zb1(k:Nat):∀(c:AX) (st:St),Z2 fun O=>evX O T k c st
 | .skip,st=>.const _
 | .reg l,st=>by exact(zd7 T l st).map _
 | .draw l,st=>by exact(zdx T l _ _ _ _ _).map _
 | .drawT hd tl,st=>by exact(zks T tl hd _ _ _).map _
 | .drawM hd tl,st=>by exact(zdy T tl _ _ _ hd _ _ _).map _
 | .drawC l1 o l2 tl,st=>by exact(zro T l1 o l2 tl st).map _
 | .drawN l1 o l2,st=>by exact(zrp T l1 o l2 st).map _
 | .drawR hd tl,st=>by exact(zg4 T tl hd _ _ _).map _
 | .drawP l1 o l2 da cs n xs vs,st=>by exact(zrq T l1 o l2 da cs n xs vs st).map _
 | .bad,st=>.const _
 | .prim f,st=>.const _
 | .seq a b,st=>by
  refine(zb1 k a st).bind fun r=>?_;obtain⟨e,s⟩:=r;cases e
  ·exact zb1 k b s
  ·exact .const _
  ·exact .const _
  ·exact .const _
 | .cond c x y,st=>by
  simp only[evX];split
  ·split
   ·exact zb1 k x st
   ·exact zb1 k y st
  ·exact .const _
 | .block id c,st=>by exact(zb1 k c st).bind fun r=>.const _
 | .loop c,st=>by exact .loop _ _ _
 | .exit id,st=>.const _
 | .ret,st=>.const _
 | .note c g,st=>by exact(zb1 k c st).bind fun r=>.const _
 | .pre g c,st=>by exact Z2.bind (.const _) fun s=>zb1 k c s
 | .scope c,st=>by exact(zb1 k c st).bind fun r=>.const _
 | .label l,st=>.const _
 | .goto l,st=>.const _
 | .gsc l c r,st=>by
  have key:∀n (f:Orc->Option (Ex×St)),Z2 f->Z2 fun O=>Zic (fun s=>evX O T k r s) l n (f O):=by
   intro n
   induction n with
   | zero=>intro f _;exact .const _
   | succ n ih=>
    intro f hf;refine hf.bind fun x=>?_;obtain⟨e,s⟩:=x;cases e
    ·exact .const _
    ·exact .const _
    ·exact .const _
    ·simp only;split
     ·exact ih _ (zb1 k r s)
     ·exact .const _
  exact key _ _ (zb1 k c st)
 | .lp id g c g2,st=>by exact Z2.bind (.const _) fun s=>(Z2.loop _ _ _).bind fun r=>.const _
def zc8(u:Nat)(xs:List AV)(hb:Heap):Z2 fun O=>(Zbx T O).call u xs hb:=by
 simp only[Zbx];split
 ·exact .const _
 ·split
  ·exact .const _
  ·split
   ·exact(zb1 T _ _ _).bind fun r=>.const _
   ·exact .const _
def zc9(k:Nat)(c:AX)(st:St):Z2 fun O=>(Zbx T O).loop k c st:=by
 refine(zb1 T k c st).bind fun r=>?_;obtain⟨e,s⟩:=r;cases e
 ·exact .loop _ _ _
 ·exact .const _
 ·exact .const _
 ·exact .const _
theorem zg5:∀(n:Nat) (q:Qy),Holds (orcN T n) q->Holds (orcN T (n+1)) q
 | 0,q,h=>by cases q<;>cases h
 | n+1,.call u xs hb r,h=>by
  obtain⟨L,h1,h2⟩:=zc8 T u xs hb _ r h;exact h2 _ fun q hq=>zg5 n q (h1 q hq)
 | n+1,.loop k c st r,h=>by
  obtain⟨L,h1,h2⟩:=zc9 T k c st _ r h;exact h2 _ fun q hq=>zg5 n q (h1 q hq)
theorem zme{n m:Nat}(h:n<=m)(q:Qy)(hq:Holds (orcN T n) q):Holds (orcN T m) q:=by
 induction h with
 | refl=>omega
 | step _ ih=>exact zg5 T _ q ih
open Classical in
noncomputable def lim{α:Type}(f:Nat->Option α):Option α:=if h:∃n a,f n=some a then f (Classical.choose h) else none
def znm{α:Type}{f:Nat->Option α}(hm:∀n m a,n<=m->f n=some a->f m=some a)(a:α):lim f=some a↔∃n,f n=some a:=by
 unfold lim;constructor
 ·intro h;split at h
  all_goals grind
 ·intro ⟨n,h⟩;have hex:∃n a,f n=some a:=⟨n,a,h⟩
  grind
noncomputable def orc:Orc:=⟨fun u xs hb=>lim fun n=>(orcN T n).call u xs hb,fun k c st=>lim fun n=>(orcN T n).loop k c st⟩
theorem zcf(q:Qy):Holds (orc T) q↔∃n,Holds (orcN T n) q:=by
 cases q with
 | call u xs hb r=>exact znm (fun n m a hnm h=>zme T hnm (.call u xs hb a) h) r
 | loop k c st r=>exact znm (fun n m a hnm h=>zme T hnm (.loop k c st a) h) r
def zmf{L:List Qy}(h:∀q∈L,Holds (orc T) q):∃n,∀q∈L,Holds (orcN T n) q:=by
 induction L with
 | nil=>simp_all
 | cons q L ih=>
  obtain⟨n,hn⟩:=ih fun q hq=>h q (Yh _ hq);obtain⟨m,hm⟩:=(zcf T q).1 (h q Yp);refine⟨max n m,fun x hx=>?_⟩
  grind[zme,Nat.le_max_right]
def zi1(u:Nat)(xs:List AV)(hb:Heap):(orc T).call u xs hb=(Zbx T (orc T)).call u xs hb:=by
 apply Option.ext;intro r;constructor
 ·intro h;obtain⟨n,hn⟩:=(zcf T (.call u xs hb r)).1 h;cases n with
  | zero=>cases hn
  | succ n=>
   obtain⟨L,h1,h2⟩:=zc8 T u xs hb _ r hn
   grind[zcf]
 ·intro h;obtain⟨L,h1,h2⟩:=zc8 T u xs hb _ r h;obtain⟨n,hn⟩:=zmf T h1;exact(zcf T (.call u xs hb r)).2 ⟨n+1,h2 _ hn⟩
def zue(k:Nat)(c:AX)(st:St):(orc T).loop k c st=(Zbx T (orc T)).loop k c st:=by
 apply Option.ext;intro r;constructor
 ·intro h;obtain⟨n,hn⟩:=(zcf T (.loop k c st r)).1 h;cases n with
  | zero=>cases hn
  | succ n=>
   obtain⟨L,h1,h2⟩:=zc9 T k c st _ r hn
   grind[zcf]
 ·intro h;obtain⟨L,h1,h2⟩:=zc9 T k c st _ r h;obtain⟨n,hn⟩:=zmf T h1;exact(zcf T (.loop k c st r)).2 ⟨n+1,h2 _ hn⟩
end
noncomputable def Zb(T:Tbl)(u:Nat)(xs:List AV):Option AV:=((orc T).call u xs []).map (·.1)
noncomputable def Zcg(T:Tbl)(u:Nat)(xs:List AV)(hb:Heap):Option (AV×Heap):=(orc T).call u xs hb
noncomputable def Zgn(T:Tbl)(k:Nat)(c:AX)(st:St):Option (Ex×St):=(orc T).loop k c st
def zg6{P:Program}{ν:Nat->FuncId}{T:Tbl}(hT:TOk P ν T)(hm:P.follows .mixedOrders=true){u:Nat}{af:AFx}{xs:List AV}{r:AV}(hu:T u=some af)(hl:af.lent=none)(h:Zb T u xs=some r):Z9 P (ν u) xs (·=r):=by
 obtain⟨⟨r',h'⟩,h1,rfl⟩:=map_some h;obtain⟨n,hn⟩:=(zcf T (.call u xs [] (r',h'))).1 h1;exact(GoodO.orcN hT hm n).pure u af xs r' h' hu hl hn
end
section
open Go.RowKit
def Tr(T:Tbl)(u:Nat):Option AFx:=T u
def u8(n:Nat):AV:=.i .u8 (n:Int)
def u32(n:Nat):AV:=.i .u32 (n:Int)
def u64(n:Nat):AV:=.i .u64 (n:Int)
@[simp] def zaem(k:IntKind)(n:Int):wkA (.i k n)=.i k n/\Z4 (.i k n)=true/\Z5 (.i k n)=true/\scalar (.i k n)=true/\pureC (.i k n)=true/\noRef (.i k n)=true/\refs (.i k n)=[]/\rfC (.i k n)=[]/\rf1 (.i k n)=[]/\rfA (.i k n)=[]/\cellsOf (.i k n)=some [.i k n]:=by and_intros<;>rfl
@[simp] def zabz{h:Heap}(k:IntKind)(n:Int):Zab h (.i k n)=some (.i k n)/\Zay h (.i k n)=some (.i k n)/\frz h (.i k n)=some (.i k n)/\Zae h (.i k n)=true/\Zal h (.i k n)=true/\Za6 h (.i k n)=true:=by and_intros<;>rfl
@[simp] def zaer{σn:BId->BId}{σg:Nat->Nat}(k:IntKind)(n:Int):rlC σn σg (.i k n)=(.i k n)/\rl1 σn σg (.i k n)=(.i k n)/\rlA σn σg (.i k n)=(.i k n):=by and_intros<;>rfl
@[simp] def zaeu(t:Bool):wkA (.b t)=.b t/\Z4 (.b t)=true/\Z5 (.b t)=true/\scalar (.b t)=true/\pureC (.b t)=true/\noRef (.b t)=true/\refs (.b t)=[]/\rfC (.b t)=[]/\rf1 (.b t)=[]/\rfA (.b t)=[]/\cellsOf (.b t)=some [.b t]:=by and_intros<;>rfl
@[simp] def zab2{h:Heap}(t:Bool):Zab h (.b t)=some (.b t)/\Zay h (.b t)=some (.b t)/\frz h (.b t)=some (.b t)/\Zae h (.b t)=true/\Zal h (.b t)=true/\Za6 h (.b t)=true:=by and_intros<;>rfl
@[simp] def zaez{σn:BId->BId}{σg:Nat->Nat}(t:Bool):rlC σn σg (.b t)=(.b t)/\rl1 σn σg (.b t)=(.b t)/\rlA σn σg (.b t)=(.b t):=by and_intros<;>rfl
@[simp] def zae2(l:List UInt8):wkA (.s l)=.s l/\Z4 (.s l)=true/\Z5 (.s l)=true/\scalar (.s l)=true/\pureC (.s l)=true/\noRef (.s l)=true/\refs (.s l)=[]/\rfC (.s l)=[]/\rf1 (.s l)=[]/\rfA (.s l)=[]/\cellsOf (.s l)=some [.s l]:=by and_intros<;>rfl
@[simp] def zab5{h:Heap}(l:List UInt8):Zab h (.s l)=some (.s l)/\Zay h (.s l)=some (.s l)/\frz h (.s l)=some (.s l)/\Zae h (.s l)=true/\Zal h (.s l)=true/\Za6 h (.s l)=true:=by and_intros<;>rfl
@[simp] def zae7{σn:BId->BId}{σg:Nat->Nat}(l:List UInt8):rlC σn σg (.s l)=(.s l)/\rl1 σn σg (.s l)=(.s l)/\rlA σn σg (.s l)=(.s l):=by and_intros<;>rfl
@[simp] def z7j(v:Value):wkA (.raw v)=.raw v/\Z4 (.raw v)=false/\Z5 (.raw v)=false/\scalar (.raw v)=false/\pureC (.raw v)=true/\noRef (.raw v)=true/\refs (.raw v)=[]/\rfC (.raw v)=[]/\rf1 (.raw v)=[]/\rfA (.raw v)=[]:=by and_intros<;>rfl
@[simp] def z38{h:Heap}(v:Value):Zab h (.raw v)=some (.raw v)/\Zay h (.raw v)=some (.raw v)/\frz h (.raw v)=some (.raw v)/\Zae h (.raw v)=true/\Zal h (.raw v)=true/\Za6 h (.raw v)=true:=by and_intros<;>rfl
@[simp] def z7o{σn:BId->BId}{σg:Nat->Nat}(v:Value):rlC σn σg (.raw v)=(.raw v)/\rl1 σn σg (.raw v)=(.raw v)/\rlA σn σg (.raw v)=(.raw v):=by and_intros<;>rfl
@[simp] def z7r{h:Heap}(els:List (List AV))(f:Fl):Zab h (.sl els f)=some (.sl els f):=rfl
@[simp] def z7s{h:Heap}(els:List (List AV))(f:Fl):Zay h (.sl els f)=some (.sl els f):=rfl
@[simp] def zab8{h:Heap}(els:List (List AV))(f:Fl):frz h (.sl els f)=some (.sl els f):=rfl
@[simp] def zyu(els:List (List AV))(f:Fl):Z4 (.sl els f)=false:=rfl
@[simp] def zyv(els:List (List AV))(f:Fl):Z5 (.sl els f)=false:=rfl
@[simp] def z04(els:List (List AV))(f:Fl):scalar (.sl els f)=false:=rfl
@[simp] def z4b(els:List (List AV))(f:Fl):pureC (.sl els f)=true:=rfl
@[simp] def z4c(els:List (List AV))(f:Fl):noRef (.sl els f)=true:=rfl
@[simp] def z7t(els:List (List AV))(f:Fl):refs (.sl els f)=[]:=rfl
@[simp] def zab9(els:List (List AV))(f:Fl):rfC (.sl els f)=[]:=rfl
@[simp] def zaca(els:List (List AV))(f:Fl):rf1 (.sl els f)=[]:=rfl
@[simp] def zacb(els:List (List AV))(f:Fl):rfA (.sl els f)=[]:=rfl
@[simp] def zacc{σn:BId->BId}{σg:Nat->Nat}(els:List (List AV))(f:Fl):rlC σn σg (.sl els f)=(.sl els f):=rfl
@[simp] def zacd{σn:BId->BId}{σg:Nat->Nat}(els:List (List AV))(f:Fl):rl1 σn σg (.sl els f)=(.sl els f):=rfl
@[simp] def zace{σn:BId->BId}{σg:Nat->Nat}(els:List (List AV))(f:Fl):rlA σn σg (.sl els f)=(.sl els f):=rfl
@[simp] def z05{h:Heap}(els:List (List AV))(f:Fl):Zae h (.sl els f)=true:=rfl
@[simp] def z06{h:Heap}(els:List (List AV))(f:Fl):Zal h (.sl els f)=true:=rfl
@[simp] def z4d{h:Heap}(els:List (List AV))(f:Fl):Za6 h (.sl els f)=true:=rfl
@[simp] def zyw(els:List (List AV))(f:Fl):cellsOf (.sl els f)=some [.sl els f]:=rfl
@[simp] def zacf(cs:List AV)(o:Nat):wkA (.ep cs o)=.ep cs o/\Z4 (.ep cs o)=false/\Z5 (.ep cs o)=false/\scalar (.ep cs o)=false/\pureC (.ep cs o)=true/\noRef (.ep cs o)=true/\refs (.ep cs o)=[]/\rfC (.ep cs o)=[]/\rf1 (.ep cs o)=[]/\rfA (.ep cs o)=[]/\cellsOf (.ep cs o)=some [.ep cs o]:=by and_intros<;>rfl
@[simp] def z7u{h:Heap}(cs:List AV)(o:Nat):Zab h (.ep cs o)=some (.ep cs o)/\Zay h (.ep cs o)=some (.ep cs o)/\frz h (.ep cs o)=some (.ep cs o)/\Zae h (.ep cs o)=true/\Zal h (.ep cs o)=true/\Za6 h (.ep cs o)=true:=by and_intros<;>rfl
@[simp] def zack{σn:BId->BId}{σg:Nat->Nat}(cs:List AV)(o:Nat):rlC σn σg (.ep cs o)=(.ep cs o)/\rl1 σn σg (.ep cs o)=(.ep cs o)/\rlA σn σg (.ep cs o)=(.ep cs o):=by and_intros<;>rfl
@[simp] def zacn(n:Nat):wkA (u8 n)=u8 n/\Z4 (u8 n)=true/\Z5 (u8 n)=true/\scalar (u8 n)=true/\pureC (u8 n)=true/\noRef (u8 n)=true/\refs (u8 n)=[]/\rfC (u8 n)=[]/\rf1 (u8 n)=[]/\rfA (u8 n)=[]/\cellsOf (u8 n)=some [u8 n]/\wkA (u32 n)=u32 n/\Z4 (u32 n)=true/\Z5 (u32 n)=true/\scalar (u32 n)=true/\pureC (u32 n)=true/\noRef (u32 n)=true/\refs (u32 n)=[]/\rfC (u32 n)=[]/\rf1 (u32 n)=[]/\rfA (u32 n)=[]/\cellsOf (u32 n)=some [u32 n]/\wkA (u64 n)=u64 n/\Z4 (u64 n)=true/\Z5 (u64 n)=true/\scalar (u64 n)=true/\pureC (u64 n)=true/\noRef (u64 n)=true/\refs (u64 n)=[]/\rfC (u64 n)=[]/\rf1 (u64 n)=[]/\rfA (u64 n)=[]/\cellsOf (u64 n)=some [u64 n]:=by and_intros<;>rfl
@[simp] def z7x{h:Heap}(n:Nat):Zab h (u8 n)=some (u8 n)/\Zay h (u8 n)=some (u8 n)/\frz h (u8 n)=some (u8 n)/\Zae h (u8 n)=true/\Zal h (u8 n)=true/\Za6 h (u8 n)=true/\Zab h (u32 n)=some (u32 n)/\Zay h (u32 n)=some (u32 n)/\frz h (u32 n)=some (u32 n)/\Zae h (u32 n)=true/\Zal h (u32 n)=true/\Za6 h (u32 n)=true/\Zab h (u64 n)=some (u64 n)/\Zay h (u64 n)=some (u64 n)/\frz h (u64 n)=some (u64 n)/\Zae h (u64 n)=true/\Zal h (u64 n)=true/\Za6 h (u64 n)=true:=by and_intros<;>rfl
@[simp] def zacs{σn:BId->BId}{σg:Nat->Nat}(n:Nat):rlC σn σg (u8 n)=(u8 n)/\rl1 σn σg (u8 n)=(u8 n)/\rlA σn σg (u8 n)=(u8 n)/\rlC σn σg (u32 n)=(u32 n)/\rl1 σn σg (u32 n)=(u32 n)/\rlA σn σg (u32 n)=(u32 n)/\rlC σn σg (u64 n)=(u64 n)/\rl1 σn σg (u64 n)=(u64 n)/\rlA σn σg (u64 n)=(u64 n):=by and_intros<;>rfl
@[simp] def z4q:wkA .dead=.dead/\Z4 .dead=false/\Z5 .dead=false/\scalar .dead=false/\pureC .dead=true/\noRef .dead=true/\refs .dead=[]/\rfC .dead=[]/\rf1 .dead=[]/\rfA .dead=[]:=by and_intros<;>rfl
@[simp] def z1j{h:Heap}:Zab h .dead=some .dead/\Zay h .dead=some .dead/\frz h .dead=some .dead/\Zae h .dead=true/\Zal h .dead=true/\Za6 h .dead=true:=by and_intros<;>rfl
@[simp] def z4v{σn:BId->BId}{σg:Nat->Nat}:rlC σn σg .dead=.dead/\rl1 σn σg .dead=.dead/\rlA σn σg .dead=.dead:=by and_intros<;>rfl
@[simp] def zacv(els:List (List AV))(f:Fl):wkA (.sl els f)=.sl (wkL els) .an:=rfl
@[simp] def z8k(cs:List AV):wkA (.agg cs)=.agg (wkR cs)/\wkA (.tup cs)=.tup (wkR cs):=by and_intros<;>rfl
@[simp] def zacw(id:BId)(g z off n:Nat):wkA (.bs id g z off n)=.bs id g z off n:=rfl
@[simp] def z8m(id:BId)(g z i o:Nat):wkA (.ptr id g z i o)=.ptr id g z i o:=rfl
@[simp] def z8n(f:Nat)(id:BId)(g z i o:Nat):wkA (.fnp f id g z i o)=.fnp f id g z i o:=rfl
@[simp] def z8o(f:Nat)(x:AV):wkA (.fnv f x)=.fnv f (wkA x):=rfl
@[simp] def z8p:wkR []=[]/\wkL []=[]:=by and_intros<;>rfl
@[simp] def z4y(c:AV)(r:List AV):wkR (c::r)=wkA c::wkR r:=rfl
@[simp] def z4z(c:List AV)(r:List (List AV)):wkL (c::r)=wkR c::wkL r:=rfl
def Zdx:AV->List BId
 | .bs id .. => [id]
 | _=>[]
@[simp] def z8r{h:Heap}(id:BId)(g z off n:Nat):(Zay h (.bs id g z off n)=(Zx h id g z).bind fun bx=>if bx.kind≠.str/\off+n<=bx.els.length then some (.sl ((bx.els.drop off).take n) .an) else none)/\(Zab h (.bs id g z off n)=(Zx h id g z).bind fun bx=>if bx.kind≠.str/\off+n<=bx.els.length then some (.sl ((bx.els.drop off).take n) .an) else none)/\(frz h (.bs id g z off n)=(Zx h id g z).bind fun bx=>if bx.kind≠.str/\off+n<=bx.els.length then some (.sl ((bx.els.drop off).take n) .an) else none)/\Zae h (.bs id g z off n)=(Zx h id g z).isSome/\Zal h (.bs id g z off n)=(Zx h id g z).isSome/\Za6 h (.bs id g z off n)=(Zx h id g z).isSome:=by and_intros<;>rfl
@[simp] def z40{h:Heap}(id:BId)(g z i o:Nat):Zay h (.ptr id g z i o)=some .dead/\Zab h (.ptr id g z i o)=some .dead/\frz h (.ptr id g z i o)=some .dead/\Zae h (.ptr id g z i o)=(Zx h id g z).isSome/\Zal h (.ptr id g z i o)=(Zx h id g z).isSome/\Za6 h (.ptr id g z i o)=(Zx h id g z).isSome:=by and_intros<;>rfl
@[simp] def z41{h:Heap}(f:Nat)(id:BId)(g z i o:Nat):Zay h (.fnp f id g z i o)=some .dead/\Zab h (.fnp f id g z i o)=some .dead/\frz h (.fnp f id g z i o)=some .dead/\Zae h (.fnp f id g z i o)=Zgk h id g/\Zal h (.fnp f id g z i o)=Zgk h id g/\Za6 h (.fnp f id g z i o)=Zgk h id g:=by and_intros<;>rfl
@[simp] def z42{h:Heap}(f:Nat)(x:AV):Zay h (.fnv f x)=some (.fnv f x)/\Zab h (.fnv f x)=some (.fnv f x)/\frz h (.fnv f x)=some (.fnv f x)/\Zae h (.fnv f x)=true/\Zal h (.fnv f x)=true/\Za6 h (.fnv f x)=true:=by and_intros<;>rfl
@[simp] def z46{h:Heap}(cs:List AV):Zab h (.agg cs)=(cs.mapM (Zay h)).map .agg/\frz h (.agg cs)=(cs.mapM (Zay h)).map .agg/\frz h (.tup cs)=(cs.mapM (Zab h)).map .tup/\Zal h (.agg cs)=cs.all (Zae h)/\Za6 h (.agg cs)=cs.all (Zae h)/\Za6 h (.tup cs)=cs.all (Zal h):=by and_intros<;>rfl
@[simp] def zzc(id:BId)(g z off n:Nat):Z4 (.bs id g z off n)=false/\Z5 (.bs id g z off n)=false/\scalar (.bs id g z off n)=false/\pureC (.bs id g z off n)=false/\noRef (.bs id g z off n)=false/\refs (.bs id g z off n)=[id]/\rfC (.bs id g z off n)=[id]/\rf1 (.bs id g z off n)=[id]/\rfA (.bs id g z off n)=[id]/\cellsOf (.bs id g z off n)=some [.bs id g z off n]:=by and_intros<;>rfl
@[simp] def zw6(id:BId)(g z i o:Nat):Z4 (.ptr id g z i o)=false/\Z5 (.ptr id g z i o)=false/\scalar (.ptr id g z i o)=false/\pureC (.ptr id g z i o)=false/\noRef (.ptr id g z i o)=false/\refs (.ptr id g z i o)=[]/\rfC (.ptr id g z i o)=[id]/\rf1 (.ptr id g z i o)=[id]/\rfA (.ptr id g z i o)=[id]/\cellsOf (.ptr id g z i o)=some [.ptr id g z i o]:=by and_intros<;>rfl
@[simp] def zw7(f:Nat)(id:BId)(g z i o:Nat):Z4 (.fnp f id g z i o)=false/\Z5 (.fnp f id g z i o)=false/\scalar (.fnp f id g z i o)=false/\pureC (.fnp f id g z i o)=false/\noRef (.fnp f id g z i o)=false/\refs (.fnp f id g z i o)=[]/\rfC (.fnp f id g z i o)=[id]/\rf1 (.fnp f id g z i o)=[id]/\rfA (.fnp f id g z i o)=[id]/\cellsOf (.fnp f id g z i o)=some [.fnp f id g z i o]:=by and_intros<;>rfl
@[simp] def zw8(f:Nat)(x:AV):Z4 (.fnv f x)=false/\Z5 (.fnv f x)=false/\scalar (.fnv f x)=false/\pureC (.fnv f x)=true/\noRef (.fnv f x)=true/\refs (.fnv f x)=[]/\rfC (.fnv f x)=[]/\rf1 (.fnv f x)=[]/\rfA (.fnv f x)=[]/\cellsOf (.fnv f x)=some [.fnv f x]:=by and_intros<;>rfl
@[simp] def zxc(cs:List AV):Z5 (.agg cs)=cs.all Z4/\scalar (.agg cs)=cs.all Z4/\scalar (.tup cs)=cs.all Z5/\pureC (.agg cs)=false/\pureC (.tup cs)=false/\noRef (.agg cs)=cs.all pureC/\noRef (.tup cs)=false/\rf1 (.agg cs)=cs.flatMap rfC/\rfA (.agg cs)=cs.flatMap rfC/\rfA (.tup cs)=cs.flatMap rf1/\cellsOf (.agg cs)=some cs:=by and_intros<;>rfl
@[simp] def zac1{σn:BId->BId}{σg:Nat->Nat}(id:BId)(g z off n:Nat):rlC σn σg (.bs id g z off n)=.bs (σn id) (σg g) z off n/\rl1 σn σg (.bs id g z off n)=.bs (σn id) (σg g) z off n/\rlA σn σg (.bs id g z off n)=.bs (σn id) (σg g) z off n:=by and_intros<;>rfl
@[simp] def z9b{σn:BId->BId}{σg:Nat->Nat}(id:BId)(g z i o:Nat):rlC σn σg (.ptr id g z i o)=.ptr (σn id) (σg g) z i o/\rl1 σn σg (.ptr id g z i o)=.ptr (σn id) (σg g) z i o/\rlA σn σg (.ptr id g z i o)=.ptr (σn id) (σg g) z i o:=by and_intros<;>rfl
@[simp] def z9c{σn:BId->BId}{σg:Nat->Nat}(f:Nat)(id:BId)(g z i o:Nat):rlC σn σg (.fnp f id g z i o)=.fnp f (σn id) (σg g) z i o/\rl1 σn σg (.fnp f id g z i o)=.fnp f (σn id) (σg g) z i o/\rlA σn σg (.fnp f id g z i o)=.fnp f (σn id) (σg g) z i o:=by and_intros<;>rfl
@[simp] def z9d{σn:BId->BId}{σg:Nat->Nat}(f:Nat)(x:AV):rlC σn σg (.fnv f x)=.fnv f x/\rl1 σn σg (.fnv f x)=.fnv f x/\rlA σn σg (.fnv f x)=.fnv f x:=by and_intros<;>rfl
@[simp] def z9k{σn:BId->BId}{σg:Nat->Nat}(cs:List AV):rl1 σn σg (.agg cs)=.agg (cs.map (rlC σn σg))/\rlA σn σg (.agg cs)=.agg (cs.map (rlC σn σg))/\rlA σn σg (.tup cs)=.tup (cs.map (rl1 σn σg)):=by and_intros<;>rfl
@[simp] def zac4(k:IntKind)(n:Int):Zdx (.i k n)=[]:=rfl
@[simp] def zac5(t:Bool):Zdx (.b t)=[]:=rfl
@[simp] def zac6(l:List UInt8):Zdx (.s l)=[]:=rfl
@[simp] def z5d(v:Value):Zdx (.raw v)=[]:=rfl
@[simp] def z9n(els:List (List AV))(f:Fl):Zdx (.sl els f)=[]:=rfl
@[simp] def z9o(cs:List AV)(o:Nat):Zdx (.ep cs o)=[]:=rfl
@[simp] def z9p(n:Nat):Zdx (u8 n)=[]/\Zdx (u32 n)=[]/\Zdx (u64 n)=[]:=by and_intros<;>rfl
@[simp] def z14:Zdx .dead=[]/\refs (.tup [])=[]:=by and_intros<;>rfl
@[simp] def z9q(id:BId)(g z off n:Nat):Zdx (.bs id g z off n)=[id]:=rfl
@[simp] def z5g(id:BId)(g z i o:Nat):Zdx (.ptr id g z i o)=[]:=rfl
@[simp] def z5h(f:Nat)(id:BId)(g z i o:Nat):Zdx (.fnp f id g z i o)=[]:=rfl
@[simp] def z5i(f:Nat)(x:AV):Zdx (.fnv f x)=[]:=rfl
@[simp] def z5j(cs:List AV):refs (.agg cs)=cs.flatMap Zdx:=rfl
@[simp] def z5k(h:Heap)(id:BId)(g z:Nat):Zx h id g z=(match h.lookup id with | some bx=>if bx.gen=g/\bx.z=z/\bx.kind≠.mp then some bx else none | none=>none):=rfl
@[simp] def z15(x:AV):wkIf true x=x/\wkIf false x=wkA x:=by and_intros<;>rfl
def zfy(n:Nat):IntKind.wrap .u32 (n:Int)=((n%4294967296:Nat):Int):=by
 simp[IntKind.wrap,IntKind.signed,IntKind.bits]
def zd8(n:Nat):IntKind.wrap .u64 (n:Int)=((n%18446744073709551616:Nat):Int):=by
 simp[IntKind.wrap,IntKind.signed,IntKind.bits]
def zxh(n:Nat):IntKind.wrap .u8 (n:Int)=((n%256:Nat):Int):=by
 simp[IntKind.wrap,IntKind.signed,IntKind.bits]
def bX(o:Option (Ex×St))(f:St->Option (Ex×St)):Option (Ex×St):=o.bind fun r=>match r.1 with | .n=>f r.2 | _=>some r
def Zfn(id:Nat)(o:Option (Ex×St)):Option (Ex×St):=o.bind fun r=>match r.1 with | .x j=>if j=id then some (.n,r.2) else some r | _=>some r
def stX(o:Option St):Option (Ex×St):=o.map fun s=>(.n,s)
def bS(o:Option St)(f:St->Option St):Option St:=o.bind f
def cnX(v:AV)(x y:Option (Ex×St)):Option (Ex×St):=match v with | .b t=>if t then x else y | _=>none
def pS(o:Option AV)(d:Option Nat)(st:St):Option St:=o.map fun x=>⟨Zd st.env d x,st.heap,st.clk⟩
def pW(o:Option (AV×Heap×Nat))(d:Option Nat)(st:St):Option St:=o.map fun q=>⟨Zd st.env d q.1,q.2.1,q.2.2⟩
def pB(o:Option (AV×Heap))(d:Option Nat)(st:St):Option St:=o.map fun q=>⟨Zd st.env d q.1,q.2,st.clk⟩
def Zg3(res:List RV)(ex:Bool)(o:Option (Ex×St)):Option AV:=
 o.bind fun r=>match r.1 with | .x _=>none | .g _=>none | _=>(Zbp r.2 res).bind fun x=>(frz r.2.heap x).map (wkIf ex)
def Zg4(res:List RV)(ex:Bool)(k:Nat)(o:Option (Ex×St)):Option (AV×Heap):=
 o.bind fun r=>match r.1 with | .x _=>none | .g _=>none | _=>(Zbp r.2 res).map fun x=>let s:=Zbw ex k [0] ⟨[(0,x)],r.2.heap,r.2.clk⟩;(s.env.get 0,s.heap)
section
variable{o o':Option (Ex×St)}{f:St->Option (Ex×St)}{s:St}
@[congr] def z5l(h:o=o'):bX o f=bX o' f:=by rw[h]
@[congr] def z5m{o o':Option St}{f:St->Option St}(h:o=o'):bS o f=bS o' f:=by rw[h]
@[congr] def z16{v v':AV}{x y:Option (Ex×St)}(h:v=v'):cnX v x y=cnX v' x y:=by rw[h]
@[simp] def bX_n:bX (some (.n,s)) f=f s:=rfl
@[simp] def bX_x(id:Nat):bX (some (.x id,s)) f=some (.x id,s):=rfl
@[simp] def bX_r:bX (some (.r,s)) f=some (.r,s):=rfl
@[simp] def z9r:bX none f=none:=rfl
@[simp] def zac7{c:Prop}[Decidable c]{a b:Option (Ex×St)}:bX (if c then a else b) f=if c then bX a f else bX b f:=by split<;>rfl
@[simp] def z5n(id:Nat){c:Prop}[Decidable c]{a b:Option (Ex×St)}:Zfn id (if c then a else b)=if c then Zfn id a else Zfn id b:=by split<;>rfl
@[simp] def z5o{res:List RV}{ex:Bool}{c:Prop}[Decidable c]{a b:Option (Ex×St)}:Zg3 res ex (if c then a else b)=if c then Zg3 res ex a else Zg3 res ex b:=by split<;>rfl
@[simp] def z5p{res:List RV}{ex:Bool}{k:Nat}{c:Prop}[Decidable c]{a b:Option (Ex×St)}:Zg4 res ex k (if c then a else b)=if c then Zg4 res ex k a else Zg4 res ex k b:=by split<;>rfl
@[simp] def zac8(id:Nat):Zfn id (some (.n,s))=some (.n,s):=rfl
@[simp] def z17(id j:Nat):Zfn id (some (.x j,s))=if j=id then some (.n,s) else some (.x j,s):=rfl
@[simp] def zac9(id:Nat):Zfn id (some (.r,s))=some (.r,s):=rfl
@[simp] def z18(id:Nat):Zfn id none=none:=rfl
@[simp] def z5q:stX (some s)=some (.n,s):=rfl
@[simp] def z5r:stX none=none:=rfl
@[simp] def z9s{f:St->Option St}:bS (some s) f=f s:=rfl
@[simp] def z9t{f:St->Option St}:bS none f=none:=rfl
@[simp] def zafa{t:Bool}{x y:Option (Ex×St)}:cnX (.b t) x y=if t then x else y:=rfl
@[simp] def z9u{x:AV}{d:Option Nat}:pS (some x) d s=some ⟨Zd s.env d x,s.heap,s.clk⟩:=rfl
@[simp] def z9v{d:Option Nat}:pS none d s=none/\pW none d s=none/\pB none d s=none:=by and_intros<;>rfl
@[simp] def z9w{x:AV}{h:Heap}{c:Nat}{d:Option Nat}:pW (some (x,h,c)) d s=some ⟨Zd s.env d x,h,c⟩:=rfl
@[simp] def z9y{x:AV}{h:Heap}{d:Option Nat}:pB (some (x,h)) d s=some ⟨Zd s.env d x,h,s.clk⟩:=rfl
@[simp] def zada{res:List RV}{ex:Bool}:(Zg3 res ex (some (.r,s))=(Zbp s res).bind fun x=>(frz s.heap x).map (wkIf ex))/\(Zg3 res ex (some (.n,s))=(Zbp s res).bind fun x=>(frz s.heap x).map (wkIf ex)):=by and_intros<;>rfl
@[simp] def zadc{res:List RV}{ex:Bool}{k:Nat}:(Zg4 res ex k (some (.r,s))=(Zbp s res).map fun x=>((Zbw ex k [0] ⟨[(0,x)],s.heap,s.clk⟩).env.get 0,(Zbw ex k [0] ⟨[(0,x)],s.heap,s.clk⟩).heap))/\(Zg4 res ex k (some (.n,s))=(Zbp s res).map fun x=>((Zbw ex k [0] ⟨[(0,x)],s.heap,s.clk⟩).env.get 0,(Zbw ex k [0] ⟨[(0,x)],s.heap,s.clk⟩).heap)):=by and_intros<;>rfl
end
section
variable{T:Tbl}{k:Nat}{st:St}{d:Option Nat}
noncomputable abbrev X(T:Tbl)(k:Nat)(c:AX)(st:St):Option (Ex×St):=evX (orc T) T k c st
noncomputable abbrev R(T:Tbl)(l:List AO)(st:St):Option St:=Zcd (orc T) T l st
@[congr] def z19{O:Orc}{c:AX}{st st':St}(h:st=st'):evX O T k c st=evX O T k c st':=by rw[h]
@[congr] def z2a{O:Orc}{op:AOp}{d:Option Nat}{st st':St}(h:st=st'):opX O T op d st=opX O T op d st':=by rw[h]
def scX(o:Option (Ex×St)):Option (Ex×St):=o.bind fun r=>match r.1 with | .g _=>none | _=>some r
@[simp] def zade:evX (orc T) T k .skip st=some (.n,st):=rfl
@[simp] def zafb{l:List AO}:evX (orc T) T k (.reg l) st=stX (Zcd (orc T) T l st):=rfl
@[simp] def zadf{l:List DO}:evX (orc T) T k (.draw l) st=stX (Zao (orc T) T l st.env st.heap st.clk [] []):=rfl
@[simp] def zafc{a b:AX}:evX (orc T) T k (.seq a b) st=bX (evX (orc T) T k a st) fun s=>evX (orc T) T k b s:=rfl
@[simp] def zadg{c:Opd}{x y:AX}:evX (orc T) T k (.cond c x y) st=cnX (ev st.env.get c) (evX (orc T) T k x st) (evX (orc T) T k y st):=rfl
@[simp] def z90{id:Nat}{c:AX}:evX (orc T) T k (.block id c) st=Zfn id (evX (orc T) T k c st):=rfl
@[simp] def zadh{c:AX}:evX (orc T) T k (.loop c) st=Zgn T k c st:=rfl
@[congr] def z2b{o o':Option (Ex×St)}(h:o=o'):scX o=scX o':=by rw[h]
@[simp] def zafd{s:St}:scX (some (.n,s))=some (.n,s)/\scX (some (.r,s))=some (.r,s):=by and_intros<;>rfl
@[simp] def zafe{j:Nat}{s:St}:scX (some (.x j,s))=some (.x j,s):=rfl
@[simp] def z91{c:Prop}[Decidable c]{a b:Option (Ex×St)}:scX (if c then a else b)=if c then scX a else scX b:=by split<;>rfl
@[simp] def z92{c:AX}:evX (orc T) T k (.scope c) st=scX (evX (orc T) T k c st):=rfl
@[simp] def z93{l:Nat}:evX (orc T) T k (.label l) st=some (.n,st)/\evX (orc T) T k (.goto l) st=some (.g l,st):=by and_intros<;>rfl
@[simp] def bX_g{l:Nat}{s:St}{f:St->Option (Ex×St)}:bX (some (.g l,s)) f=some (.g l,s):=rfl
def prX(o:Option St)(f:St->Option (Ex×St)):Option (Ex×St):=o.bind f
@[simp] def zadj{id l:Nat}{s:St}:Zfn id (some (.g l,s))=some (.g l,s):=rfl
@[simp] def zadk{id:Nat}:evX (orc T) T k (.exit id) st=some (.x id,st):=rfl
@[simp] def zafg:evX (orc T) T k .ret st=some (.r,st):=rfl
@[simp] def zadl{c:AX}{g:Gh}:evX (orc T) T k (.note c g) st=bX (evX (orc T) T k c st) fun s=>stX (ghS k g s):=rfl
@[simp] def z5s{s:St}{f:St->Option (Ex×St)}:prX (some s) f=f s:=rfl
noncomputable def Ze2(k id:Nat)(g2:Gh)(o:Option (Ex×St)):Option (Ex×St):=bX (Zfn id o) fun s=>stX (ghS k g2 s)
noncomputable def Zr(T:Tbl)(k id:Nat)(g2:Gh)(c:AX)(st:St):Option (Ex×St):=Ze2 k id g2 (Zgn T k c st)
@[simp] def zafh{c:AX}{g:Gh}:evX (orc T) T k (.pre g c) st=prX (ghS k g st) fun s=>evX (orc T) T k c s:=rfl
@[congr] def zxi{id:Nat}{g2:Gh}{c:AX}{st st':St}(h:st=st'):Zr T k id g2 c st=Zr T k id g2 c st':=by rw[h]
@[congr] def zzs{id:Nat}{g2:Gh}{o o':Option (Ex×St)}(h:o=o'):Ze2 k id g2 o=Ze2 k id g2 o':=by rw[h]
@[simp] def zadm{id j:Nat}{g2:Gh}{s:St}:Ze2 k id g2 (some (.x j,s))=if j=id then stX (ghS k g2 s) else some (.x j,s):=by
 unfold Ze2;rw[z17];split<;>simp
@[simp] def zadn{id:Nat}{g2:Gh}{s:St}:Ze2 k id g2 (some (.r,s))=some (.r,s):=rfl
@[simp] def X_lp{id:Nat}{g g2:Gh}{c:AX}:evX (orc T) T k (.lp id g c g2) st=prX (ghS k g st) fun s=>Zr T k id g2 c s:=by
 simp only[evX,prX,Zr,Ze2,bX,Zfn,stX,Zgn];cases ghS k g st with
 | none=>rfl
 | some s=>
  simp only[Yac];cases (orc T).loop k c s with
  | none=>rfl
  | some r=>
   obtain⟨e,s'⟩:=r;cases e with
   | n=>rfl
   | r=>rfl
   | g l=>rfl
   | x j=>
    simp only[Yac];split<;>rfl
def Ze3:Option (Ex×St)->Bool
 | some (.x _,_)=>true
 | some (.r,_)=>true
 | _=>false
@[simp] def zado{j:Nat}{s:St}:Ze3 (some (.x j,s))=true:=rfl
@[simp] def zadp{s:St}:Ze3 (some (.r,s))=true:=rfl
@[simp] def z5t{c:Prop}[Decidable c]{a b:Option (Ex×St)}:Ze3 (if c then a else b)=if c then Ze3 a else Ze3 b:=by split<;>rfl
@[congr] def zzt{o o':Option (Ex×St)}(h:o=o'):Ze3 o=Ze3 o':=by rw[h]
def znn{c:AX}:Zgn T k c st=bX (evX (orc T) T k c st) fun s=>Zgn T k c s:=zue T k c st
def zbc{α:Type}{id:Nat}{g2:Gh}{c:AX}(F:α->St)(I:α->Prop)(μ:α->Nat)(Q:Ex×St->Prop)
  (step:∀x,I x->(∃y,I y/\μ y<μ x/\evX (orc T) T k c (F x)=some (.n,F y))\/(∃r,Q r/\Ze3 (evX (orc T) T k c (F x))=true/\Ze2 k id g2 (evX (orc T) T k c (F x))=some r)) :
  ∀x,I x->∃r,Q r/\Zr T k id g2 c (F x)=some r:=by
 have key:∀n x,μ x=n->I x->∃r,Q r/\Zr T k id g2 c (F x)=some r:=by
  intro n
  induction n using Nat.strongRecOn with
  | _ n ih=>
   intro x hn hI;unfold Zr;rw[znn];rcases step x hI with ⟨y,h1,h2,h3⟩ | ⟨r,h1,h2,h3⟩
   ·rw[h3,bX_n];exact ih (μ y) (hn▸h2) y rfl h1
   ·refine⟨r,h1,?_⟩;rw[<-h3];generalize evX (orc T) T k c (F x)=o at h2 ⊢;cases o with
    | none=>cases h2
    | some q=>
     obtain⟨e,s⟩:=q;cases e
     ·cases h2
     ·rfl
     ·rfl
     ·cases h2
 exact fun x hI=>key _ x rfl hI
def zcc{α:Type}{id:Nat}{g2:Gh}{c:AX}(F:α->St)(I:α->Prop)(μ:α->Nat)(G:α->Option (Ex×St))
  (step:∀x,I x->(∃y,I y/\μ y<μ x/\evX (orc T) T k c (F x)=some (.n,F y)/\G y=G x)\/(Ze3 (evX (orc T) T k c (F x))=true/\Ze2 k id g2 (evX (orc T) T k c (F x))=G x)) :
  ∀x,I x->Zr T k id g2 c (F x)=G x:=by
 have key:∀n x,μ x=n->I x->Zr T k id g2 c (F x)=G x:=by
  intro n
  induction n using Nat.strongRecOn with
  | _ n ih=>
   intro x hn hI;unfold Zr;rw[znn];rcases step x hI with ⟨y,h1,h2,h3,h4⟩ | ⟨h2,h3⟩
   ·rw[h3,bX_n,<-h4];exact ih (μ y) (hn▸h2) y rfl h1
   ·rw[<-h3];generalize evX (orc T) T k c (F x)=o at h2 ⊢;cases o with
    | none=>cases h2
    | some q=>
     obtain⟨e,s⟩:=q;cases e
     ·cases h2
     ·rfl
     ·rfl
     ·cases h2
 exact fun x hI=>key _ x rfl hI
noncomputable def gS(T:Tbl)(x:AV)(want:Bool)(op:AOp)(d:Option Nat)(st:St):Option St:=gX (orc T) T x want op d st
@[simp] def zafi:Zcd (orc T) T [] st=some st:=rfl
@[simp] def zadq{d:Option Nat}{op:AOp}{l:List AO}:Zcd (orc T) T (⟨d,none,op⟩::l) st=bS (opX (orc T) T op d st) fun s=>Zcd (orc T) T l s:=rfl
@[congr] def z5u{x x':AV}{want:Bool}{op:AOp}(h:x=x'):gS T x want op d st=gS T x' want op d st:=by rw[h]
@[simp] def z94{d:Option Nat}{op:AOp}{l:List AO}{t:Nat}{w:Bool}:Zcd (orc T) T (⟨d,some (t,w),op⟩::l) st=bS (gS T (st.env.get t) w op d st) fun s=>Zcd (orc T) T l s:=rfl
@[simp] def gS_b{v want:Bool}{op:AOp}:gS T (.b v) want op d st=if v=want then opX (orc T) T op d st else some ⟨Zd st.env d (.tup []),st.heap,st.clk⟩:=rfl
@[simp] def zadr{vs:List AV}{want:Bool}{op:AOp}:gS T (.tup vs) want op d st=some ⟨Zd st.env d (.tup []),st.heap,st.clk⟩:=rfl
@[simp] def zafj{x}:opX (orc T) T (.mov x) d st=some ⟨Zd st.env d (ev st.env.get x),st.heap,st.clk⟩:=rfl
@[simp] def zads{c a b}:opX (orc T) T (.pick c a b) d st=pS (Ze8 (ev st.env.get c) (ev st.env.get a) (ev st.env.get b)) d st:=rfl
@[simp] def z95{zs ps}:opX (orc T) T (.build zs ps) d st=pS ((Zer zs (ps.map fun p=>(p.1,p.2.1,ev st.env.get p.2.2))).map .agg) d st:=rfl
@[simp] def zadt{n x}:opX (orc T) T (.load n x) d st=pS (Zdt n st.heap (ev st.env.get x)) d st:=rfl
@[simp] def zafk{o x y}:opX (orc T) T (.bin o x y) d st=pS (Z1 o (ev st.env.get x) (ev st.env.get y)) d st:=rfl
@[simp] def zafl{g ls x y}:opX (orc T) T (.eqs g ls x y) d st=pS (Zft g ls (ev st.env.get x) (ev st.env.get y)) d st:=rfl
@[simp] def z96{g x}:opX (orc T) T (.eqnil g x) d st=pS (Zdh g (ev st.env.get x)) d st:=rfl
@[simp] def zafm{g x y}:opX (orc T) T (.eqb g x y) d st=pS (Zfu g (ev st.env.get x) (ev st.env.get y)) d st:=rfl
@[simp] def O_un{o x}:opX (orc T) T (.un o x) d st=pS (Ze9 o (ev st.env.get x)) d st:=rfl
@[simp] def zadu{n x}:opX (orc T) T (.conv n x) d st=pS (Zav n (ev st.env.get x)) d st:=rfl
@[simp] def zafn{z x lo hi mx}:opX (orc T) T (.slc z x lo hi mx) d st=pS (Zes z st.heap (ev st.env.get x) (evO st.env.get lo) (evO st.env.get hi) (evO st.env.get mx)) d st:=rfl
@[simp] def z97{x lo hi}:opX (orc T) T (.slstr x lo hi) d st=pS (Zdi (ev st.env.get x) (evO st.env.get lo) (evO st.env.get hi)) d st:=rfl
@[simp] def zafo{o x}:opX (orc T) T (.fad o x) d st=pS (Zfa o st.heap (ev st.env.get x)) d st:=rfl
@[simp] def zafp{o n x}:opX (orc T) T (.fld o n x) d st=pS (Zfv o n (ev st.env.get x)) d st:=rfl
@[simp] def zafq{z x i}:opX (orc T) T (.iad z x i) d st=pS (Zfb z st.heap (ev st.env.get x) (ev st.env.get i)) d st:=rfl
@[simp] def zafr{z n x i}:opX (orc T) T (.iaa z n x i) d st=pS (Zfc z n st.heap (ev st.env.get x) (ev st.env.get i)) d st:=rfl
@[simp] def zafs{x i}:opX (orc T) T (.ixs x i) d st=pS (Zfw (ev st.env.get x) (ev st.env.get i)) d st:=rfl
@[simp] def zaft{z l n x i}:opX (orc T) T (.ixa z l n x i) d st=pS (Zfx z l n (ev st.env.get x) (ev st.env.get i)) d st:=rfl
@[simp] def zafu{x}:opX (orc T) T (.len x) d st=pS (Zfd st.heap (ev st.env.get x)) d st:=rfl
@[simp] def zadv{x}:opX (orc T) T (.lens x) d st=pS (Zeh (ev st.env.get x)) d st:=rfl
@[simp] def zadw{n}:opX (orc T) T (.lenc n) d st=some ⟨Zd st.env d (.i .i64 n),st.heap,st.clk⟩:=rfl
@[simp] def O_mm{m xs}:opX (orc T) T (.mm m xs) d st=pS (Zhy m (xs.map (ev st.env.get))) d st:=rfl
@[simp] def zafv{x n}:opX (orc T) T (.ext x n) d st=pS (Zfy n (ev st.env.get x)) d st:=rfl
@[simp] def zadx{x}:opX (orc T) T (.nilc x) d st=pS (Zdu st.heap (ev st.env.get x)) d st:=rfl
@[simp] def z98{zs}:opX (orc T) T (.alloc zs) d st=pW (Zdj zs d st.heap st.clk) d st:=rfl
@[simp] def z99{n x v}:opX (orc T) T (.store n x v) d st=pW ((Zak n st.heap (ev st.env.get x) (ev st.env.get v)).map fun h'=>(.tup [],h',st.clk)) d st:=rfl
@[simp] def zafw{z zs l c}:opX (orc T) T (.mks z zs l c) d st=pW (Zeu z zs d st.heap st.clk (ev st.env.get l) (ev st.env.get c)) d st:=rfl
@[simp] def zafx{z x y}:opX (orc T) T (.app z x y) d st=pW (Zgj z d st.heap st.clk (ev st.env.get x) (ev st.env.get y)) d st:=rfl
@[simp] def zady{n xs}:opX (orc T) T (.xop (.box n) xs) d st=pW (Z6 (.box n) (xs.map (ev st.env.get)) d st.heap st.clk) d st:=rfl
@[simp] def zadz{xs}:opX (orc T) T (.xop .cpy xs) d st=pW (Z6 .cpy (xs.map (ev st.env.get)) d st.heap st.clk) d st:=rfl
@[simp] def zaaa{xs}:opX (orc T) T (.xop .bstr xs) d st=pW (Z6 .bstr (xs.map (ev st.env.get)) d st.heap st.clk) d st:=rfl
@[simp] def zaab{n xs}:opX (orc T) T (.xop (.arsl n) xs) d st=pW (Z6 (.arsl n) (xs.map (ev st.env.get)) d st.heap st.clk) d st:=rfl
@[simp] def zaac{xs}:opX (orc T) T (.xop .apps xs) d st=pW (Z6 .apps (xs.map (ev st.env.get)) d st.heap st.clk) d st:=rfl
@[simp] def zad0{xs}:opX (orc T) T (.xop .bad xs) d st=pW (Z6 .bad (xs.map (ev st.env.get)) d st.heap st.clk) d st:=rfl
@[simp] def zafy{n xs}:opX (orc T) T (.xop (.mkf n) xs) d st=pW (Z6 (.mkf (Zc T n)) (xs.map (ev st.env.get)) d st.heap st.clk) d st:=rfl
@[simp] def zad1{k zv ok x i}:opX (orc T) T (.look k zv ok x i) d st=pS (Zcy k zv ok st.heap (ev st.env.get x) (ev st.env.get i)) d st:=rfl
@[simp] def zad2{xs}:opX (orc T) T (.xop .mmap xs) d st=pW (Z6 .mmap (xs.map (ev st.env.get)) d st.heap st.clk) d st:=rfl
@[simp] def zad3{k xs}:opX (orc T) T (.xop (.mupd k) xs) d st=pW (Z6 (.mupd k) (xs.map (ev st.env.get)) d st.heap st.clk) d st:=rfl
@[simp] def zxj{dd:Option Nat}{h:Heap}{clk:Nat}:Z6 .mmap [] dd h clk=Zf7 dd h clk:=rfl
@[simp] def zxk{n:Nat}{h:Heap}{clk:Nat}:Zf7 (some n) h clk=some (.fnp 0 (.loc n) clk 2 0 0,(.loc n,⟨clk,.mp,2,[]⟩)::h,clk+1):=rfl
@[simp] def z5v(h:Heap)(id:BId)(g:Nat):Zd6 h id g=(match h.lookup id with | some bx=>if bx.gen=g/\bx.z=2/\bx.kind=.mp then some bx else none | none=>none):=rfl
@[simp] def zzu{k:KTy}{zv:AV}{ok:Bool}{h:Heap}{id:BId}{g:Nat}{i:AV}:Zcy k zv ok h (.fnp 0 id g 2 0 0) i=(Zd6 h id g).bind fun bx=>if (Zcl k i i).isSome&&noRef i then (Zd5 k i bx.els).map fun r=>
   if ok then .tup [r.getD zv,.b r.isSome] else r.getD zv else none:=rfl
@[simp] def z2c{k k':IntKind}{a b:Int}:Zcl .int (.i k a) (.i k' b)=if k=k' then some (a == b) else none:=rfl
@[simp] def z5w{ls:List (Nat×Leaf)}{xs ys:List AV}:Zcl (.fs ls) (.agg xs) (.agg ys)=eqL ls xs ys:=rfl
@[simp] def zzv:Zhe (some none)=true:=rfl
@[simp] def z2d{k:KTy}{x:AV}:Zd5 k x []=some none:=rfl
@[simp] def zxl{k:KTy}{id:BId}{g:Nat}{i y:AV}{dd:Option Nat}{h:Heap}{clk:Nat}:Z6 (.mupd k) [.fnp 0 id g 2 0 0,i,y] dd h clk =
  (Zd6 h id g).bind fun bx=>if (Zcl k i i).isSome&&noRef i&&noRef y&&Zhe (Zd5 k i bx.els) then some (.dead,(id,⟨g,.mp,2,bx.els++[[i,y]]⟩)::h,clk) else none:=rfl
@[simp] def zafz{n xs}:opX (orc T) T (.xop (.mkv n) xs) d st=pW (Z6 (.mkv (Zc T n)) (xs.map (ev st.env.get)) d st.heap st.clk) d st:=rfl
@[simp] def zzw{f:Nat}{x:AV}{dd:Option Nat}{h:Heap}{clk:Nat}:Z6 (.mkv f) [x] dd h clk=if noRef x=true then some (.fnv f x,h,clk) else none:=rfl
@[simp] def zaf0{z zs n ps}:opX (orc T) T (.bsl z zs n ps) d st=pB (Zcn z zs n st.heap (ps.map fun p=>(p.1,ev st.env.get p.2))) d st:=rfl
@[simp] def zad4{u args}:opX (orc T) T (.call u args) d st=Z3 (orc T) T u (args.map (ev st.env.get)) d st:=rfl
def cR(r:Option AV)(xs:List AV)(d:Option Nat)(st:St):Option St:=
 r.map fun r=>⟨Zd st.env d r,if scalar r then st.heap else Zn (xs.flatMap refs) st.heap,st.clk⟩
@[congr] def z5x{r r':Option AV}{xs:List AV}(h:r=r'):cR r xs d st=cR r' xs d st:=by rw[h]
def bL(o:Option (List AV))(f:List AV->Option St):Option St:=o.bind f
@[simp] def zaad{r:AV}{xs:List AV}:cR (some r) xs d st=some ⟨Zd st.env d r,if scalar r then st.heap else Zn (xs.flatMap refs) st.heap,st.clk⟩:=rfl
@[congr] def z5y{o o':Option (List AV)}{f:List AV->Option St}(h:o=o'):bL o f=bL o' f:=by rw[h]
def Zhp(h:Heap):List AV->Option (List AV)
 | []=>some []
 | x::l=>(Zab h x).bind fun y=>(Zhp h l).map fun ys=>y::ys
@[simp] def zaae{xs:List AV}{f:List AV->Option St}:bL (some xs) f=f xs:=rfl
theorem zrr(h:Heap):∀l:List AV,l.mapM (Zab h)=Zhp h l
 | []=>rfl
 | x::l=>by simp only[Ya8,Zhp,zrr h l,Ybq,Yca,Option.map_eq_bind,Function.comp_def]
attribute [simp] Zhp Zf4 Zb4 Zek
def zbp{u:Nat}{xs:List AV}{np nt:Nat}{res:List RV}{b:AX}{ex:Bool}(hT:Tr T u=some ⟨np,nt,res,b,none,ex⟩) :
  Z3 (orc T) T u xs d st=bL (Zhp st.heap xs) fun ys=>cR (Zb T u (ys.map (wkIf ex))) xs d st:=by
 change T u=_ at hT
 unfold Z3 bL cR Zb;rw[hT];simp only[zrr];congr 1
 funext ys
 cases (orc T).call u (ys.map (wkIf ex)) []<;>rfl
def zaa{u:Nat}{xs:List AV}{np nt:Nat}{res:List RV}{b:AX}{ex:Bool}(hT:Tr T u=some ⟨np,nt,res,b,none,ex⟩)(hn:xs.length=np)(hp:b.isPrim=none:=by rfl) :
  Zb T u xs=Zg3 res ex (evX (orc T) T 0 b ⟨Zbu xs,[],1⟩):=by
 change T u=_ at hT
 unfold Zb Zg3;rw[zi1];simp only[Zbx,hT,hp];rw[if_pos ⟨hn,by simp⟩];simp only[Ybi,Yao];cases evX (orc T) T 0 b ⟨Zbu xs,[],1⟩ with
 | none=>rfl
 | some r=>
  obtain⟨e,s⟩:=r;cases e<;>simp only[Yac,Zid,Yds]<;>(cases Zbp s res<;>simp only[Option.bind_none,Yds,Yac]<;>cases frz s.heap _<;>rfl)
def zid{u:Nat}{xs:List AV}{np nt:Nat}{res:List RV}{f:List AV->Option AV}{ex:Bool}(hT:Tr T u=some ⟨np,nt,res,.prim f,none,ex⟩):Zb T u xs=f xs:=by
 change T u=_ at hT
 unfold Zb;rw[zi1];simp only[Zbx,hT,AX.isPrim];cases f xs<;>simp
def zc3{u:Nat}{xs:List AV}{hb:Heap}{np nt:Nat}{res:List RV}{b:AX}{ms:List Bool}{ex:Bool}(hT:Tr T u=some ⟨np,nt,res,b,some ms,ex⟩)(hn:xs.length=np)(hp:b.isPrim=none:=by rfl) :
  Zcg T u xs hb=Zg4 res ex hb.length (evX (orc T) T hb.length b ⟨Zbu xs,hb,hb.length+1⟩):=by
 change T u=_ at hT
 unfold Zcg Zg4;rw[zi1];simp only[Zbx,hT,hp];rw[if_pos ⟨hn,by simp⟩];cases evX (orc T) T hb.length b ⟨Zbu xs,hb,hb.length+1⟩ with
 | none=>rfl
 | some r=>
  obtain⟨e,s⟩:=r;cases e<;>simp only[Yac,Zid]<;>(cases Zbp s res<;>rfl)
def Zie(l:List BId)(hp h1:Heap)(r:Option (AV×Heap))(d:Option Nat)(st:St):Option St:=
 r.bind fun r=>
  let hb':=r.2.map fun p=>(Zac l (d.getD 0) p.1,Zw true (Zac l (d.getD 0)) (Zah hp st.clk) p.2)
  let r':=rlA (Zac l (d.getD 0)) (Zah hp st.clk) r.1
  if (hb'.map (·.1)).Nodup&&Za6 hb' r'&&Zfj hb' then
   some ⟨Zd st.env d r',hb'++(h1.filter fun p=>!(l.contains p.1 || (hb'.map (·.1)).contains p.1)),st.clk+r.2.length+2⟩
  else none
@[congr] def zzx{l:List BId}{hp h1:Heap}{r r':Option (AV×Heap)}(h:r=r'):Zie l hp h1 r d st=Zie l hp h1 r' d st:=by rw[h]
noncomputable def Zhh(ys:List AV)(h1:Heap)(l:List BId)(T:Tbl)(u:Nat)(ex:Bool)(d:Option Nat)(st:St):Option St:=
 if (Zcs h1 l).map (·.1)=l/\l.Nodup then
  Zie l (Zcs h1 l) h1 (Zcg T u (ys.map fun y=>rlA (inN l) (inG (Zcs h1 l)) (wkIf ex y)) ((Zcs h1 l).map fun p=>(inN l p.1,Zw ex (inN l) (inG (Zcs h1 l)) p.2))) d st
 else none
@[simp] def z2e{l:List BId}{hp h1:Heap}{r:AV}{h2:Heap}:Zie l hp h1 (some (r,h2)) d st =
  (if ((h2.map fun p=>(Zac l (d.getD 0) p.1,Zw true (Zac l (d.getD 0)) (Zah hp st.clk) p.2)).map (·.1)).Nodup&&Za6 (h2.map fun p=>(Zac l (d.getD 0) p.1,Zw true (Zac l (d.getD 0)) (Zah hp st.clk) p.2)) (rlA (Zac l (d.getD 0)) (Zah hp st.clk) r)&&Zfj (h2.map fun p=>(Zac l (d.getD 0) p.1,Zw true (Zac l (d.getD 0)) (Zah hp st.clk) p.2)) then
   some ⟨Zd st.env d (rlA (Zac l (d.getD 0)) (Zah hp st.clk) r),(h2.map fun p=>(Zac l (d.getD 0) p.1,Zw true (Zac l (d.getD 0)) (Zah hp st.clk) p.2))++(h1.filter fun p=>!(l.contains p.1 || ((h2.map fun p=>(Zac l (d.getD 0) p.1,Zw true (Zac l (d.getD 0)) (Zah hp st.clk) p.2)).map (·.1)).contains p.1)),st.clk+h2.length+2⟩
  else none):=rfl
attribute [simp] Zhh Zac Zah inN inG Zde Zfj
def zou{u:Nat}{xs:List AV}{np nt:Nat}{res:List RV}{b:AX}{ms:List Bool}{ex:Bool}(hT:Tr T u=some ⟨np,nt,res,b,some ms,ex⟩) :
  Z3 (orc T) T u xs d st=bL (Zf4 st.heap ms xs) fun ys=>Zhh ys (Zn (Zb4 ms xs) st.heap) (Zeb (Zn (Zb4 ms xs) st.heap) 40 (Zek ms xs) []) T u ex d st:=by
 change T u=_ at hT
 unfold Z3 bL Zhh Zie Zcg;rw[hT]
def bD(o:Option (AV×Bool))(f:AV×Bool->Option St):Option St:=o.bind f
@[congr] def z5z{o o':Option (AV×Bool)}{f:AV×Bool->Option St}(h:o=o'):bD o f=bD o' f:=by rw[h]
def bWr(o:Option (AV×Heap×Nat))(f:AV×Heap×Nat->Option St):Option St:=o.bind f
@[simp] def zaaf{e:AV×Bool}{f:AV×Bool->Option St}:bD (some e) f=f e:=rfl
@[congr] def z2f{o o':Option (AV×Heap×Nat)}{f:AV×Heap×Nat->Option St}(h:o=o'):bWr o f=bWr o' f:=by rw[h]
def iP(b:Bool)(x:Option St):Option St:=if b then x else none
@[simp] def z50{q:AV×Heap×Nat}{f:AV×Heap×Nat->Option St}:bWr (some q) f=f q:=rfl
@[congr] def z51{b b':Bool}{x:Option St}(h:b=b'):iP b x=iP b' x:=by rw[h]
@[simp] def zaag{x:Option St}:iP true x=x:=rfl
@[simp] def zzy{h:Heap}:Zv [] h=true:=by
 classical
 unfold Zv;exact decide_eq_true fun p hp=>by cases hp
@[simp] def zxm{q:AOp×Env×AV}{l:Zz}{h:Heap}:Zv ((0,q)::l) h=Zv l h:=by
 classical
 unfold Zv;refine decide_eq_decide.2 ⟨fun h1 p hp=>h1 p (Yh _ hp),fun h1 p hp h0=>?_⟩;rcases Yv.1 hp with rfl | hp
 ·cases h0
 ·exact h1 p hp h0
@[simp] def zxn{n:Nat}{op:AOp}{e:Env}{x:AV}{l:Zz}{h:Heap}(hs:Zew op e.get h=some x):Zv ((n,op,e,x)::l) h=Zv l h:=by
 classical
 unfold Zv;refine decide_eq_decide.2 ⟨fun h1 p hp=>h1 p (Yh _ hp),fun h1 p hp h0=>?_⟩;rcases Yv.1 hp with rfl | hp
 ·exact hs
 ·exact h1 p hp h0
def zov{op:AOp}{e:Env}{older:List Heap}{x:AV}(hf:op.free=true):Zec op e older x=true:=by unfold Zec;rw[hf];rfl
def zrs{op:AOp}{e:Env}{x:AV}:Zec op e [] x=true:=by
 classical
 unfold Zec;rw[Ybm];exact .inr (decide_eq_true fun h' hh=>by cases hh)
noncomputable def rD(T:Tbl)(q:Option (Nat×List AV))(o:DO)(r:List DO)(e:Env)(h:Heap)(clk:Nat)(older:List Heap)(pend:Zz):Option St:=
 match q with
 | none=>bD (qX (orc T) T o.ao e h (older.take (older.length-o.lo))) fun x=>Zao (orc T) T r (Zd e o.ao.dst x.1) h clk older (Zam o older.length e x pend)
 | some p=>(Zct (orc T) T p.1 p.2).bind fun x=>Zao (orc T) T r (Zd e o.ao.dst x) h clk older (if older.length<o.hi then (o.hi-older.length,o.ao.op,e,.tup p.2)::pend else pend)
noncomputable def bAV(o:Option AV)(f:AV->Option St):Option St:=o.bind f
@[simp] def zaah{o:DO}{r:List DO}{e:Env}{h:Heap}{clk:Nat}{older:List Heap}{pend:Zz}:rD T none o r e h clk older pend=bD (qX (orc T) T o.ao e h (older.take (older.length-o.lo))) fun x=>Zao (orc T) T r (Zd e o.ao.dst x.1) h clk older (Zam o older.length e x pend):=rfl
@[simp] def z52{x:AV}{f:AV->Option St}:bAV (some x) f=f x:=rfl
@[simp] def zaai{u:Nat}{ys:List AV}{o:DO}{r:List DO}{e:Env}{h:Heap}{clk:Nat}{older:List Heap}{pend:Zz}:rD T (some (u,ys)) o r e h clk older pend=bAV (Zct (orc T) T u ys) fun x=>Zao (orc T) T r (Zd e o.ao.dst x) h clk older (if older.length<o.hi then (o.hi-older.length,o.ao.op,e,.tup ys)::pend else pend):=rfl
open Classical in
noncomputable def rK(u:Nat)(xs ys:List AV)(older:List Heap):Option (Nat×List AV):=if decide (∀h'∈older,Za2 h' xs=some ys)=true then some (u,ys) else none
@[simp] def zaaj{g:Option (Nat×Bool)}{e:Env}{h:Heap}{older:List Heap}:Zdw g none e h older=none:=by cases g<;>rfl
@[simp] def zaak{g:Nat×Bool}{c:Option (Nat×List Opd)}{e:Env}{h:Heap}{older:List Heap}:Zdw (some g) c e h older=none:=by cases c<;>rfl
noncomputable def rC(c:Bool)(u:Nat)(xs:List AV)(h:Heap)(older:List Heap):Option (Nat×List AV):=
 match c with
 | true=>none
 | false=>(Za2 h xs).bind fun ys=>rK u xs ys older
@[congr] def z53{c c':Bool}{u:Nat}{xs:List AV}{h:Heap}{older:List Heap}(h1:c=c'):rC c u xs h older=rC c' u xs h older:=by rw[h1]
@[simp] def zaal{u:Nat}{xs:List AV}{h:Heap}{older:List Heap}:rC true u xs h older=none/\(rC false u xs h older=(Za2 h xs).bind fun ys=>rK u xs ys older):=by and_intros<;>rfl
@[simp] def z2g{q:Nat×List Opd}{e:Env}{h:Heap}{older:List Heap}:Zdw none (some q) e h older=rC ((q.2.map (ev e.get)).all noRef) q.1 (q.2.map (ev e.get)) h older:=by
 classical
 unfold Zdw Zh9 rC;cases hc:(q.2.map (ev e.get)).all noRef with
 | true=>simp only[hc,if_true,Yds]
 | false=>
  simp only[hc,Yal,if_false];cases Za2 h (q.2.map (ev e.get)) with
  | none=>rfl
  | some ys=>
   simp only[Yac,rK];split<;>rfl
noncomputable def dX(T:Tbl)(wr:Bool)(o:DO)(r:List DO)(e:Env)(h:Heap)(clk:Nat)(older:List Heap)(pend:Zz):Option St:=
 match wr with
 | true=>if o.ao.guard.isNone then bWr (stepW o.ao.op o.ao.dst e.get h clk) fun q=>iP (Zv pend q.2.1) (Zao (orc T) T r (Zd e o.ao.dst q.1) q.2.1 q.2.2 (h::older) (pend.map fun p=>(p.1-1,p.2))) else none
 | false=>rD T (Zdw o.ao.guard o.ao.op.callN e h (older.take (older.length-o.lo))) o r e h clk older pend
@[congr] def zxo{l:List DO}{e e':Env}{h h':Heap}{clk clk':Nat}{older older':List Heap}{pend pend':Zz}(h1:e=e')(h2:h=h')(h3:clk=clk')(h4:older=older')(h5:pend=pend'):Zao (orc T) T l e h clk older pend=Zao (orc T) T l e' h' clk' older' pend':=by rw[h1,h2,h3,h4,h5]
@[simp] def z2h{e:Env}{h:Heap}{clk:Nat}{older:List Heap}{pend:Zz}:Zao (orc T) T [] e h clk older pend=some ⟨e,h,clk⟩:=rfl
@[simp] def zzz{o:DO}{r:List DO}{e:Env}{h:Heap}{clk:Nat}{older:List Heap}{pend:Zz}:Zao (orc T) T (o::r) e h clk older pend=dX T o.ao.op.writes o r e h clk older pend:=by
 unfold dX;rw[Zao];cases o.ao.op.writes with
 | true=>rfl
 | false=>
  unfold rD;simp only;cases Zdw o.ao.guard o.ao.op.callN e h (older.take (older.length-o.lo))<;>rfl
def dV(o:Option AV):Option (AV×Bool):=o.map fun x=>(x,true)
noncomputable def gD(T:Tbl)(x:AV)(want:Bool)(op:AOp)(e:Env)(h:Heap)(older:List Heap):Option (AV×Bool):=
 match x with
 | .b v=>if v=want then dV (opD (orc T) T op e h older) else some (.tup [],false)
 | .tup []=>some (.tup [],false)
 | _=>none
noncomputable def dC(o:Option AV)(op:AOp)(older:List Heap)(e:Env):Option AV:=o.bind fun x=>if Zec op e older x then some x else none
@[simp] def zaam{o:DO}{r:List DO}{e:Env}{h:Heap}{clk:Nat}{older:List Heap}{pend:Zz}:(dX T true o r e h clk older pend=if o.ao.guard.isNone then bWr (stepW o.ao.op o.ao.dst e.get h clk) fun q=>iP (Zv pend q.2.1) (Zao (orc T) T r (Zd e o.ao.dst q.1) q.2.1 q.2.2 (h::older) (pend.map fun p=>(p.1-1,p.2))) else none)/\dX T false o r e h clk older pend=rD T (Zdw o.ao.guard o.ao.op.callN e h (older.take (older.length-o.lo))) o r e h clk older pend:=by and_intros<;>rfl
@[simp] def zaan{x:AV}:dV (some x)=some (x,true):=rfl
@[simp] def zaao:dV none=none:=rfl
@[simp] def zaap{op:AOp}{e:Env}{h:Heap}{older:List Heap}:qX (orc T) T ⟨d,none,op⟩ e h older=dV (opD (orc T) T op e h older):=rfl
@[simp] def zaaq{t:Nat}{want:Bool}{op:AOp}{e:Env}{h:Heap}{older:List Heap}:qX (orc T) T ⟨d,some (t,want),op⟩ e h older=gD T (e.get t) want op e h older:=rfl
@[simp] def gD_b{v want:Bool}{op:AOp}{e:Env}{h:Heap}{older:List Heap}:gD T (.b v) want op e h older=if v=want then dV (opD (orc T) T op e h older) else some (.tup [],false):=rfl
@[simp] def zad5{want:Bool}{op:AOp}{e:Env}{h:Heap}{older:List Heap}:gD T (.tup []) want op e h older=some (.tup [],false):=rfl
@[congr] def z56{o o':Option AV}{op:AOp}{older:List Heap}{e:Env}(h1:o=o'):dC o op older e=dC o' op older e:=by rw[h1]
@[simp] def zad6{x:AV}{op:AOp}{e:Env}:dC (some x) op [] e=some x:=by
 unfold dC;rw[Yac,zrs]
 rfl
def za8{op:AOp}{h:Heap}{older:List Heap}{e:Env}(hf:op.free=true):((Zg op e.get h).bind fun x=>if Zec op e older x then some x else none)=Zg op e.get h:=by
 cases Zg op e.get h with
 | none=>rfl
 | some x=>rw[Yac,zov hf];rfl
@[simp] def zaf1{x}{e:Env}{h:Heap}{older:List Heap}:opD (orc T) T (.mov x) e h older=some (ev e.get x):=za8 (op:=.mov x) (h:=h) (older:=older) (e:=e) rfl
@[simp] def zaf2{z y}{e:Env}{h:Heap}{older:List Heap}:opD (orc T) T (.app z (.c (.sl [] .nl)) y) e h older=Zet z (ev e.get y):=rfl
@[simp] def z57{z:Nat}{els:List (List AV)}{f:Fl}:Zet z (.sl els f)=if (els.head?.all fun r=>r.length=z)/\els.length<=4294967296 then some (.sl els .an) else none:=rfl
@[simp] def zvu{z n y}:(AOp.app z (.t n) y).writes=true:=rfl
@[simp] def zz0{z n y}:(AOp.app z (.t n) y).free=false:=rfl
@[simp] def zxp{z n y}:(AOp.app z (.t n) y).maker=true:=rfl
@[simp] def zz1{z y}:(AOp.app z (.c (.sl [] .nl)) y).writes=false:=rfl
@[simp] def z58{z y}:(AOp.app z (.c (.sl [] .nl)) y).free=true:=rfl
@[simp] def z2i{z y}:(AOp.app z (.c (.sl [] .nl)) y).maker=false:=rfl
@[simp] def zad7{c a b}{e:Env}{h:Heap}{older:List Heap}:opD (orc T) T (.pick c a b) e h older=Ze8 (ev e.get c) (ev e.get a) (ev e.get b):=za8 (op:=.pick c a b) (h:=h) (older:=older) (e:=e) rfl
@[simp] def zaar{zs ps}{e:Env}{h:Heap}{older:List Heap}:opD (orc T) T (.build zs ps) e h older=(Zer zs (ps.map fun p=>(p.1,p.2.1,ev e.get p.2.2))).map .agg:=za8 (op:=.build zs ps) (h:=h) (older:=older) (e:=e) rfl
@[simp] def zaf3{o x y}{e:Env}{h:Heap}{older:List Heap}:opD (orc T) T (.bin o x y) e h older=Z1 o (ev e.get x) (ev e.get y):=za8 (op:=.bin o x y) (h:=h) (older:=older) (e:=e) rfl
@[simp] def zaf4{g ls x y}{e:Env}{h:Heap}{older:List Heap}:opD (orc T) T (.eqs g ls x y) e h older=Zft g ls (ev e.get x) (ev e.get y):=za8 (op:=.eqs g ls x y) (h:=h) (older:=older) (e:=e) rfl
@[simp] def zaas{g x}{e:Env}{h:Heap}{older:List Heap}:opD (orc T) T (.eqnil g x) e h older=Zdh g (ev e.get x):=za8 (op:=.eqnil g x) (h:=h) (older:=older) (e:=e) rfl
@[simp] def zaf5{g x y}{e:Env}{h:Heap}{older:List Heap}:opD (orc T) T (.eqb g x y) e h older=Zfu g (ev e.get x) (ev e.get y):=za8 (op:=.eqb g x y) (h:=h) (older:=older) (e:=e) rfl
@[simp] def D_un{o x}{e:Env}{h:Heap}{older:List Heap}:opD (orc T) T (.un o x) e h older=Ze9 o (ev e.get x):=za8 (op:=.un o x) (h:=h) (older:=older) (e:=e) rfl
@[simp] def zad8{k x}{e:Env}{h:Heap}{older:List Heap}:opD (orc T) T (.conv k x) e h older=Zav k (ev e.get x):=za8 (op:=.conv k x) (h:=h) (older:=older) (e:=e) rfl
@[simp] def zaat{x lo hi}{e:Env}{h:Heap}{older:List Heap}:opD (orc T) T (.slstr x lo hi) e h older=Zdi (ev e.get x) (evO e.get lo) (evO e.get hi):=za8 (op:=.slstr x lo hi) (h:=h) (older:=older) (e:=e) rfl
@[simp] def zaf6{o n x}{e:Env}{h:Heap}{older:List Heap}:opD (orc T) T (.fld o n x) e h older=Zfv o n (ev e.get x):=za8 (op:=.fld o n x) (h:=h) (older:=older) (e:=e) rfl
@[simp] def zaf7{x i}{e:Env}{h:Heap}{older:List Heap}:opD (orc T) T (.ixs x i) e h older=Zfw (ev e.get x) (ev e.get i):=za8 (op:=.ixs x i) (h:=h) (older:=older) (e:=e) rfl
@[simp] def zaf8{z l n x i}{e:Env}{h:Heap}{older:List Heap}:opD (orc T) T (.ixa z l n x i) e h older=Zfx z l n (ev e.get x) (ev e.get i):=za8 (op:=.ixa z l n x i) (h:=h) (older:=older) (e:=e) rfl
@[simp] def zad9{x}{e:Env}{h:Heap}{older:List Heap}:opD (orc T) T (.lens x) e h older=Zeh (ev e.get x):=za8 (op:=.lens x) (h:=h) (older:=older) (e:=e) rfl
@[simp] def zaea{n}{e:Env}{h:Heap}{older:List Heap}:opD (orc T) T (.lenc n) e h older=some (.i .i64 n):=za8 (op:=.lenc n) (h:=h) (older:=older) (e:=e) rfl
@[simp] def D_mm{m xs}{e:Env}{h:Heap}{older:List Heap}:opD (orc T) T (.mm m xs) e h older=Zhy m (xs.map (ev e.get)):=za8 (op:=.mm m xs) (h:=h) (older:=older) (e:=e) rfl
@[simp] def zaf9{x n}{e:Env}{h:Heap}{older:List Heap}:opD (orc T) T (.ext x n) e h older=Zfy n (ev e.get x):=za8 (op:=.ext x n) (h:=h) (older:=older) (e:=e) rfl
@[simp] def zaeb{n x}{e:Env}{h:Heap}{older:List Heap}:opD (orc T) T (.load n x) e h older=dC (Zdt n h (ev e.get x)) (.load n x) older e:=rfl
@[simp] def zaga{z x lo hi mx}{e:Env}{h:Heap}{older:List Heap}:opD (orc T) T (.slc z x lo hi mx) e h older=dC (Zes z h (ev e.get x) (evO e.get lo) (evO e.get hi) (evO e.get mx)) (.slc z x lo hi mx) older e:=rfl
@[simp] def zagb{o x}{e:Env}{h:Heap}{older:List Heap}:opD (orc T) T (.fad o x) e h older=dC (Zfa o h (ev e.get x)) (.fad o x) older e:=rfl
@[simp] def zagc{z x i}{e:Env}{h:Heap}{older:List Heap}:opD (orc T) T (.iad z x i) e h older=dC (Zfb z h (ev e.get x) (ev e.get i)) (.iad z x i) older e:=rfl
@[simp] def zagd{z n x i}{e:Env}{h:Heap}{older:List Heap}:opD (orc T) T (.iaa z n x i) e h older=dC (Zfc z n h (ev e.get x) (ev e.get i)) (.iaa z n x i) older e:=rfl
@[simp] def zage{x}{e:Env}{h:Heap}{older:List Heap}:opD (orc T) T (.len x) e h older=dC (Zfd h (ev e.get x)) (.len x) older e:=rfl
@[simp] def zaec{k zv ok x i}{e:Env}{h:Heap}{older:List Heap}:opD (orc T) T (.look k zv ok x i) e h older=dC (Zcy k zv ok h (ev e.get x) (ev e.get i)) (.look k zv ok x i) older e:=rfl
@[simp] def zaed{x}{e:Env}{h:Heap}{older:List Heap}:opD (orc T) T (.nilc x) e h older=dC (Zdu h (ev e.get x)) (.nilc x) older e:=rfl
def dR(r:Option AV)(xs:List AV):Option AV:=if xs.all noRef then r else none
@[congr] def z59{r r':Option AV}{xs:List AV}(h1:r=r'):dR r xs=dR r' xs:=by rw[h1]
@[simp] def zaau{r:AV}{xs:List AV}:dR (some r) xs=if xs.all noRef then some r else none:=rfl
def zuf{u:Nat}{args:List Opd}{np nt:Nat}{res:List RV}{b:AX}{ex:Bool}{e:Env}{h:Heap}{older:List Heap}(hT:Tr T u=some ⟨np,nt,res,b,none,ex⟩) :
  opD (orc T) T (.call u args) e h older=dR (Zb T u ((args.map (ev e.get)).map (wkIf ex))) (args.map (ev e.get)):=by
 change T u=_ at hT
 unfold dR Zb;simp only[opD,hT,Option.isNone_none,Bool.true_and]
@[simp] def zagf{z zs n ps}{e:Env}{h:Heap}{older:List Heap}:opD (orc T) T (.bsl z zs n ps) e h older=if (ps.map fun p=>(p.1,ev e.get p.2)).all (fun p=>noRef p.2) then (Zcn z zs n [] (ps.map fun p=>(p.1,ev e.get p.2))).map (·.1) else none:=rfl
@[congr] def zxq{tl l:List AO}{e e':Env}{h h':Heap}{clk clk':Nat}(h1:e=e')(h2:h=h')(h3:clk=clk'):Zcu (orc T) T tl l e h clk=Zcu (orc T) T tl l e' h' clk':=by rw[h1,h2,h3]
noncomputable def rH(T:Tbl)(q:Option (Nat×List AV))(tl:List AO)(o:AO)(r:List AO)(e:Env)(h:Heap)(clk:Nat):Option St:=
 match q with
 | none=>bD (qX (orc T) T o e h []) fun x=>Zbi (orc T) T tl r (Zd e o.dst x.1) h clk
 | some p=>(Zct (orc T) T p.1 p.2).bind fun x=>Zbi (orc T) T tl r (Zd e o.dst x) h clk
@[simp] def z2j{tl:List AO}{e:Env}{h:Heap}{clk:Nat}:Zcu (orc T) T tl [] e h clk=Zcd (orc T) T tl ⟨e,h,clk⟩/\Zbi (orc T) T tl [] e h clk=Zcd (orc T) T tl ⟨e,h,clk⟩:=by and_intros<;>rfl
@[simp] def zz2{tl r:List AO}{o:AO}{e:Env}{h:Heap}{clk:Nat}:Zcu (orc T) T tl (o::r) e h clk=bD (qX (orc T) T o e h []) fun x=>Zcu (orc T) T tl r (Zd e o.dst x.1) h clk:=rfl
@[simp] def zaav{tl:List AO}{o:AO}{r:List AO}{e:Env}{h:Heap}{clk:Nat}:rH T none tl o r e h clk=bD (qX (orc T) T o e h []) fun x=>Zbi (orc T) T tl r (Zd e o.dst x.1) h clk:=rfl
@[simp] def zaaw{p:Nat×List AV}{tl:List AO}{o:AO}{r:List AO}{e:Env}{h:Heap}{clk:Nat}:rH T (some p) tl o r e h clk=(Zct (orc T) T p.1 p.2).bind fun x=>Zbi (orc T) T tl r (Zd e o.dst x) h clk:=rfl
@[simp] def zz3{tl r:List AO}{o:AO}{e:Env}{h:Heap}{clk:Nat}:Zbi (orc T) T tl (o::r) e h clk=rH T (Zdw o.guard o.op.callN e h []) tl o r e h clk:=by
 unfold rH;rw[Zbi];cases Zdw o.guard o.op.callN e h []<;>rfl
noncomputable def kM(T:Tbl)(tl:List AO)(h0:Heap)(c0:Nat)(X:Heap)(op:AOp)(d:Nat)(r:List AO)(e:Env)(h:Heap)(q:Option (AV×Heap×Nat)):Option St:=
 q.bind fun q=>if ((h.lookup (.loc d)).isNone&&Zgb c0 op e q.2.1)=true then Zaf (orc T) T tl h0 c0 X r (Zd e (some d) q.1) (q.2.1++h) q.2.2 else none
noncomputable def kN(T:Tbl)(tl:List AO)(h0:Heap)(c0:Nat)(X:Heap)(op:AOp)(d:Nat)(r:List AO)(e:Env)(h:Heap)(q:Option (AV×Heap×Nat)):Option St:=
 q.bind fun q=>if Zgb c0 op e (q.2.1.take 1)=true then Zaf (orc T) T tl h0 c0 X r (Zd e (some d) q.1) (q.2.1.take 1++h) q.2.2 else none
noncomputable def uX(T:Tbl)(w:Option (BId×Box))(tl:List AO)(h0:Heap)(c0:Nat)(X:Heap)(op:AOp)(d:Nat)(r:List AO)(e:Env)(h:Heap)(clk:Nat):Option St:=
 match w with
 | none=>kM T tl h0 c0 X op d r e h (stepW op (some d) e.get [] clk)
 | some p=>kN T tl h0 c0 X op d r e h (stepW op (some d) e.get [p] clk)
@[simp] def zaax{hd tl:List AO}:evX (orc T) T k (.drawR hd tl) st=stX (Zbi (orc T) T tl hd st.env st.heap st.clk):=rfl
@[simp] def z2l{tl:List AO}{h0:Heap}{c0:Nat}{X:Heap}{e:Env}{h:Heap}{clk:Nat}:Zaf (orc T) T tl h0 c0 X [] e h clk=Zcd (orc T) T tl ⟨e,h,clk⟩:=rfl
@[simp] def zaay{tl:List AO}{h0:Heap}{c0:Nat}{X:Heap}{op:AOp}{d:Nat}{r:List AO}{e:Env}{h:Heap}{q:AV×Heap×Nat}:(kM T tl h0 c0 X op d r e h (some q)=if ((h.lookup (.loc d)).isNone&&Zgb c0 op e q.2.1)=true then Zaf (orc T) T tl h0 c0 X r (Zd e (some d) q.1) (q.2.1++h) q.2.2 else none)/\(kN T tl h0 c0 X op d r e h (some q)=if Zgb c0 op e (q.2.1.take 1)=true then Zaf (orc T) T tl h0 c0 X r (Zd e (some d) q.1) (q.2.1.take 1++h) q.2.2 else none):=by and_intros<;>rfl
@[simp] def zaa0{tl:List AO}{h0:Heap}{c0:Nat}{X:Heap}{op:AOp}{d:Nat}{r:List AO}{e:Env}{h:Heap}{clk:Nat}:uX T none tl h0 c0 X op d r e h clk=kM T tl h0 c0 X op d r e h (stepW op (some d) e.get [] clk):=rfl
@[simp] def zaa1{tl:List AO}{h0:Heap}{c0:Nat}{X:Heap}{op:AOp}{d:Nat}{r:List AO}{e:Env}{h:Heap}{clk:Nat}{p:BId×Box}:uX T (some p) tl h0 c0 X op d r e h clk=kN T tl h0 c0 X op d r e h (stepW op (some d) e.get [p] clk):=rfl
@[simp] def zz4{c0:Nat}{h0 X h:Heap}{zs:List AV}{e:Env}:Zfq c0 h0 X h (.alloc zs) e=none:=rfl
@[simp] def z6a{c0:Nat}{h0 X h:Heap}{z:Nat}{zs:List AV}{l c:Opd}{e:Env}:Zfq c0 h0 X h (.mks z zs l c) e=none:=rfl
@[simp] def z2m{c0:Nat}{h0 X h:Heap}{k:KTy}{zv:AV}{ok:Bool}{x i:Opd}{e:Env}:Zfq c0 h0 X h (.look k zv ok x i) e=none:=rfl
@[simp] def z6b{c0:Nat}{h0 X h:Heap}{k:XOp}{xs:List Opd}{e:Env}:Zfq c0 h0 X h (.xop k xs) e=none:=rfl
@[simp] def z6c{c0:Nat}{h0 X h:Heap}{z:Nat}{x y:Opd}{e:Env}:Zfq c0 h0 X h (.app z x y) e=Zho c0 h0 X h (ev e.get x):=rfl
@[simp] def zaa2{c0:Nat}{h0 X h:Heap}{l:List (List AV)}{f:Fl}:Zho c0 h0 X h (.sl l f)=none:=rfl
@[simp] def zaa3{c0:Nat}{h0 X h:Heap}{b:BId}{g z o n:Nat}:Zho c0 h0 X h (.bs b g z o n)=Zia c0 (h0.lookup b) (X.lookup b) b (h.lookup b):=rfl
@[simp] def z2n{c0:Nat}{b:BId}{x o:Box}:Zia c0 none (some x) b (some o)=if o.gen<c0 then some (b,o) else none:=rfl
attribute [simp] Zjs
noncomputable def kB(T:Tbl)(tl:List AO)(h0:Heap)(c0:Nat)(X:Heap)(d:Nat)(r:List AO)(e:Env)(h:Heap)(q:Option (AV×Heap×Nat)):Option St:=
 q.bind fun q=>if q.2.1.all (fun p=>(h.lookup p.1).isNone)=true then Zaf (orc T) T tl h0 c0 X r (Zd e (some d) q.1) (q.2.1++h) q.2.2 else none
noncomputable def lX(T:Tbl)(b:Option (Nat×List Opd))(tl:List AO)(h0:Heap)(c0:Nat)(X:Heap)(o:AO)(r:List AO)(e:Env)(h:Heap)(clk:Nat):Option St:=
 match b with
 | some ua=>
  match o.guard,o.dst with
  | none,some d=>kB T tl h0 c0 X d r e h (Zdr (orc T) T ua.1 (ua.2.map (ev e.get)) d clk)
  | _,_=>none
 | none=>bD (qX (orc T) T o e h0 []) fun x=>if Zf0 c0 o.op e (gnA x.1)=true then Zaf (orc T) T tl h0 c0 X r (Zd e o.dst x.1) h clk else none
noncomputable def tX(T:Tbl)(tl:List AO)(h0:Heap)(c0:Nat)(X:Heap)(r:List AO)(b:Bool)(e:Env)(q:Option Heap)(clk:Nat):Option St:=
 q.bind fun h=>if b=true then Zaf (orc T) T tl h0 c0 X r e h clk else none
noncomputable def sX(T:Tbl)(b:Bool)(tl:List AO)(h0:Heap)(c0:Nat)(X:Heap)(o:AO)(r:List AO)(e:Env)(h:Heap)(clk:Nat):Option St:=
 match b with
 | true=>
  match o.guard,o.dst with
  | none,none=>(stepW o.op none e.get h clk).bind fun q=>if Zel X o.op e=true then Zaf (orc T) T tl h0 c0 X r e q.2.1 q.2.2 else none
  | _,_=>none
 | false=>lX T o.op.lentN tl h0 c0 X o r e h clk
@[simp] def z2o{e:Env}:Zdf [] e=[]:=rfl
@[simp] def zz5{o:AO}{r:List AO}{e:Env}:Zdf (o::r) e=match o.op with | .mov x=>Zdf r (Zd e o.dst (ev e.get x)) | .app _ x _=>Zjs (ev e.get x)++Zdf r (Zd e o.dst .dead) | _=>Zdf r (Zd e o.dst .dead):=rfl
@[simp] def zxr{h:Heap}:Zdk [] h=h:=rfl
@[simp] def zvv{b:BId}{ids:List BId}{h:Heap}:Zdk (b::ids) h=h.filter fun p=>!(b::ids).contains p.1:=rfl
@[simp] def zaa4{tl:List AO}{h0:Heap}{c0:Nat}{X:Heap}{d:Nat}{r:List AO}{e:Env}{h:Heap}{q:AV×Heap×Nat}:kB T tl h0 c0 X d r e h (some q)=if q.2.1.all (fun p=>(h.lookup p.1).isNone)=true then Zaf (orc T) T tl h0 c0 X r (Zd e (some d) q.1) (q.2.1++h) q.2.2 else none:=rfl
@[simp] def zaa5{tl r:List AO}{h0:Heap}{c0:Nat}{X:Heap}{op:AOp}{dd u:Nat}{args:List Opd}{e:Env}{h:Heap}{clk:Nat}:lX T (some (u,args)) tl h0 c0 X ⟨some dd,none,op⟩ r e h clk=kB T tl h0 c0 X dd r e h (Zdr (orc T) T u (args.map (ev e.get)) dd clk):=rfl
@[simp] def zaa6{tl r:List AO}{h0:Heap}{c0:Nat}{X:Heap}{o:AO}{e:Env}{h:Heap}{clk:Nat}:lX T none tl h0 c0 X o r e h clk=bD (qX (orc T) T o e h0 []) fun x=>if Zf0 c0 o.op e (gnA x.1)=true then Zaf (orc T) T tl h0 c0 X r (Zd e o.dst x.1) h clk else none:=rfl
@[simp] def zaa7{tl:List AO}{h0:Heap}{c0:Nat}{X:Heap}{r:List AO}{e:Env}{h:Heap}{clk:Nat}:tX T tl h0 c0 X r true e (some h) clk=Zaf (orc T) T tl h0 c0 X r e h clk:=rfl
@[simp] def zaa8{tl r:List AO}{h0:Heap}{c0:Nat}{X:Heap}{n:Nat}{x v:Opd}{e:Env}{h:Heap}{clk:Nat}:sX T true tl h0 c0 X ⟨none,none,.store n x v⟩ r e h clk=tX T tl h0 c0 X r (Zel X (.store n x v) e) e (Zak n h (ev e.get x) (ev e.get v)) clk:=by
 unfold sX tX;simp only[stepW];cases Zak n h (ev e.get x) (ev e.get v)<;>rfl
noncomputable def Zjt(r:Option (AV×Heap))(d clk:Nat):Option (AV×Heap×Nat):=
 r.bind fun r=>
  let hb':=r.2.map fun p=>(Zac [] d p.1,Zw true (Zac [] d) (Zah [] clk) p.2)
  let r':=rlA (Zac [] d) (Zah [] clk) r.1
  if (hb'.map (·.1)).Nodup/\geB clk (gnA r')=true/\geH clk hb'=true then some (r',hb',clk+(r.2.length+2)) else none
noncomputable def mX(T:Tbl)(b:Bool)(tl:List AO)(h0:Heap)(c0:Nat)(X:Heap)(o:AO)(r:List AO)(e:Env)(h:Heap)(clk:Nat):Option St:=
 match b with
 | true=>
  match o.guard,o.dst with
  | none,some d=>uX T (Zfq c0 h0 X h o.op e) tl h0 c0 X o.op d r e h clk
  | _,_=>none
 | false=>sX T o.op.isStore tl h0 c0 X o r e h clk
@[simp] def z6d{tl r:List AO}{h0:Heap}{c0:Nat}{X:Heap}{o:AO}{e:Env}{h:Heap}{clk:Nat}:sX T false tl h0 c0 X o r e h clk=lX T o.op.lentN tl h0 c0 X o r e h clk:=rfl
@[simp] def zxs{r:AV×Heap}{dd clk:Nat}:Zjt (some r) dd clk=if ((r.2.map fun p=>(Zac [] dd p.1,Zw true (Zac [] dd) (Zah [] clk) p.2)).map (·.1)).Nodup/\geB clk (gnA (rlA (Zac [] dd) (Zah [] clk) r.1))=true/\geH clk (r.2.map fun p=>(Zac [] dd p.1,Zw true (Zac [] dd) (Zah [] clk) p.2))=true then some (rlA (Zac [] dd) (Zah [] clk) r.1,r.2.map fun p=>(Zac [] dd p.1,Zw true (Zac [] dd) (Zah [] clk) p.2),clk+(r.2.length+2)) else none:=rfl
@[simp] def zz6{tl r:List AO}{h0:Heap}{c0:Nat}{X:Heap}{o:AO}{e:Env}{h:Heap}{clk:Nat}:Zaf (orc T) T tl h0 c0 X (o::r) e h clk=mX T (AOp.maker o.op) tl h0 c0 X o r e h clk:=by
 unfold mX;simp only[Zaf];cases AOp.maker o.op with
 | false=>
  unfold sX;simp only;cases AOp.isStore o.op with
  | true=>
   obtain⟨dd,g,op⟩:=o;cases g<;>cases dd<;>rfl
  | false=>
   unfold lX;simp only;cases AOp.lentN o.op with
   | none=>rfl
   | some ua=>
    obtain⟨dd,g,op⟩:=o;cases g<;>cases dd<;>rfl
 | true=>
  obtain⟨dd,g,op⟩:=o;cases g<;>cases dd<;>rfl
noncomputable def pX(T:Tbl)(w:Bool)(K:Env->Zz->Option St)(h:Heap)(o:DO)(r:List DO)(e:Env)(pend:Zz):Option St:=
 match w with
 | true=>none
 | false=>bD (qX (orc T) T o.ao e h []) fun x=>Zb6 (orc T) T K h r (Zd e o.ao.dst x.1) (Zam o 0 e x pend)
@[simp] def zaa9{tl r:List AO}{h0:Heap}{c0:Nat}{X:Heap}{op:AOp}{dd:Nat}{e:Env}{h:Heap}{clk:Nat}:mX T true tl h0 c0 X ⟨some dd,none,op⟩ r e h clk=uX T (Zfq c0 h0 X h op e) tl h0 c0 X op dd r e h clk:=rfl
@[simp] def z6e{tl r:List AO}{h0:Heap}{c0:Nat}{X:Heap}{o:AO}{e:Env}{h:Heap}{clk:Nat}:mX T false tl h0 c0 X o r e h clk=sX T o.op.isStore tl h0 c0 X o r e h clk:=rfl
@[simp] def zaba{hd tl:List AO}:evX (orc T) T k (.drawM hd tl) st=stX (Zaf (orc T) T tl (Zdk (Zdf hd st.env) st.heap) st.clk st.heap hd st.env st.heap st.clk):=rfl
@[simp] def z6f{K:Env->Zz->Option St}{h:Heap}{o:DO}{r:List DO}{e:Env}{pend:Zz}:pX T false K h o r e pend=bD (qX (orc T) T o.ao e h []) fun x=>Zb6 (orc T) T K h r (Zd e o.ao.dst x.1) (Zam o 0 e x pend):=rfl
@[simp] def z6g{K:Env->Zz->Option St}{h:Heap}{e:Env}{pend:Zz}:Zb6 (orc T) T K h [] e pend=K e pend:=rfl
@[simp] def z2p{K:Env->Zz->Option St}{h:Heap}{o:DO}{r:List DO}{e:Env}{pend:Zz}:Zb6 (orc T) T K h (o::r) e pend=pX T o.ao.op.writes K h o r e pend:=by
 unfold pX;rw[Zb6];cases o.ao.op.writes<;>rfl
noncomputable def qpX(T:Tbl)(w:Bool)(K:Env->Option St)(h0 h1:Heap)(o:AO)(r:List AO)(e:Env):Option St:=
 match w with
 | true=>none
 | false=>bD (qX (orc T) T o e h1 [h0]) fun x=>Zb7 (orc T) T K h0 h1 r (Zd e o.dst x.1)
@[simp] def z2q{K:Env->Option St}{h0 h1:Heap}{o:AO}{r:List AO}{e:Env}:qpX T false K h0 h1 o r e=bD (qX (orc T) T o e h1 [h0]) fun x=>Zb7 (orc T) T K h0 h1 r (Zd e o.dst x.1):=rfl
@[simp] def z2r{K:Env->Option St}{h0 h1:Heap}{e:Env}:Zb7 (orc T) T K h0 h1 [] e=K e:=rfl
@[simp] def zz7{K:Env->Option St}{h0 h1:Heap}{o:AO}{r:List AO}{e:Env}:Zb7 (orc T) T K h0 h1 (o::r) e=qpX T o.op.writes K h0 h1 o r e:=by
 unfold qpX;rw[Zb7];cases o.op.writes<;>rfl
@[simp] def zabb{l1 l2 tl:List AO}{dd u:Nat}{args:List Opd}:evX (orc T) T k (.drawC l1 ⟨some dd,none,.call u args⟩ l2 tl) st =
  stX (Zb6 (orc T) T (fun e pend=>bS (Z3 (orc T) T u (args.map (ev e.get)) (some dd) ⟨e,st.heap,st.clk⟩) fun s=>iP (Zv pend s.heap) (Zb7 (orc T) T (fun e2=>Zcd (orc T) T tl ⟨e2,s.heap,s.clk⟩) st.heap s.heap l2 s.env)) st.heap (l1.map fun o=>⟨o,0,1⟩) st.env []):=rfl
@[simp] def zabc{l1 l2:List DO}{dd u:Nat}{args:List Opd}:evX (orc T) T k (.drawN l1 ⟨some dd,none,.call u args⟩ l2) st =
  stX (Zb6 (orc T) T (fun e pend=>bS (Z3 (orc T) T u (args.map (ev e.get)) (some dd) ⟨e,st.heap,st.clk⟩) fun s=>iP (Zv pend s.heap) (Zao (orc T) T (l2.map (Zc8 0)) s.env s.heap s.clk [st.heap] (pend.map fun p=>(p.1-1,p.2)))) st.heap (l1.map (Zc8 0)) st.env []):=rfl
attribute [simp] Zc8
noncomputable def qlX(T:Tbl)(w:Bool)(K:Env->Option St)(hs:List Heap)(h1:Heap)(o:AO)(r:List AO)(e:Env):Option St:=
 match w with
 | true=>none
 | false=>bD (qX (orc T) T o e h1 hs) fun x=>Zb8 (orc T) T K hs h1 r (Zd e o.dst x.1)
@[simp] def z2s{K:Env->Option St}{hs:List Heap}{h1:Heap}{o:AO}{r:List AO}{e:Env}:qlX T false K hs h1 o r e=bD (qX (orc T) T o e h1 hs) fun x=>Zb8 (orc T) T K hs h1 r (Zd e o.dst x.1):=rfl
@[simp] def z2t{K:Env->Option St}{hs:List Heap}{h1:Heap}{e:Env}:Zb8 (orc T) T K hs h1 [] e=K e:=rfl
@[simp] def zz8{K:Env->Option St}{hs:List Heap}{h1:Heap}{o:AO}{r:List AO}{e:Env}:Zb8 (orc T) T K hs h1 (o::r) e=qlX T o.op.writes K hs h1 o r e:=by
 unfold qlX;rw[Zb8];cases o.op.writes<;>rfl
attribute [simp] Zgm
@[simp] def zabd{l1 l2:List DO}{dd u da n:Nat}{args:List Opd}{cs:List AV}{xs vs:Opd}:evX (orc T) T k (.drawP l1 ⟨some dd,none,.call u args⟩ l2 da cs n xs vs) st =
  stX (iP (Zgm l1&&Zgm l2) (Zb6 (orc T) T (fun e pend=>bS (Z3 (orc T) T u (args.map (ev e.get)) (some dd) ⟨e,st.heap,st.clk⟩) fun s1=>
   bS (Z3 (orc T) T u (args.map (ev e.get)) (some dd) ⟨e,(.loc da,⟨s1.clk,.str,cs.length,[cs]⟩)::st.heap,s1.clk+1⟩) fun s2=>
    iP (Zv pend s1.heap&&Zv pend ((.loc da,⟨s1.clk,.str,cs.length,[cs]⟩)::st.heap)&&Zv pend s2.heap&&(Zib st.clk s1 s2&&Zi7 ((.loc da,⟨s1.clk,.str,cs.length,[cs]⟩)::s1.heap) s2.heap))
     (Zb8 (orc T) T (fun e2=>(Zak n s2.heap (ev (Zd e2 (some da) (.ptr (.loc da) s1.clk cs.length 0 0)).get xs) (ev (Zd e2 (some da) (.ptr (.loc da) s1.clk cs.length 0 0)).get vs)).map fun h2=>⟨Zd e2 (some da) (.ptr (.loc da) s1.clk cs.length 0 0),h2,s2.clk⟩)
      [st.heap,s1.heap,(.loc da,⟨s1.clk,.str,cs.length,[cs]⟩)::st.heap] s2.heap (l2.map (·.ao)) s1.env)) st.heap (l1.map fun o=>⟨o.ao,0,1⟩) st.env [])):=by
 show (Zds _ _ _ _ _ _ _ _ _ _ _).map _=_;unfold Zds;simp only[AOp.writes,Bool.not_false,Ydz];cases Zgm l1&&Zgm l2<;>rfl
@[simp] def zagg{n x}:opX (orc T) T (.ifc n x) d st=some ⟨Zd st.env d (.ifc (Zc T n) (ev st.env.get x)),st.heap,st.clk⟩:=rfl
noncomputable def iS(T:Tbl)(x:AV)(nm:String)(n u:Nat)(args:List AV)(d:Option Nat)(st:St):Option St:=
 match x with
 | .ifc t y=>if t=Zc T n/\(nm,u)∈Za9 T n then Z3 (orc T) T u (y::args) d st else none
 | .fnv f x=>if nm="()"/\f=Zc T n/\Ze1 T n=some u then Z3 (orc T) T u (x::args) d st else none
 | .fnp f id g z i o=>if nm="()"/\f=Zc T n/\Ze1 T n=some u then Z3 (orc T) T u (args++[.ptr id g z i o]) d st else none
 | _=>none
@[simp] def zagh{nm n u r args}:opX (orc T) T (.inv nm n u r args) d st=iS T (ev st.env.get r) nm n u (args.map (ev st.env.get)) d st:=by
 simp only[opX];cases ev st.env.get r<;>rfl
@[simp] def zagi{n x}{e:Env}{h:Heap}{older:List Heap}:opD (orc T) T (.ifc n x) e h older=some (.ifc (Zc T n) (ev e.get x)):=rfl
noncomputable def dI(T:Tbl)(u:Nat)(xs:List AV):Option AV:=
 match T u with
 | none=>none
 | some af=>if (af.lent.isNone&&xs.all noRef)=true then ((orc T).call u (xs.map (wkIf af.exact)) []).map (·.1) else none
noncomputable def iD(T:Tbl)(x:AV)(nm:String)(n u:Nat)(args:List AV):Option AV:=
 match x with
 | .ifc t y=>if t=Zc T n/\(nm,u)∈Za9 T n then dI T u (drp1 y::args) else none
 | _=>none
@[simp] def zagj{nm n u r args}{e:Env}{h:Heap}{older:List Heap}:opD (orc T) T (.inv nm n u r args) e h older=iD T (ev e.get r) nm n u (args.map (ev e.get)):=by
 simp only[opD];cases ev e.get r<;>rfl
@[simp] def zabe{hd tl:List AO}:evX (orc T) T k (.drawT hd tl) st=stX (Zcu (orc T) T tl hd st.env st.heap st.clk):=rfl
attribute [simp] Zam Z6 Zhf Zhg Zg2 Zf8 Zf9 ghS Zbw Zeb Zi6 Zcs Zbm Zbd kids Zw
attribute [simp] gnA gnR Zf0 Zgb Zei Zc0 AOp.maker drp1 drpC AOp.lentN AOp.isStore Zel geB geH
attribute [simp] AOp.writes AOp.free Zes Zdm Zdp Zak Zdj Zeu
attribute [simp] AOp.callN Zew Za2 Zf6 shR
end
end
section
open Go.RowKit
def Zez(a b:Nat):Nat:=(((a:Int)-b)%4294967296).toNat
def Zhi(a b:Nat):Nat:=(((a:Int)-b)%18446744073709551616).toNat
def Zm6(a b:Nat):Nat:=(((a:Int)-b)%256).toNat
def zrt(n:Int):IntKind.wrap .u32 n=(((n%4294967296).toNat:Nat):Int):=by
 grind[IntKind.wrap,IntKind.signed,IntKind.bits]
def zkv(n:Int):IntKind.wrap .u64 n=(((n%18446744073709551616).toNat:Nat):Int):=by
 grind[IntKind.wrap,IntKind.signed,IntKind.bits]
@[simp] def z2u(n:Int)(h1:-9223372036854775808<=n)(h2:n<9223372036854775808):IntKind.wrap .i64 n=n:=zac n ⟨h1,h2⟩
@[simp] def zz9(a b:Nat):((a:Int)+(b:Int)).toNat=a+b:=by omega
@[simp] def zxt(a b:Nat):(0:Int)<=(a:Int)+(b:Int):=by omega
@[simp] def zxu(a b:Nat):((a:Int)+(b:Int)+1).toNat=a+b+1:=by omega
@[simp] def zvw(a b:Nat):(0:Int)<=(a:Int)+(b:Int)+1:=by omega
section
variable(a b:Nat)(k:IntKind)(n:Int)
@[simp] def zagk:Z1 .add (u32 a) (u32 b)=some (u32 ((a+b)%4294967296)):=by
 simp only[u32,zm5,<-Int.natCast_add,zfy]
@[simp] def zagl:Z1 .add (u64 a) (u64 b)=some (u64 ((a+b)%18446744073709551616)):=by
 simp only[u64,zm5,<-Int.natCast_add,zd8]
@[simp] def zagm:Z1 .mul (u64 a) (u64 b)=some (u64 ((a*b)%18446744073709551616)):=by
 simp only[u64,zt4,<-Ydp,zd8]
@[simp] def zaee:Z1 .sub (u32 a) (u32 b)=some (u32 (Zez a b)):=by
 simp only[u32,zt3,zrt,Zez]
def zno:((a:Int).tdiv (b:Int))=((a/b:Nat):Int):=by rw[Int.ofNat_tdiv]
def znp:((a:Int).tmod (b:Int))=((a%b:Nat):Int):=by rw[Int.ofNat_tmod]
@[simp] def zagn:Z1 .quo (u32 a) (u32 b)=if b=0 then none else some (u32 (a/b%4294967296)):=by
 simp only[u32,zm6,zno,zfy,Yb7]
@[simp] def zago:Z1 .quo (u64 a) (u64 b)=if b=0 then none else some (u64 (a/b%18446744073709551616)):=by
 simp only[u64,zm6,zno,zd8,Yb7]
@[simp] def zagp:Z1 .rem (u32 a) (u32 b)=if b=0 then none else some (u32 (a%b)):=by
 simp only[u32,zm7,znp,Yb7]
@[simp] def zagq:Z1 .rem (u64 a) (u64 b)=if b=0 then none else some (u64 (a%b)):=by
 simp only[u64,zm7,znp,Yb7]
def bvn(w:Nat):(BitVec.ofInt w (a:Int)).toNat=a%2^w:=by simp
@[simp] def or32:Z1 .or (u32 a) (u32 b)=some (u32 ((a ||| b)%4294967296)):=by
 have h:=Nat.or_mod_two_pow (a:=a) (b:=b) (n:=32);have e:((BitVec.ofInt 32 (a:Int) ||| BitVec.ofInt 32 (b:Int)).toNat)=(a ||| b)%2^32:=by rw[BitVec.toNat_or,bvn,bvn,<-h]
 show some (AV.i .u32 (IntKind.wrap .u32 (((BitVec.ofInt 32 (a:Int) ||| BitVec.ofInt 32 (b:Int)).toNat:Nat):Int)))=_;rw[e,zfy];simp[u32]
@[simp] def or64:Z1 .or (u64 a) (u64 b)=some (u64 ((a ||| b)%18446744073709551616)):=by
 have h:=Nat.or_mod_two_pow (a:=a) (b:=b) (n:=64);have e:((BitVec.ofInt 64 (a:Int) ||| BitVec.ofInt 64 (b:Int)).toNat)=(a ||| b)%2^64:=by rw[BitVec.toNat_or,bvn,bvn,<-h]
 show some (AV.i .u64 (IntKind.wrap .u64 (((BitVec.ofInt 64 (a:Int) ||| BitVec.ofInt 64 (b:Int)).toNat:Nat):Int)))=_;rw[e,zd8];simp[u64]
def zru(m:Nat):((a:Int)*2^m)=((a*2^m:Nat):Int):=by simp
def zie(m:Nat):((a:Int).fdiv (2^m))=((a/2^m:Nat):Int):=by
 grind
@[simp] def zabf:Z1 .shl (u64 a) (.i k n)=if n<0 then none else some (u64 (a*2^(min n.toNat 64)%18446744073709551616)):=by
 simp only[u64,Z1,IntKind.bits,zru,zd8]
@[simp] def zagr:Z1 .shr (u32 a) (.i k n)=if n<0 then none else some (u32 (a/2^(min n.toNat 32))):=by
 simp only[u32,Z1,IntKind.bits,zie]
@[simp] def zabg:Z1 .shr (u64 a) (.i k n)=if n<0 then none else some (u64 (a/2^(min n.toNat 64))):=by
 simp only[u64,Z1,IntKind.bits,zie]
@[simp] def zvx:¬ ((b:Int)<0):=by omega
@[simp] def zaef:Z1 .shl (u64 a) (u64 b)=some (u64 (a*2^(min b 64)%18446744073709551616)):=by
 rw[show u64 b=.i .u64 (b:Int) from rfl,zabf,if_neg (zvx b),Ydd]
@[simp] def zaeg:Z1 .shr (u64 a) (u64 b)=some (u64 (a/2^(min b 64))):=by
 rw[show u64 b=.i .u64 (b:Int) from rfl,zabg,if_neg (zvx b),Ydd]
@[simp] def zags:Z1 .eql (u32 a) (u32 b)=some (.b (decide (a=b))):=by
 simp only[u32,zm8,Option.some.injEq,AV.b.injEq];rw[Ybz];simp[Yb0]
@[simp] def zagt:Z1 .neq (u32 a) (u32 b)=some (.b (!decide (a=b))):=by
 simp only[u32,zm9,Option.some.injEq,AV.b.injEq];rw[Ybz];simp[Yb0]
@[simp] def zagu:Z1 .lss (u32 a) (u32 b)=some (.b (decide (a<b))):=by simp[u32,zna]
@[simp] def zagv:Z1 .leq (u32 a) (u32 b)=some (.b (decide (a<=b))):=by simp[u32,zt5]
@[simp] def zagw:Z1 .gtr (u32 a) (u32 b)=some (.b (decide (b<a))):=by simp[u32,zt6]
@[simp] def zagx:Z1 .geq (u32 a) (u32 b)=some (.b (decide (b<=a))):=by simp[u32,zt7]
@[simp] def zagy:Z1 .neq (u64 a) (u64 b)=some (.b (!decide (a=b))):=by
 simp only[u64,zm9,Option.some.injEq,AV.b.injEq];rw[Ybz];simp[Yb0]
@[simp] def eql8:Z1 .eql (u8 a) (u8 b)=some (.b (decide (a=b))):=by
 simp only[u8,zm8,Option.some.injEq,AV.b.injEq];rw[Ybz];simp[Yb0]
@[simp] def lss8:Z1 .lss (u8 a) (u8 b)=some (.b (decide (a<b))):=by simp[u8,zna]
@[simp] def z0a:Zav .u64 (u32 a)=some (u64 (a%18446744073709551616)):=by simp only[u32,u64,Zav,zd8]
@[simp] def z0b:Zav .u32 (u64 a)=some (u32 (a%4294967296)):=by simp only[u32,u64,Zav,zfy]
@[simp] def z2v:Zav .u8 (u32 a)=some (u8 (a%256)):=by simp only[u32,u8,Zav,zxh]
@[simp] def z2w:Zav .u64 (.i .i64 n)=some (u64 (n%18446744073709551616).toNat):=by simp only[u64,Zav,zkv]
@[simp] def z2x:Zav .i64 (u32 a)=some (.i .i64 (IntKind.wrap .i64 a))/\Zav .i64 (u64 a)=some (.i .i64 (IntKind.wrap .i64 a))/\Zav .i64 (u8 a)=some (.i .i64 (IntKind.wrap .i64 a)):=by and_intros<;>rfl
@[simp] def z6i:Zav .i64 (.i .i64 n)=some (.i .i64 (IntKind.wrap .i64 n)):=rfl
@[simp] def zagz:Ze9 .neg (u64 a)=some (u64 (Zhi 0 a)):=by simp[u64,Ze9,zkv,Zhi]
@[simp] def zag0:Ze9 .neg (.i .i64 n)=some (.i .i64 (IntKind.wrap .i64 (0-n))):=rfl
@[simp] def zag1(t:Bool):Ze9 .not (.b t)=some (.b (!t)):=rfl
@[simp] def zaeh(m:Nat)(y:Int):(bnd (u8 m) y=if 0<=(m:Int)/\(m:Int)<=y then some m else none)/\(bnd (u32 m) y=if 0<=(m:Int)/\(m:Int)<=y then some m else none)/\(bnd (u64 m) y=if 0<=(m:Int)/\(m:Int)<=y then some m else none):=by and_intros<;>rfl
attribute [simp] Zdi Zfc Zfx
@[simp] def zaei(l:List UInt8):Zfw (.s l) (.i k n)=if 0<=n/\n<l.length then (l[n.toNat]?).map fun b=>u8 b.toNat else none:=rfl
@[simp] def z6j(k':IntKind)(x y:Int):Zci .int (.i k x) (.i k' y)=if k=k' then some (x == y) else none:=rfl
end
@[simp] def zabj(a b:Nat):u32 a=u32 b↔a=b:=by simp[u32,Yb0]
@[simp] def zabk(a b:Nat):u64 a=u64 b↔a=b:=by simp[u64,Yb0]
def zal(x:UInt32):x.toNat<4294967296:=x.toNat_lt
@[simp] def zabl(x:UInt32):x.toNat<4294967296:=x.toNat_lt
def w32(n:Nat):UInt32:=UInt32.ofNat n
def zbh(n:Nat):(w32 n).toNat=n%4294967296:=UInt32.toNat_ofNat' ..
theorem zae{n:Nat}(h:n<4294967296):(w32 n).toNat=n:=by rw[zbh,Yu h]
@[simp] def z0c(x:UInt32):w32 x.toNat=x:=UInt32.ofNat_toNat
def Za(l:List UInt32):List (List AV):=l.map fun x=>[u32 x.toNat]
def ints(l:List Int):List (List AV):=l.map fun x=>[.i .i64 x]
def u8s(l:List UInt8):List (List AV):=l.map fun x=>[u8 x.toNat]
section
variable(l m:List UInt32)(x:UInt32)
@[simp] def z6k:Za []=[]:=rfl
@[simp] def zg7:(Za l).length=l.length:=by simp[Za]
@[simp] def zabm:wkL (Za l)=Za l:=by
 rw[zcx];simp[Za,wkR]
@[simp] def z2z(n:Nat):(Za l).take n=Za (l.take n):=by simp[Za]
@[simp] def z21(n:Nat):(Za l).drop n=Za (l.drop n):=by simp[Za]
@[simp] def zxv:Za l++Za m=Za (l++m):=by simp[Za]
@[simp] def z22(n:Nat)(h:n<4294967296):Za l++[[u32 n]]=Za (l++[w32 n]):=by simp[Za,zae h]
@[simp] def u32s_getElem?(i:Nat):(Za l)[i]? = (l[i]?).map fun x=>[u32 x.toNat]:=by simp[Za]
@[simp] def zvy(i:Nat)(h:i<(Za l).length):(Za l)[i]=[u32 (l[i]'(by simpa using h)).toNat]:=by simp[Za]
def zbd(i:Nat)(n:Nat)(h:n<4294967296):(Za l).set i [u32 n]=Za (l.set i (w32 n)):=by simp[Za,Ydt,zae h]
@[simp] def z23(i n:Nat):(Za l).set i [u32 (n%4294967296)]=Za (l.set i (w32 n)):=by simp[Za,Ydt,zbh]
@[simp] def z6l(n:Nat):List.replicate n [u32 0]=Za (List.replicate n 0):=by simp[Za]
@[simp] def z24(z:Nat):((Za l).head?.all fun r=>decide (r.length=z))=(l.isEmpty || decide (z=1)):=by
 cases l<;>simp[Za,eq_comm]
end
end
section
open Go.RowKit
abbrev mv(d s:Nat):AO:=⟨some d,none,.mov (.t s)⟩
abbrev rg(d:Nat)(op:AOp):AO:=⟨some d,none,op⟩
abbrev gd(d t:Nat)(b:Bool)(op:AOp):AO:=⟨some d,some (t,b),op⟩
abbrev so(op:AOp):AO:=⟨none,none,op⟩
section
variable(T:Tbl)(u:Nat)(ex:Bool)(ms:List Bool)(xs:List AV)(d:Option Nat)(st:St)(ps:List Opd)(e:Env)
@[simp] noncomputable def cP:Option St:=bL (Zhp st.heap xs) fun ys=>cR (Zb T u (ys.map (wkIf ex))) xs d st
@[simp] noncomputable def cL:Option St:=bL (Zf4 st.heap ms xs) fun ys=>Zhh ys (Zn (Zb4 ms xs) st.heap) (Zeb (Zn (Zb4 ms xs) st.heap) 40 (Zek ms xs) []) T u ex d st
@[simp] noncomputable def dP:Option AV:=dR (Zb T u ((ps.map (ev e.get)).map (wkIf ex))) (ps.map (ev e.get))
end
section
variable{T:Tbl}{k:Nat}
def zb2{id:Nat}{g2:Gh}{c:AX}(S:Nat->St)(n:Nat)(G:Option (Ex×St))(step:∀i,i<n->evX (orc T) T k c (S i)=some (.n,S (i+1)))
  (fin:Ze3 (evX (orc T) T k c (S n))=true/\Ze2 k id g2 (evX (orc T) T k c (S n))=G):Zr T k id g2 c (S 0)=G:=
 zcc S (fun i=>i<=n) (fun i=>n-i) (fun _=>G) (by
  intro i hi;by_cases h:i<n
  ·exact .inl ⟨i+1,h,by show n-(i+1)<n-i;omega,step i h,rfl⟩
  ·have:i=n:=by omega
   subst this;exact .inr fin) 0 (Y5 _)
def zfg{id:Nat}{g2:Gh}{c:AX}(S:Nat->St)(n:Nat)(G:Nat->Option (Ex×St))
  (step:∀i,i<n->(evX (orc T) T k c (S i)=some (.n,S (i+1))/\G (i+1)=G i)\/(Ze3 (evX (orc T) T k c (S i))=true/\Ze2 k id g2 (evX (orc T) T k c (S i))=G i))
  (fin:Ze3 (evX (orc T) T k c (S n))=true/\Ze2 k id g2 (evX (orc T) T k c (S n))=G n):Zr T k id g2 c (S 0)=G 0:=
 zcc S (fun i=>i<=n) (fun i=>n-i) G (by
  intro i hi;by_cases h:i<n
  ·rcases step i h with ⟨h1,h2⟩ | h1
   ·exact .inl ⟨i+1,h,by show n-(i+1)<n-i;omega,h1,h2⟩
   ·exact .inr h1
  ·have:i=n:=by omega
   subst this;exact .inr fin) 0 (Y5 _)
end
def zi2{i n:Nat}(h:i<n)(hn:n<=4294967296):IntKind.wrap .i64 ((i:Int)+1)=((i+1:Nat):Int):=zac _ (by omega)
noncomputable def cX(r:Option AFx)(T:Tbl)(u:Nat)(xs:List AV)(d:Option Nat)(st:St):Option St:=
 match r with
 | some ⟨_,_,_,_,none,ex⟩=>cP T u ex xs d st
 | some ⟨_,_,_,_,some ms,ex⟩=>cL T u ex ms xs d st
 | none=>none
noncomputable def cD(r:Option AFx)(T:Tbl)(u:Nat)(ps:List Opd)(e:Env):Option AV:=
 match r with
 | some ⟨_,_,_,_,none,ex⟩=>dP T u ex ps e
 | _=>none
section
variable{T:Tbl}{u:Nat}{xs:List AV}{d:Option Nat}{st:St}{ps:List Opd}{e:Env}{np nt:Nat}{res:List RV}{b:AX}{ms:List Bool}{ex:Bool}
@[simp] def xG:Z3 (orc T) T u xs d st=cX (Tr T u) T u xs d st:=by
 cases h:Tr T u with
 | none=>unfold Tr at h;simp only[Z3,h,cX]
 | some r=>
  obtain⟨np,nt,res,b,l,ex⟩:=r;cases l with
  | none=>exact zbp h
  | some ms=>exact zou h
@[simp] def yG{h:Heap}{ol:List Heap}:opD (orc T) T (.call u ps) e h ol=cD (Tr T u) T u ps e:=by
 cases h:Tr T u with
 | none=>unfold Tr at h;simp only[opD,h,cD]
 | some r=>
  obtain⟨np,nt,res,b,l,ex⟩:=r;cases l with
  | none=>exact zuf h
  | some ms=>unfold Tr at h;simp only[opD,h,cD,Option.isNone_some,Bool.false_and,Yal,if_false]
@[simp] def cX_p:cX (some ⟨np,nt,res,b,none,ex⟩) T u xs d st=cP T u ex xs d st:=rfl
@[simp] def cX_l:cX (some ⟨np,nt,res,b,some ms,ex⟩) T u xs d st=cL T u ex ms xs d st:=rfl
@[simp] def cD_p:cD (some ⟨np,nt,res,b,none,ex⟩) T u ps e=dP T u ex ps e:=rfl
end
abbrev Qd(α:Type):=Nat→Nat→α×Nat×Nat
def Qc{α:Type}:List (Nat×Qd α)→Nat→Nat→Nat→Option (α×Nat×Nat)
 | [],_,_,_=>none
 | (f,p)::r,m,q,c=>if m<f then some (p c (f*q+m)) else Qc r (m-f) q c
def Qs{α:Type}(a:α)(l:List (Nat×Qd α)):Qd α:=fun c x=>(Qc l (x%256) (x/256) c).getD (a,c,x)
def Q0{α:Type}(a:α):Qd α:=fun c x=>(a,c,x)
def Q1{α β:Type}(f:α→β)(p:Qd α):Qd β:=fun c x=>match p c x with | (a,c,x)=>(f a,c,x)
def Q2{α β γ:Type}(f:α→β→γ)(p:Qd α)(q:Qd β):Qd γ:=fun c x=>match p c x with | (a,c,x)=>Q1 (f a) q c x
def Q3{α β γ δ:Type}(f:α→β→γ→δ)(p:Qd α)(q:Qd β)(r:Qd γ):Qd δ:=fun c x=>match p c x with | (a,c,x)=>Q2 (f a) q r c x
def Q4{α β γ δ ε:Type}(f:α→β→γ→δ→ε)(p:Qd α)(q:Qd β)(r:Qd γ)(s:Qd δ):Qd ε:=fun c x=>match p c x with | (a,c,x)=>Q3 (f a) q r s c x
def Q5{α β γ δ ε ζ:Type}(f:α→β→γ→δ→ε→ζ)(p:Qd α)(q:Qd β)(r:Qd γ)(s:Qd δ)(t:Qd ε):Qd ζ:=fun c x=>match p c x with | (a,c,x)=>Q4 (f a) q r s t c x

def Qi:List Nat→Nat→Nat→Nat→Nat×Nat
 | [],i,_,q=>(i,q)
 | f::r,i,m,q=>if m<f then (i,f*q+m) else Qi r (i+1) (m-f) q
def Qv(l:List Nat):Qd Nat:=fun c x=>match Qi l 0 (x%256) (x/256) with | (i,x)=>(i,c,x)
def Qr(m:Nat):Qd Nat:=fun c x=>(x%m,c,x/m)
def Qn(l:List Nat):Qd Nat:=fun c x=>match Qv l c x with | (a,c,x)=>if a<12 then (a,c,x) else Qr 4096 c x
def Qt(l:List Nat):Qd Nat:=fun c x=>match Qv l c x with | (a,c,x)=>if a<12 then (c-a,c,x) else if a=12 then Qr (c+1) c x else Qr 1024 c x
def Qo(l:List Nat):Qd (Option Nat):=fun c x=>match Qv l c x with | (a,c,x)=>if a=0 then (none,c,x) else if a<4 then (some (c+a),c+a,x) else (some (x%1024),x%1024,x/1024)
def Qw{α:Type}(p:Qd α):Nat→Qd (List α)
 | 0=>Q0 []
 | n+1=>Q2 List.cons p (Qw p n)
def Ql{α:Type}(p:Qd α):Qd (List α):=fun c x=>match Qn [40,69,52,37,14,11,8,4,7,4,3,2,5] c x with | (n,c,x)=>Qw p n c x
def QB:Qd Bool:=Q1 (·==1) (Qv [221,35])
def QK:Qd IntKind:=Qs .i64 [(155,Q0 .i64),(61,Q0 .u32),(29,Q0 .u64),(11,Q0 .u8)]
def QFl:Qd Fl:=Qs .nl [(256,Q0 .nl)]
def Qk(k:IntKind)(n:Nat):AV:=.i k (Int.ofNat n)
def QAV(A:List AV):Nat→Qd AV
 | 0=>Q0 .dead
 | n+1=>Qs .dead [(120,Q1 .b QB),(71,Q2 Qk QK (Qn [138,68,14,3,5,0,1,0,2,0,2,0,23])),(57,Q2 .sl (Ql (Ql (QAV A n))) QFl),(5,Q1 (A.getD · .dead) (Qn [228,22,6])),(3,Q1 .s (Ql (Q1 UInt8.ofNat (Qr 256))))]
def QOG:Qd (Option (Nat × Bool)):=Qs none [(244,Q0 none),(12,Q2 (fun a b=>some (a,b)) (Qt [14,82,24,14,9,7,5,4,4,4,4,4,48,33]) QB)]
def QOpd(A:List AV):Qd Opd:=Qs (.c .dead) [(224,Q1 .t (Qt [14,82,24,14,9,7,5,4,4,4,4,4,48,33])),(32,Q1 .c (QAV A 9))]
def QBin:Qd BinOp:=Qs .add [(80,Q0 .add),(49,Q0 .lss),(26,Q0 .eql),(25,Q0 .sub),(20,Q0 .gtr),(9,Q0 .shr),(8,Q0 .quo),(7,Q0 .rem),(7,Q0 .neq),(7,Q0 .geq),(6,Q0 .shl),(6,Q0 .or),(3,Q0 .mul),(3,Q0 .leq)]
def QON:Qd (Option Nat):=Qs none [(139,Q1 some (Qn [61,80,33,59,3,1,3,2,2,3,8,0,1])),(117,Q0 none)]
def QXOp:Qd XOp:=Qs .bad [(235,Q1 .box (Qn [61,80,33,59,3,1,3,2,2,3,8,0,1])),(11,Q0 .cpy),(5,Q1 .arsl (Qn [61,80,33,59,3,1,3,2,2,3,8,0,1])),(5,Q0 .bstr)]
def QP2(A:List AV):Qd (Nat × Opd):=Q2 Prod.mk (Qn [61,80,33,59,3,1,3,2,2,3,8,0,1]) (QOpd A)
def QP3(A:List AV):Qd (Nat × Nat × Opd):=Q3 (fun a b c=>(a,b,c)) (Qn [61,80,33,59,3,1,3,2,2,3,8,0,1]) (Qn [61,80,33,59,3,1,3,2,2,3,8,0,1]) (QOpd A)
def QUn:Qd UnOp:=Qs .not [(219,Q0 .not),(37,Q0 .neg)]
def QOOpd(A:List AV):Qd (Option Opd):=Qs none [(154,Q0 none),(102,Q1 some (QOpd A))]
def QAOp(A:List AV):Qd AOp:=Qs (.mov (.c .dead)) [(116,Q1 .mov (QOpd A)),(24,Q2 .call (Qr 4096) (Ql (QOpd A))),(23,Q3 .bin QBin (QOpd A) (QOpd A)),(22,Q2 .load QON (QOpd A)),(10,Q2 .ext (QOpd A) (Qn [61,80,33,59,3,1,3,2,2,3,8,0,1])),(8,Q3 .store (Qn [61,80,33,59,3,1,3,2,2,3,8,0,1]) (QOpd A) (QOpd A)),(8,Q2 .fad (Qn [61,80,33,59,3,1,3,2,2,3,8,0,1]) (QOpd A)),(8,Q1 .len (QOpd A)),(7,Q3 .iad (Qn [61,80,33,59,3,1,3,2,2,3,8,0,1]) (QOpd A) (QOpd A)),(5,Q1 .alloc (Ql (QAV A 9))),(5,Q2 .xop QXOp (Ql (QOpd A))),(4,Q3 .pick (QOpd A) (QOpd A) (QOpd A)),(3,Q2 .conv QK (QOpd A)),(2,Q4 .bsl (Qn [61,80,33,59,3,1,3,2,2,3,8,0,1]) (Ql (QAV A 9)) (Qn [61,80,33,59,3,1,3,2,2,3,8,0,1]) (Ql (QP2 A))),(1,Q4 .mks (Qn [61,80,33,59,3,1,3,2,2,3,8,0,1]) (Ql (QAV A 9)) (QOpd A) (QOpd A)),(1,Q2 .build (Ql (QAV A 9)) (Ql (QP3 A))),(1,Q2 .mm QB (Ql (QOpd A))),(1,Q2 .un QUn (QOpd A)),(1,Q3 .app (Qn [61,80,33,59,3,1,3,2,2,3,8,0,1]) (QOpd A) (QOpd A)),(1,Q3 .eqb QB (QOpd A) (QOpd A)),(1,Q2 .ixs (QOpd A) (QOpd A)),(1,Q1 .lens (QOpd A)),(1,Q4 .iaa (Qn [61,80,33,59,3,1,3,2,2,3,8,0,1]) (Qn [61,80,33,59,3,1,3,2,2,3,8,0,1]) (QOpd A) (QOpd A)),(1,Q3 .slstr (QOpd A) (QOOpd A) (QOOpd A)),(1,Q5 .slc (Qn [61,80,33,59,3,1,3,2,2,3,8,0,1]) (QOpd A) (QOOpd A) (QOOpd A) (QOOpd A))]
def QAO(A:List AV):Qd AO:=Q3 AO.mk (Qo [9,168,6,3,70]) QOG (QAOp A)
def QGh:Qd Gh:=Qs (.trm []) [(253,Q2 .norm QB (Ql (Qt [79,44,20,5,8,7,6,8,7,3,6,4,58,1]))),(3,Q2 .nil (Qt [79,44,20,5,8,7,6,8,7,3,6,4,58,1]) (Qn [61,80,33,59,3,1,3,2,2,3,8,0,1]))]
def QDO(A:List AV):Qd DO:=Q3 DO.mk (QAO A) (Qn [61,80,33,59,3,1,3,2,2,3,8,0,1]) (Qn [61,80,33,59,3,1,3,2,2,3,8,0,1])
def QAX(L:List AX)(A:List AV):Nat→Qd AX
 | 0=>Q0 .skip
 | n+1=>Qs .skip [(89,Q2 .seq (QAX L A n) (QAX L A n)),(75,Q1 .reg (Ql (QAO A))),(17,Q2 .pre QGh (QAX L A n)),(17,Q0 .ret),(13,Q3 .cond (QOpd A) (QAX L A n) (QAX L A n)),(12,Q0 .skip),(6,Q2 .block (Qn [61,80,33,59,3,1,3,2,2,3,8,0,1]) (QAX L A n)),(5,Q2 .note (QAX L A n) QGh),(5,Q1 .exit (Qn [61,80,33,59,3,1,3,2,2,3,8,0,1])),(5,Q4 .lp (Qn [61,80,33,59,3,1,3,2,2,3,8,0,1]) QGh (QAX L A n) QGh),(5,Q1 (L.getD · .skip) (Qn [228,22,6])),(4,Q2 .drawT (Ql (QAO A)) (Ql (QAO A))),(1,Q1 .draw (Ql (QDO A))),(1,Q1 .scope (QAX L A n)),(1,Q1 .label (Qn [61,80,33,59,3,1,3,2,2,3,8,0,1]))]
def Qm(l:List Char)(n:Nat):Nat:=match l with
 | []=>n
 | c::l=>Qm l (n*64+(let k:=c.toNat;if k=46 then 0 else if k<58 then k-47 else if k<91 then k-54 else if k<96 then k-58 else k-59))
def Qz(L:List AX)(A:List AV)(s:String):AX:=(QAX L A 99 0 (Qm s.toList 0)).1
theorem Qk8(n:Nat):AV.i .u8 (Int.ofNat n)=u8 n:=rfl
theorem Qk3(n:Nat):AV.i .u32 (Int.ofNat n)=u32 n:=rfl
theorem Qk6(n:Nat):AV.i .u64 (Int.ofNat n)=u64 n:=rfl
theorem Qki(n:Nat):AV.i .i64 (Int.ofNat (no_index (OfNat.ofNat n)))=.i .i64 (OfNat.ofNat n):=rfl
theorem Qe{L A s l b c}(h:s=String.ofList l)(h1:(QAX L A 99 0 (Qm l 0)).1=b)(h2:b=c):Qz L A s=c:=by rw[h,Qz,String.toList_ofList,h1,h2]
@[simp] abbrev QY{c:AX}(L:List AX)(A:List AV)(s:String)(_:Qz L A s=c:=by exact Qe rfl (by cbv) (by (try simp only[Qk8,Qk3,Qk6,Qki]);rfl)):AX:=c
@[simp] abbrev QZ{c:AX}(s:String)(_:Qz [] [] s=c:=by exact Qe rfl (by cbv) (by (try simp only[Qk8,Qk3,Qk6,Qki]);rfl)):AX:=c
end
section
def b115:AX:=QZ "0T6ntoQI5db6Pi.w3wPlSka0Qi_03atkRQ0nIWY4nkSby_AeKyezJPeiI540sG5tMwhAmVpwjXuWed7InH_H"
def b116:AX:=QZ "dMcZGpbLzWfab.fS08NHDC.A84b0VON_HsbwdYGqkz4ItdtGVWdLQ.H5rPMnEa7P4J7_2iWr6RJ"
def b117:AX:=QZ "U_F_3CTuuAdXny8IfUUtYqa.mpuxNjCfT7TBHqXgFMpPFjunjHNv_kNiz6fkp"
def b118:AX:=QZ "1RWhMp7njIwABMash3I82Dz9PeFUyD72ZYPAnWDuN.gyPl0fvvulfP2iAD3cjTfZPm6CQnuIoah0rkV8lt48wR"
def l91_0:AX:=QZ "4f0fKJPlYW3RYA7dSdY5yu_39iE.C4FQ9YS0OU_7esEit222wo8N7e1MS0Q06a"
def b91:AX:=(fun p0=>QY [p0] [] "RyHO8_sOGpwh15abP2n4UjVbdARllAupA") l91_0
abbrev row115:AFx:=⟨3,26,[.t 6,.t 7],b115,none,false⟩
abbrev row116:AFx:=⟨3,25,[.t 6,.t 7],b116,none,false⟩
abbrev row117:AFx:=⟨4,27,[.t 8,.t 9],b117,none,false⟩
abbrev row118:AFx:=⟨3,29,[.t 6,.t 7,.t 8],b118,none,false⟩
abbrev row91:AFx:=⟨1,23,[.t 2],b91,none,false⟩
class Za3 (T:Tbl):Prop where
 h115:Tr T 115=some row115
 h116:Tr T 116=some row116
 h117:Tr T 117=some row117
 h118:Tr T 118=some row118
 h91:Tr T 91=some row91
attribute [simp] Za3.h115 Za3.h116 Za3.h117 Za3.h118 Za3.h91
end
section
variable{T:Tbl}[Za3 T]
def zuq(x y c:UInt32):Zb T 115 [u32 x.toNat,u32 y.toNat,u32 c.toNat] =
  some (.tup [u32 (w32 (x.toNat+y.toNat+c.toNat)).toNat,u32 (w32 ((x.toNat+y.toNat+c.toNat)/4294967296)).toNat]):=by
 have hx:=zal x;have hy:=zal y;have hc:=zal c;rw[zaa Za3.h115 rfl,b115];simp[zbh]
 repeat' split
 all_goals simp
 all_goals omega
def zur(x y b:UInt32):Zb T 116 [u32 x.toNat,u32 y.toNat,u32 b.toNat] =
  some (.tup [u32 (w32 (x.toNat+8589934592-(y.toNat+b.toNat))).toNat,u32 (w32 (2-(x.toNat+8589934592-(y.toNat+b.toNat))/4294967296)).toNat]):=by
 have hx:=zal x;have hy:=zal y;have hb:=zal b;rw[zaa Za3.h116 rfl,b116];by_cases h1:x.toNat<y.toNat <;>
 by_cases h2:Zez x.toNat y.toNat<b.toNat <;>
 ·simp[h1,h2,zbh];unfold Zez at *
  omega
def zih{a b:Nat}(ha:a<4294967296)(hb:b<4294967296):a*b<=18446744065119617025:=by
 have:a*b<=4294967295*4294967295:=Ycf (by omega) (by omega);omega
def zus(x y c d:UInt32):Zb T 117 [u32 x.toNat,u32 y.toNat,u32 c.toNat,u32 d.toNat] =
  some (.tup [u32 (w32 ((x.toNat*y.toNat+c.toNat+d.toNat)/4294967296)).toNat,u32 (w32 (x.toNat*y.toNat+c.toNat+d.toNat)).toNat]):=by
 have hx:=zal x;have hy:=zal y;have hc:=zal c;have hd:=zal d;have hm:=zih hx hy;rw[zaa Za3.h117 rfl,b117];simp[zbh];generalize x.toNat*y.toNat=m at *
 omega
def znv(hi lo y:UInt32):Zb T 118 [u32 hi.toNat,u32 lo.toNat,u32 y.toNat] =
  some (if y.toNat<=hi.toNat then .tup [u32 0,u32 0,.b false]
   else .tup [u32 (w32 ((hi.toNat*4294967296+lo.toNat)/y.toNat)).toNat,u32 (w32 ((hi.toNat*4294967296+lo.toNat)%y.toNat)).toNat,.b true]):=by
 have hx:=zal hi;have hy:=zal y;have hl:=zal lo;rw[zaa Za3.h118 rfl,b118];by_cases h1:y.toNat<=hi.toNat
 ·simp[h1]
 ·have h2:¬ y.toNat=0:=by omega
  simp[h1,h2,zbh];have e:hi.toNat*4294967296%18446744073709551616=hi.toNat*4294967296:=Yu (by omega);have e2:(hi.toNat*4294967296) ||| lo.toNat=hi.toNat*4294967296+lo.toNat:=by
   have:=Yb2 (i:=32) hl hi.toNat;rw[Y9 hi.toNat,show (4294967296:Nat)=2^32 from rfl,this]
  have h3:(hi.toNat*4294967296+lo.toNat)/y.toNat<4294967296:=by
   rw[Yaw (by omega)];have:=Yam 4294967296 (show hi.toNat+1<=y.toNat by omega);omega
  rw[e,e2,Yu (show hi.toNat*4294967296+lo.toNat<18446744073709551616 by omega)];exact⟨rfl,rfl⟩
def zdz(x y c:Nat)(hx:x<4294967296)(hy:y<4294967296)(hc:c<4294967296):Zb T 115 [u32 x,u32 y,u32 c]=some (.tup [u32 ((x+y+c)%4294967296),u32 ((x+y+c)/4294967296)]):=by
 have:=zuq (T:=T) (w32 x) (w32 y) (w32 c);rw[zae hx,zae hy,zae hc,zbh,zae (by omega)]at this;exact this
def ze2(x y b:Nat)(hx:x<4294967296)(hy:y<4294967296)(hb:b<4294967296):Zb T 116 [u32 x,u32 y,u32 b] =
  some (.tup [u32 ((x+8589934592-(y+b))%4294967296),u32 (2-(x+8589934592-(y+b))/4294967296)]):=by
 have:=zur (T:=T) (w32 x) (w32 y) (w32 b);rw[zae hx,zae hy,zae hb,zbh,zae (by omega)]at this;exact this
def zha(x y c d:Nat)(hx:x<4294967296)(hy:y<4294967296)(hc:c<4294967296)(hd:d<4294967296):Zb T 117 [u32 x,u32 y,u32 c,u32 d] =
  some (.tup [u32 ((x*y+c+d)/4294967296),u32 ((x*y+c+d)%4294967296)]):=by
 have:=zus (T:=T) (w32 x) (w32 y) (w32 c) (w32 d);have hm:=zih hx hy;rw[zae hx,zae hy,zae hc,zae hd,zbh (x*y+c+d),zae (by omega)]at this;exact this
def zvz{hi lo y:Nat}(h:hi<y)(hl:lo<4294967296):(hi*4294967296+lo)/y<4294967296:=by
 rw[Yaw (by omega)];have:=Yam 4294967296 (show hi+1<=y by omega);omega
def zk0(hi lo y:Nat)(hx:hi<y)(hl:lo<4294967296)(hy:y<4294967296):Zb T 118 [u32 hi,u32 lo,u32 y] =
  some (.tup [u32 ((hi*4294967296+lo)/y),u32 ((hi*4294967296+lo)%y),.b true]):=by
 have:=znv (T:=T) (w32 hi) (w32 lo) (w32 y);rw[zae (show hi<4294967296 by omega),zae hl,zae hy,zae (zvz hx hl),zae (by have:=Ya7 (hi*4294967296+lo) (show 0<y by omega);omega),if_neg (by omega)]at this;exact this
def zo7(hi lo y:Nat)(hx:y<=hi)(hh:hi<4294967296)(hl:lo<4294967296):Zb T 118 [u32 hi,u32 lo,u32 y]=some (.tup [u32 0,u32 0,.b false]):=by
 have:=znv (T:=T) (w32 hi) (w32 lo) (w32 y);rw[zae hh,zae hl,zae (show y<4294967296 by omega),if_pos hx]at this;exact this
def Zbv(n:Nat):Nat:=if n=0 then 0 else n.log2+1
def zo8{n s:Nat}(h:n/2^s≠0):Zbv n=s+Zbv (n/2^s):=by
 have hn:n≠0:=by rintro rfl;simp at h
 have hlog:(n/2^s).log2+s=n.log2:=by
  have h1:=Nat.log2_self_le h;have h2:=Ydn (n:=n/2^s);have h3:=Nat.log2_self_le hn;have h4:=Ydn (n:=n);have hp:0<2^s:=Ybh (by decide);have a1:2^((n/2^s).log2+s)<=n:=by
   rw[Yb3];exact(Ybg hp).1 h1
  have a2:n<2^((n/2^s).log2+1+s):=by
   rw[Yb3];exact(Yaw hp).1 h2
  have b1:=(Nat.le_log2 hn).2 a1;have b2:=(Nat.log2_lt hn).2 a2;omega
 unfold Zbv;rw[if_neg h,if_neg hn];omega
def zo9{x:Nat}(h:x<2):Zbv x=x:=by
 rcases(show x=0\/x=1 by omega) with rfl | rfl<;>decide
def Zgs(y:Nat×Nat×Nat):St:=⟨[(0,u32 y.1),(3,.i .i64 y.2.1),(4,.i .i64 y.2.2)],[],2⟩
end
section
variable{T:Tbl}
def zi9(N:Nat):∀y:Nat×Nat×Nat,((y.2.2=16\/y.2.2=8\/y.2.2=4\/y.2.2=2\/y.2.2=1\/y.2.2=0)/\y.1<2^(2*y.2.2)*(if y.2.2=0 then 2 else 1)/\y.2.1+Zbv y.1=N/\y.2.1+2*y.2.2<=32) ->
  ∃r,(∃(x n:Nat),r=(Ex.n,(⟨[(0,u32 x),(3,.i .i64 (n:Int))],[],2⟩:St))/\x<2/\n+Zbv x=N/\n<=32)/\Zr T 0 0 (.norm false [0,3]) l91_0 (Zgs y)=some r:=by
 refine zbc _ _ (fun y=>y.2.2) _ ?_
 rintro⟨x,n,s⟩ ⟨hs,hx,hN,hn⟩
 simp only at hs hx hN hn;by_cases h0:s=0
 ·right;subst h0;refine⟨_,⟨x,n,rfl,by simpa using hx,hN,by omega⟩,?_,?_⟩<;>simp[l91_0,Zgs]
 ·left;by_cases h1:x/2^s=0
  ·refine⟨(x,n,s/2),⟨?_,?_,hN,by simp only;omega⟩,by simp only;omega,?_⟩
   ·rcases hs with rfl | rfl | rfl | rfl | rfl | rfl<;>simp
   ·have h2:x<2^s:=by
     rcases Yo x (2^s) with h | h
     ·exact h
     ·have:=Nat.div_pos h (Ybh (by decide));omega
    rcases hs with rfl | rfl | rfl | rfl | rfl | rfl<;>simp at h2 ⊢<;>omega
   ·rcases hs with rfl | rfl | rfl | rfl | rfl | rfl<;>simp at h1<;>simp[l91_0,Zgs,h1]at h0 ⊢
  ·refine⟨(x/2^s,n+s,s/2),⟨?_,?_,?_,by simp only;omega⟩,by simp only;omega,?_⟩
   ·rcases hs with rfl | rfl | rfl | rfl | rfl | rfl<;>simp
   ·rcases hs with rfl | rfl | rfl | rfl | rfl | rfl<;>simp at hx h0 ⊢<;>omega
   ·have:=zo8 h1;simp only;omega
   ·have hw:IntKind.wrap .i64 ((n:Int)+s)=((n+s:Nat):Int):=zac _ (by omega);rcases hs with rfl | rfl | rfl | rfl | rfl | rfl<;>simp at h1 hw<;>simp[l91_0,Zgs,h1,hw]at h0 ⊢
end
section
variable{T:Tbl}[Za3 T]
def zut(x:UInt32):Zb T 91 [u32 x.toNat]=some (.i .i64 (Zbv x.toNat)):=by
 have hx:=zal x;obtain⟨_,⟨y,n,rfl,h1,h2,h3⟩,hl⟩:=zi9 (T:=T) (Zbv x.toNat) (x.toNat,0,16) ⟨.inl rfl,by simp,by simp,by simp⟩;have hw:IntKind.wrap .i64 (y:Int)=y:=zac _ (by omega);have hw2:IntKind.wrap .i64 ((n:Int)+y)=((n+y:Nat):Int):=zac _ (by omega);have h4:=zo9 h1;rw[zaa Za3.h91 rfl,b91];simp;unfold Zgs at hl;simp at hl;rw[hl];simp[hw,hw2];omega
end
section
def l86_0:AX:=QZ "x5YjQcNpR8..6K2x0d9f84kZFXeGH4tbB3KdxeJg9u_PTTDCYYa"
def b86:AX:=(fun p0=>QY [p0] [] "FhM4grKoUFAD.mQZPDVvz5d5rBZBQD8gcn") l86_0
def b106:AX:=QZ "bgDkcj4jbcxRx7iFfPZ3.dnuthPpL4RPfGvqW4"
def b71:AX:=QZ "188RW3RaweR0fSaAnt10J"
def b72:AX:=QZ "R1SZ7Y_sMV9Qe1VAfgHrzaa0f6YCb_GK"
def l73_0:AX:=QZ "Dbb6WybRxwzQ14Y3EDZ_v4CF_Cu_X13_bRtmbt_xCRtB_45.msoiS52LrzahbY_"
def b73:AX:=(fun p0=>QY [p0] [] "15CvUsCqrDN4.Ps8d17oJgpTVSIBZpMy313GI1STVehunrXx4pSW4pbk3n2SjOcpoH") l73_0
def b70:AX:=QZ "0OJiENkNL_QgstmniugM"
def l87_0:AX:=QY [] [(AV.i .i64 (-1))] "H9yzmtePm22SpYH1OZlEI7DmhtWtNbx8eINoZsPAbAnYkaRDUyPqzQjTpAfSJf87MziVjVATaDt2H6KRyFHGBBEjAuBFQc"
def b87:AX:=(fun p0=>QY [p0] [(AV.i .i64 (-1))] "DxCrr1Tcu.nLWjLTrQwds.prO71VipLiZrUKZL65Wn5E3ClcHgK5rUvLA98b9yOA3Ref7fGK41sjQ9WkbvQUh4374TryhLgi") l87_0
def l85_0:AX:=QZ "GAYfyz7QQfqjQ6aKRJsm2pxRMvjN0jLlRA84EeCCx4oOCxI4X707tDzPAq72wQBari4teQQvK.lY0z_68dDAegiFIDOwvHBO9aK3Eh2rd"
def b85:AX:=(fun p0=>QY [p0] [] "kv09vbCTPIpPr39bynaAdNTn_1R_KM9qaCsGFYuYQTihQpCMKhTdgY_s2woZH0af47SXPIz0_X.bktjl2zga3PiJn7o") l85_0
def l56_0:AX:=QZ "v4VLANtwGQZu94pP7bWswLXvmV_JwaqnrTZxcs_gwntnmizJJEd"
def b56:AX:=(fun p0=>QY [p0] [] "4oTsN6o1YS.e1xbnrcOFtF40NFg3NK") l56_0
def l88_0:AX:=QZ "it4JRBePmFg_WGXU4Z69zoscDkr0s4WO_Os2l5AMxm9oViUhql3thQVdMzuYSEpd1I8a7pZc5JSEU8JBaVtWBVBzETtu5txYjAUq7vkMb"
def b88:AX:=(fun p0=>QY [p0] [] "0QzJS1QR7gJqIA1Y09iCgalECyRnNB5ER63wb.ZhAPrix5UpS3F_CL6AO7_doin3Sks02AKWsFgPBRFtLINTN5vmtLcXiENioO") l88_0
def b57:AX:=QZ "yNh3HxjtT0kDol1d.ei2i5a8ga4QTOxDYTB7942HBbYpEK4JjcaHK0t9C5wdbQDiS5WR.YXLsE9On9BvRol"
def b2106:AX:=QZ "bgDkcj4jbcxRx7iFfPZ3.dnuthPpL4RPfGvqW4"
abbrev row86:AFx:=⟨1,21,[.t 2],b86,none,false⟩
abbrev row106:AFx:=⟨2,15,[.t 4],b106,none,false⟩
abbrev row71:AFx:=⟨1,6,[.t 2],b71,none,false⟩
abbrev row72:AFx:=⟨1,10,[.t 2],b72,none,false⟩
abbrev row73:AFx:=⟨1,28,[.t 2,.t 3],b73,none,false⟩
abbrev row70:AFx:=⟨1,7,[.t 2],b70,none,false⟩
abbrev row87:AFx:=⟨2,49,[.t 4],b87,none,false⟩
abbrev row85:AFx:=⟨2,52,[.t 4],b85,none,false⟩
abbrev row56:AFx:=⟨1,18,[.t 2],b56,none,false⟩
abbrev row88:AFx:=⟨2,49,[.t 4,.t 5],b88,none,false⟩
abbrev row57:AFx:=⟨2,24,[.t 4,.t 5],b57,none,false⟩
abbrev row2106:AFx:=⟨2,15,[.t 4],b2106,(some [false,false]),false⟩
class Zl (T:Tbl):Prop extends Za3 T where
 h86:Tr T 86=some row86
 h106:Tr T 106=some row106
 h71:Tr T 71=some row71
 h72:Tr T 72=some row72
 h73:Tr T 73=some row73
 h70:Tr T 70=some row70
 h87:Tr T 87=some row87
 h85:Tr T 85=some row85
 h56:Tr T 56=some row56
 h88:Tr T 88=some row88
 h57:Tr T 57=some row57
 h2106:Tr T 2106=some row2106
attribute [simp] Zl.h86 Zl.h106 Zl.h71 Zl.h72 Zl.h73 Zl.h70 Zl.h87 Zl.h85 Zl.h56 Zl.h88 Zl.h57 Zl.h2106
end
def val:List UInt32->Nat
 | []=>0
 | x::l=>x.toNat+4294967296*val l
def ofN(n:Nat):List UInt32:=if n=0 then [] else w32 n::ofN (n/4294967296)
termination_by n
decreasing_by omega
def Zgv(l:List UInt32):Prop:=∀x,l.getLast? = some x->x.toNat≠0
@[simp] theorem zb6:val []=0:=rfl
@[simp] theorem zao(x:UInt32)(l:List UInt32):val (x::l)=x.toNat+4294967296*val l:=rfl
@[simp] def zjh:ofN 0=[]:=by rw[ofN];rfl
def zhf{n:Nat}(h:n≠0):ofN n=w32 n::ofN (n/4294967296):=by rw[ofN,if_neg h]
def zdm(n:Nat):(w32 n).toNat=n%4294967296:=zbh n
def zv4{x:UInt32}{n:Nat}(h:n%4294967296=x.toNat):w32 n=x:=by
 rw[<-UInt32.toNat_inj,zdm,h]
theorem zah(n:Nat):val (ofN n)=n:=by
 induction n using Nat.strongRecOn with
 | _ n ih=>
  by_cases h:n=0
  ·subst h;simp
  ·rw[zhf h,zao,ih (n/4294967296) (by omega),zdm];omega
theorem zaj(l m:List UInt32):val (l++m)=val l+4294967296^l.length*val m:=by
 induction l with
 | nil=>simp
 | cons x l ih=>
  simp only[Yb6,zao,ih,Yl,Yaa,Yae,Yaj];congr 2;rw[<-Yap,Y9 4294967296 (4294967296^l.length)]
def za0(l:List UInt32):val l<4294967296^l.length:=by
 induction l with
 | nil=>simp
 | cons x l ih=>
  have:=zal x;simp only[zao,Yl,Yaa];omega
def zil{x:UInt32}{l:List UInt32}(h:Zgv (x::l)):Zgv l:=by
 intro y hy;apply h;cases l with
 | nil=>simp at hy
 | cons z l=>rw[List.getLast?_cons_cons];exact hy
def zvc{l:List UInt32}(h:Zgv l):val l=0↔l=[]:=by
 constructor
 ·intro h0
  induction l with
  | nil=>rfl
  | cons x l ih=>
   exfalso;simp only[zao]at h0;have h1:=ih (zil h) (by omega);subst h1;exact h x (by simp) (by omega)
 ·rintro rfl;rfl
def zyd{l:List UInt32}(h:Zgv l):ofN (val l)=l:=by
 induction l with
 | nil=>simp
 | cons x l ih=>
  have hx:=zal x;have hne:val (x::l)≠0:=fun h0=>by have:=(zvc h).1 h0;cases this
  rw[zhf hne];congr 1
  ·exact zv4 (by simp only[zao];omega)
  ·rw[show val (x::l)/4294967296=val l by simp only[zao];omega];exact ih (zil h)
def zbq{n:Nat}:ofN n=[]↔n=0:=⟨fun h=>by rw[<-zah n,h];rfl,fun h=>by rw[h];simp⟩
def zpn{a:List UInt32}{n:Nat}(hn:n<=a.length)(h0:∀(i:Nat) (x:UInt32),n<=i->a[i]? = some x->x.toNat=0)(h1:∀x:UInt32,0<n->a[n-1]? = some x->x.toNat≠0):a.take n=ofN (val a):=by
 have hr:Zgv (a.take n):=by
  intro x hx;have hn0:0<n:=by
   rcases Ya9 n with h | h
   ·subst h;simp at hx
   ·exact h
  apply h1 x hn0;rw[List.getLast?_eq_getElem?,Yau,Ybo hn,Y6,if_pos (by omega)]at hx;exact hx
 have hz:∀l:List UInt32,(∀(i:Nat) (x:UInt32),l[i]? = some x->x.toNat=0)->val l=0:=by
  intro l
  induction l with
  | nil=>intro _;rfl
  | cons x l ih=>
   intro h;have h2:=h 0 x rfl;have h3:=ih fun i y hy=>h (i+1) y (by simpa using hy);simp only[zao,h2,h3]
 have hv:val a=val (a.take n):=by
  have e:=zaj (a.take n) (a.drop n);rw[Ya0,hz (a.drop n) (fun i x hx=>h0 (n+i) x (by omega) (by rw[Yag]at hx;exact hx))]at e;omega
 rw[hv,zyd hr]
def zny(a:List UInt32):∃n,n<=a.length/\a.take n=ofN (val a)/\(∀(i:Nat) (x:UInt32),n<=i->a[i]? = some x->x.toNat=0)/\(∀x:UInt32,0<n->a[n-1]? = some x->x.toNat≠0):=by
 have key:∀k,k<=a.length->(∀(i:Nat) (x:UInt32),k<=i->a[i]? = some x->x.toNat=0)->∃n,n<=k/\(∀(i:Nat) (x:UInt32),n<=i->a[i]? = some x->x.toNat=0)/\(∀x:UInt32,0<n->a[n-1]? = some x->x.toNat≠0):=by
  intro k
  induction k with
  | zero=>intro _ h;exact⟨0,Yg _,h,fun x hx=>by omega⟩
  | succ k ih=>
   intro hk h;by_cases hz:(a[k]'(by omega)).toNat=0
   ·obtain⟨n,h1,h2,h3⟩:=ih (by omega) fun i x hi hx=>by
     rcases Yo k i with h4 | h4
     ·exact h i x h4 hx
     ·have:i=k:=by omega
      subst this;rw[Ya (by omega)]at hx;cases hx;exact hz
    exact⟨n,by omega,h2,h3⟩
   ·refine⟨k+1,Yg _,h,fun x _ hx=>?_⟩;rw[Nat.add_sub_cancel,Ya (by omega)]at hx;cases hx;exact hz
 obtain⟨n,h1,h2,h3⟩:=key a.length (Yg _) fun i x hi hx=>by rw[List.getElem?_eq_none hi]at hx;cases hx
 exact⟨n,h1,zpn h1 h2 h3,h2,h3⟩
def zab(a:List UInt32):(ofN (val a)).length<=a.length:=by
 obtain⟨n,h1,h2,_⟩:=zny a;rw[<-h2,Yau];omega
theorem zam{n k:Nat}(h:n<4294967296^k):(ofN n).length<=k:=by
 induction k generalizing n with
 | zero=>
  have:n=0:=by simp at h;omega
  subst this;simp
 | succ k ih=>
  by_cases h0:n=0
  ·subst h0;simp
  ·rw[zhf h0,Yl];have:=ih (n:=n/4294967296) (by rw[Yaa]at h;omega);omega
theorem zad{a:List UInt32}{i:Nat}{x:UInt32}(h:a[i]? = some x):val (a.take (i+1))=val (a.take i)+4294967296^i*x.toNat:=by
 have hi:i<a.length:=by
  rcases Yo i a.length with h1 | h1
  ·exact h1
  ·rw[List.getElem?_eq_none h1]at h;cases h
 rw[Yde,h,zaj];simp only[Option.toList_some,zao,zb6,Ya1,Y0,Yau];rw[Ybo (by omega)]
def zch{a:List UInt32}{i:Nat}(x:UInt32)(h:i<a.length):val ((a.set i x).take (i+1))=val (a.take i)+4294967296^i*x.toNat:=by
 rw[zad (x:=x) (by rw[Yce h]),List.take_set_of_le (Yg i)]
def za9{a:List UInt32}{i:Nat}(h:a.length<=i):val (a.take i)=val a:=by rw[Yb h]
def zdn(n:Nat):val (List.replicate n 0)=0:=by
 induction n with
 | zero=>rfl
 | succ n ih=>simp[Ybs,ih]
def zfm{m n:Nat}(h:(ofN m).length<(ofN n).length):m<n:=by
 rcases Yo m n with h1 | h1
 ·exact h1
 ·exfalso;have h2:=za0 (ofN m);rw[zah]at h2;have:=zam (show n<4294967296^(ofN m).length by omega);omega
def za3{m n:Nat}(h:m<=n):(ofN m).length<=(ofN n).length:=by
 rcases Yo (ofN n).length (ofN m).length with h1 | h1
 ·have:=zfm h1;omega
 ·exact h1
def Zfs(x y:Nat):Int:=if x<y then -1 else if y<x then 1 else 0
def zta{a b:List UInt32}{i:Nat}{x y:UInt32}(hx:a[i]? = some x)(hy:b[i]? = some y)(h:x.toNat<y.toNat):val (a.take (i+1))<val (b.take (i+1)):=by
 rw[zad hx,zad hy];have h1:=za0 (a.take i);have h2:4294967296^(a.take i).length<=4294967296^i:=Y2 (by decide) (by simp;omega);have h3:=Yam (4294967296^i) (show x.toNat+1<=y.toNat from h);rw[Yae]at h3;omega
def zji{x y c:Nat}(hx:x<4294967296)(hy:y<4294967296)(hc:c<=1) :
  (x+8589934592-(y+c))%4294967296+(y+c)=x+4294967296*(2-(x+8589934592-(y+c))/4294967296)/\2-(x+8589934592-(y+c))/4294967296<=1:=by omega
def lls(l:List (List UInt32)):List (List AV):=l.map fun a=>[.sl (Za a) .an]
@[simp] def z0e(l:List (List UInt32)):(lls l).length=l.length:=by simp[lls]
@[simp] def zaej(l:List (List UInt32)):wkL (lls l)=lls l:=by rw[zcx];simp[lls,wkR]
@[simp] def zye(l:List (List UInt32))(i:Nat)(h:i<(lls l).length):(lls l)[i]=[.sl (Za (l[i]'(by simpa using h))) .an]:=by simp[lls]
section
variable{T:Tbl}
def zst(a:List UInt32)(hl:a.length<9223372036854775808){n:Nat}(hn:n<=a.length)(h0:∀(i:Nat) (x:UInt32),n<=i->a[i]? = some x->x.toNat=0)(h1:∀x:UInt32,0<n->a[n-1]? = some x->x.toNat≠0) :
  ∀m:Nat,(n<=m/\m<=a.length)->Zr T 0 0 (.norm false [0,3]) l86_0 ⟨[(0,.sl (Za a) .an),(3,.i .i64 (m:Int))],[],2⟩=some (.n,⟨[(0,.sl (Za a) .an),(3,.i .i64 (n:Int))],[],2⟩):=by
 refine zcc (fun m:Nat=>⟨[(0,.sl (Za a) .an),(3,.i .i64 (m:Int))],[],2⟩) _ (fun m=>m) _ ?_
 rintro m ⟨hm,hma⟩
 by_cases h2:m=0
 ·right;subst h2;have:n=0:=by omega
  subst this;constructor<;>simp[l86_0]
 ·have hw:IntKind.wrap .i64 ((m:Int)-1)=((m-1:Nat):Int):=by rw[zac _ (by omega)];omega
  have hm1:m-1<a.length:=by omega
  have hg:a[m-1]? = some (a[m-1]'hm1):=Ya hm1;have hpos:0<m:=by omega
  by_cases h3:m=n
  ·right;subst h3;have hx:=h1 _ hpos hg;constructor<;>simp[l86_0,hpos,hw,hm1,hx]
  ·left;refine⟨m-1,⟨by omega,by omega⟩,by show m-1<m;omega,?_,rfl⟩;have hx:=h0 (m-1) _ (by omega) hg;simp[l86_0,hpos,hw,hm1,hx]
end
section
variable{T:Tbl}[Zl T]
def zbe(a:List UInt32)(hl:a.length<=4294967296):Zb T 86 [.sl (Za a) .an]=some (.sl (Za (ofN (val a))) .an):=by
 obtain⟨n,h1,h2,h3,h4⟩:=zny a;have hr:=zst (T:=T) a (by omega) h1 h3 h4 a.length ⟨h1,Yg _⟩;rw[zaa Zl.h86 rfl,b86];simp[hr,h1,h2]
def zsu(a:List UInt32)(m:Nat)(hl:a.length+m<=4294967296):Zb T 106 [.sl (Za a) .an,.i .i64 (m:Int)]=some (.sl (Za (a++List.replicate m 0)) .an):=by
 have hw:IntKind.wrap .i64 ((a.length:Int)+m)=((a.length+m:Nat):Int):=zac _ (by omega);have h0:(0:Int)<=(a.length:Int)+m:=by omega
 have h2:(a.length:Int)+m<=4294967296:=by omega
 have h3:((a.length:Int)+m).toNat=a.length+m:=by omega
 rw[zaa Zl.h106 rfl,b106];simp[hw,h0,h2,h3,Yb]
def zcl(a:List UInt32)(m:Nat)(hl:a.length+m<=4294967296):Zcg T 2106 [.sl (Za a) .an,.i .i64 (m:Int)] [] =
  some (.bs (.loc 10) 1 1 0 (a.length+m),[(.loc 10,⟨1,.own,1,Za (a++List.replicate m 0)⟩)]):=by
 have hw:IntKind.wrap .i64 ((a.length:Int)+m)=((a.length+m:Nat):Int):=zac _ (by omega);have h0:(0:Int)<=(a.length:Int)+m:=by omega
 have h2:(a.length:Int)+m<=4294967296:=by omega
 have h3:((a.length:Int)+m).toNat=a.length+m:=by omega
 rw[zc3 Zl.h2106 rfl,b2106];simp[hw,h0,h2,h3]
def zbj(a:List UInt32)(hl:a.length<=4294967296):Zb T 71 [.sl (Za a) .an]=some (.sl (Za (ofN (val a))) .an):=by
 have h1:=zab a;have h2:=zsu (T:=T) (ofN (val a)) 0 (by omega);simp only[Yar]at h2;rw[zaa Zl.h71 rfl,b71];simp[zbe a hl,h2]
def zhb(n:Nat)(h:n<18446744073709551616):Zb T 72 [u64 n]=some (.sl (Za (ofN n)) .an):=by
 have e2:val [w32 n,w32 (n/4294967296)]=n:=by simp[zdm];omega
 have h2:=zbe (T:=T) [w32 n,w32 (n/4294967296)] (by simp);rw[e2]at h2;have h3:n/4294967296%4294967296=n/4294967296:=Yu (by omega);rw[zaa Zl.h72 rfl,b72];simp[h3,zbd _ _ _ (show n/4294967296<4294967296 by omega),h2]
def ze3(a:List UInt32)(hl:a.length<=4294967296):Zb T 70 [.sl (Za a) .an]=some (.b (decide (val a=0))):=by
 rw[zaa Zl.h70 rfl,b70];have:((((ofN (val a)).length:Int) == 0))=decide (val a=0):=by
  rw[Ybz];simp[zbq]
 simp[zbe a hl,this]
def Zep(a b:List UInt32)(y:Nat×Nat×List UInt32):St:=
 ⟨[(0,.sl (Za a) .an),(1,.sl (Za b) .an),(5,.bs (.fld (.loc 17) 10) 1 1 0 (a.length+1)),(6,u32 y.2.1),(19,.i .i64 a.length),(20,.i .i64 y.1)],
  [(.fld (.loc 17) 10,⟨1,.own,1,Za y.2.2⟩)],3⟩
def zk2(a b:List UInt32)(hb:b.length<=a.length)(hl:a.length<=1000000):∀y:Nat×Nat×List UInt32,
  (y.1<=a.length/\y.2.1<=1/\y.2.2.length=a.length+1/\val (y.2.2.take y.1)+4294967296^y.1*y.2.1=val (a.take y.1)+val (b.take y.1)) ->
  ∃r,(∃(c:Nat) (out:List UInt32),r=(Ex.n,(⟨[(0,.sl (Za a) .an),(5,.bs (.fld (.loc 17) 10) 1 1 0 (a.length+1)),(6,u32 c)],[(.fld (.loc 17) 10,⟨1,.own,1,Za out⟩)],3⟩:St)) /\
   out.length=a.length+1/\c<=1/\val (out.take a.length)+4294967296^a.length*c=val a+val b)/\Zr T 0 0 (.norm false [0,5,6]) l85_0 (Zep a b y)=some r:=by
 refine zbc _ _ (fun y=>a.length-y.1) _ ?_
 rintro⟨i,c,out⟩ ⟨hi,hc,ho,hv⟩
 simp only at hi hc ho hv;by_cases h0:i<a.length
 ·left;have ha:a[i]? = some (a[i]'h0):=Ya h0;have hoi:i<out.length:=by omega
  have hog:out[i]? = some (out[i]'hoi):=Ya hoi;have hw:IntKind.wrap .i64 ((i:Int)+1)=((i+1:Nat):Int):=zac _ (by omega);have hc2:c<4294967296:=by omega
  have hil:(i:Int)<(a.length:Int)+1:=by omega
  have h1:=zad ha;by_cases h2:i<b.length
  ·have hbg:b[i]? = some (b[i]'h2):=Ya h2;have h3:=zad hbg;refine⟨(i+1,((a[i]'h0).toNat+(b[i]'h2).toNat+c)/4294967296,out.set i (w32 ((a[i]'h0).toNat+(b[i]'h2).toNat+c))),⟨by simp only;omega,?_,by simp[ho],?_⟩,by simp only;omega,?_⟩
   ·have:=zal (a[i]'h0);have:=zal (b[i]'h2);simp only;omega
   ·simp only;rw[zch _ hoi,h1,h3,zdm,Yaa];generalize 4294967296^i=p at *
    generalize (a[i]'h0).toNat=x at *
    generalize (b[i]'h2).toNat=z at *
    have e:=Ybk (x+z+c) 4294967296;have e2:p*((x+z+c)%4294967296)+p*4294967296*((x+z+c)/4294967296)=p*(x+z+c):=by
     conv=>rhs;rw[<-e]
     rw[Yae,Yap];omega
    rw[Yae,Yae]at e2;omega
   ·simp[l85_0,Zep,h0,h2,hog,hw,hil,zdz,hc2]
  ·have h3:val (b.take (i+1))=val (b.take i):=by rw[za9 (by omega),za9 (by omega)]
   refine⟨(i+1,((a[i]'h0).toNat+0+c)/4294967296,out.set i (w32 ((a[i]'h0).toNat+0+c))),⟨by simp only;omega,?_,by simp[ho],?_⟩,by simp only;omega,?_⟩
   ·have:=zal (a[i]'h0);simp only;omega
   ·simp only;rw[zch _ hoi,h1,h3,zdm,Yaa];generalize 4294967296^i=p at *
    generalize (a[i]'h0).toNat=x at *
    have e:=Ybk (x+0+c) 4294967296;have e2:p*((x+0+c)%4294967296)+p*4294967296*((x+0+c)/4294967296)=p*(x+0+c):=by
     conv=>rhs;rw[<-e]
     rw[Yae,Yap];omega
    rw[Yae,Yae]at e2;omega
   ·simp[l85_0,Zep,h0,h2,hog,hw,hil,zdz,hc2]
 ·right;have:i=a.length:=by omega
  subst this;rw[Yb (Yg _),Yb hb]at hv;refine⟨_,⟨c,out,rfl,ho,hc,hv⟩,?_,?_⟩<;>simp[l85_0,Zep]
def zsv(a b:List UInt32)(hb:b.length<=a.length)(hl:a.length<=1000000):Zb T 85 [.sl (Za a) .an,.sl (Za b) .an]=some (.sl (Za (ofN (val a+val b))) .an):=by
 have hf:=zcl (T:=T) a 1 (by omega);simp only[Ydu]at hf;obtain⟨_,⟨c,out,rfl,ho,hc,hv⟩,hr⟩:=zk2 (T:=T) a b hb hl (0,0,a++List.replicate 1 0) ⟨Y5 _,Y5 _,by simp,by simp⟩;unfold Zep at hr;simp at hr;have hog:out[a.length]? = some (out[a.length]'(by omega)):=Ya _;have h1:¬ (a.length:Int)<b.length:=by omega
 have h2:¬ a.length<b.length:=by omega
 have h3:(a.length:Int)<(a.length:Int)+1:=by omega
 have hval:val (out.set a.length (w32 c))=val a+val b:=by
  rw[<-Yb (l:=out.set a.length (w32 c)) (i:=a.length+1) (by simp;omega),zch _ (by omega),zae (by omega)];exact hv
 have ht:=zbe (T:=T) (out.set a.length (w32 c)) (by simp;omega);rw[hval]at ht;have htk:List.take (a.length+1) (out.set a.length (w32 c))=out.set a.length (w32 c):=Yb (by simp;omega);rw[zaa Zl.h85 rfl,b85];simp[h1,hf,hr,h3,zbd _ _ _ (show c<4294967296 by omega),htk,ht,ho]
def zpd(a b:List UInt32)(hb:a.length<b.length)(hl:b.length<=1000000):Zb T 85 [.sl (Za a) .an,.sl (Za b) .an]=some (.sl (Za (ofN (val a+val b))) .an):=by
 have hf:=zcl (T:=T) b 1 (by omega);simp only[Ydu]at hf;obtain⟨_,⟨c,out,rfl,ho,hc,hv⟩,hr⟩:=zk2 (T:=T) b a (by omega) hl (0,0,b++List.replicate 1 0) ⟨Y5 _,Y5 _,by simp,by simp⟩;unfold Zep at hr;simp at hr;have hog:out[b.length]? = some (out[b.length]'(by omega)):=Ya _;have h1:(a.length:Int)<b.length:=by omega
 have h3:(b.length:Int)<(b.length:Int)+1:=by omega
 have hval:val (out.set b.length (w32 c))=val a+val b:=by
  rw[<-Yb (l:=out.set b.length (w32 c)) (i:=b.length+1) (by simp;omega),zch _ (by omega),zae (by omega),hv,Ya5]
 have ht:=zbe (T:=T) (out.set b.length (w32 c)) (by simp;omega);rw[hval]at ht;have htk:List.take (b.length+1) (out.set b.length (w32 c))=out.set b.length (w32 c):=Yb (by simp;omega);rw[zaa Zl.h85 rfl,b85];simp[h1,hf,hr,h3,zbd _ _ _ (show c<4294967296 by omega),htk,ht,ho]
def zuw(a b:List UInt32)(ha:a.length<=1000000)(hb:b.length<=1000000):Zb T 85 [.sl (Za a) .an,.sl (Za b) .an]=some (.sl (Za (ofN (val a+val b))) .an):=by
 rcases Yo a.length b.length with h | h
 ·exact zpd a b h hb
 ·exact zsv a b h ha
def Zdn(l:List (List UInt32)):Nat:=(l.map val).sum
def zux(K:Nat):∀m:List (List UInt32),m.length<=1000->(∀a∈m,a.length<=K)->(ofN (Zdn m)).length<=K+1:=by
 intro m hm hw;apply zam;rw[Yaa];have hp0:0<4294967296^K:=Ybh (by decide);have hall:∀a∈m,val a<4294967296^K:=fun a ha=>Yn (za0 a) (Y2 (by decide) (hw a ha));generalize 4294967296^K=p at *
 have h1:Zdn m<=m.length*p:=by
  clear hm hw
  induction m with
  | nil=>simp[Zdn]
  | cons a m ih=>
   have h2:=ih fun a ha=>hall a (Yh _ ha);have h3:=hall a Yp;simp only[Zdn,Yy,List.sum_cons,Yl,Ybc,Ycz]at h2 ⊢;omega
 have h6:=Yz p hm;omega
def zuy(l:List (List UInt32))(hl:l.length<=1000)(hw:∀a∈l,a.length<=90000):∀i:Nat,i<=l.length ->
  Zr T 0 0 (.norm false [3]) l56_0 ⟨[(3,.sl (Za (ofN (Zdn (l.take i)))) .an),(6,.sl (lls l) .an),(7,.i .i64 l.length),(8,.i .i64 i)],[],2⟩=some (.n,⟨[(3,.sl (Za (ofN (Zdn l))) .an)],[],2⟩):=by
 refine zcc (fun i:Nat=>⟨[(3,.sl (Za (ofN (Zdn (l.take i)))) .an),(6,.sl (lls l) .an),(7,.i .i64 l.length),(8,.i .i64 i)],[],2⟩) _ (fun i=>l.length-i) _ ?_;intro i hi;by_cases h0:i<l.length
 ·left;have hg:l[i]? = some (l[i]'h0):=Ya h0;have hwr:IntKind.wrap .i64 ((i:Int)+1)=((i+1:Nat):Int):=zac _ (by omega);have hw1:=hw _ (Y4 h0);have ht:=zbe (T:=T) (l[i]'h0) (by omega);have hs:=zux 90000 (l.take i) (by simp;omega) fun a ha=>hw a (Yat ha);have hp:=zuw (T:=T) (ofN (Zdn (l.take i))) (ofN (val (l[i]'h0))) (by omega) (by have:=zab (l[i]'h0);omega);rw[zah,zah]at hp;have e:Zdn (l.take i)+val (l[i]'h0)=Zdn (l.take (i+1)):=by
   unfold Zdn;rw[Yde,hg];simp only[Option.toList_some,Yct,Yy,Ybp,List.sum_append,List.sum_cons,List.sum_nil,Y0]
  rw[e]at hp;have hz:Zg0 1 (lls l)=true:=by cases l<;>simp[lls,Zg0]
  refine⟨i+1,h0,by show l.length-(i+1)<l.length-i;omega,?_,rfl⟩;simp[l56_0,h0,ht,hp,hwr]
 ·right;have:i=l.length:=by omega
  subst this;rw[Yb (Yg _)];constructor<;>simp[l56_0]
def zuz(l:List (List UInt32))(hl:l.length<=1000)(hw:∀a∈l,a.length<=90000):Zb T 56 [.sl (lls l) .an]=some (.sl (Za (ofN (Zdn l))) .an):=by
 have h:=zuy (T:=T) l hl hw 0 (Y5 _);simp[Zdn]at h;rw[zaa Zl.h56 rfl,b56];simp[h,Zdn]
end
section
variable{T:Tbl}
def zu0(a b:List UInt32)(hab:a.length=b.length)(hl:a.length<=1000000):∀m:Nat,m<=a.length ->
  Zr T 0 1 (.norm false []) l87_0 ⟨[(0,.sl (Za a) .an),(1,.sl (Za b) .an),(5,.i .i64 ((m:Int)-1))],[],2⟩ =
   if val (a.take m)<val (b.take m) then some (.r,⟨[(4,.i .i64 (-1))],[],2⟩) else if val (b.take m)<val (a.take m) then some (.r,⟨[(4,.i .i64 1)],[],2⟩) else some (.n,⟨[],[],2⟩):=by
 refine zcc (fun m:Nat=>⟨[(0,.sl (Za a) .an),(1,.sl (Za b) .an),(5,.i .i64 ((m:Int)-1))],[],2⟩) _ (fun m=>m) _ ?_;intro m hm;cases m with
 | zero=>
  right;constructor<;>simp[l87_0]
 | succ i=>
  have ha:a[i]? = some (a[i]'(by omega)):=Ya _;have hb:b[i]? = some (b[i]'(by omega)):=Ya _;have hia:i<a.length:=by omega
  have hib:i<b.length:=by omega
  have hw:IntKind.wrap .i64 ((i:Int)-1)=(i:Int)-1:=zac _ (by omega);rcases Yaz (a[i]'hia).toNat (b[i]'hib).toNat with h1 | h1 | h1
  ·right;have h2:=zta ha hb h1;constructor<;>simp[l87_0,hia,hib,h1,h2]
  ·left;refine⟨i,by omega,Yt i,?_,?_⟩
   ·simp[l87_0,hia,hib,h1,hw]
   ·have e1:=zad ha;have e2:=zad hb;rw[e1,e2,h1];have e3:(val (a.take i)+4294967296^i*(b[i]'hib).toNat<val (b.take i)+4294967296^i*(b[i]'hib).toNat)=(val (a.take i)<val (b.take i)):=by
     apply propext;omega
    have e4:(val (b.take i)+4294967296^i*(b[i]'hib).toNat<val (a.take i)+4294967296^i*(b[i]'hib).toNat)=(val (b.take i)<val (a.take i)):=by
     apply propext;omega
    simp only[e3,e4]
  ·right;have h2:=zta hb ha h1;have h3:¬ val (a.take (i+1))<val (b.take (i+1)):=by omega
   have h4:¬ (a[i]'hia).toNat<(b[i]'hib).toNat:=by omega
   constructor<;>simp[l87_0,hia,hib,h1,h2,h3,h4]
end
section
variable{T:Tbl}[Zl T]
def zjb(a b:List UInt32)(ha:a.length<=1000000)(hb:b.length<=1000000):Zb T 87 [.sl (Za a) .an,.sl (Za b) .an]=some (.i .i64 (Zfs (val a) (val b))):=by
 have hta:=zbe (T:=T) a (by omega);have htb:=zbe (T:=T) b (by omega);have hla:=zab a;have hlb:=zab b;rw[zaa Zl.h87 rfl,b87];rcases Yaz (ofN (val a)).length (ofN (val b)).length with h | h | h
 ·have h1:=zfm h;simp[hta,htb,h,Zfs,h1]
 ·have hc:=zu0 (T:=T) (ofN (val a)) (ofN (val b)) h (by omega) (ofN (val a)).length (Yg _);rw[Yb (Yg _),Yb (by omega),zah,zah]at hc;have hw:IntKind.wrap .i64 (((ofN (val a)).length:Int)-1)=((ofN (val a)).length:Int)-1:=zac _ (by omega);have h1:¬ (ofN (val a)).length<(ofN (val b)).length:=by omega
  have h2:¬ (ofN (val b)).length<(ofN (val a)).length:=by omega
  simp[hta,htb,h1,h2,hw,hc,Zfs]
  repeat' split
  all_goals simp
 ·have h1:=zfm h;have h2:¬ val a<val b:=by omega
  have h3:¬ (ofN (val a)).length<(ofN (val b)).length:=by omega
  simp[hta,htb,h,Zfs,h1,h2,h3]
def Zgt(a b:List UInt32)(y:Nat×Nat×List UInt32):St:=
 ⟨[(0,.sl (Za a) .an),(1,.sl (Za b) .an),(6,.bs (.fld (.loc 19) 10) 1 1 0 a.length),(7,u32 y.2.1),(21,.i .i64 a.length),(22,.i .i64 y.1)],
  [(.fld (.loc 19) 10,⟨1,.own,1,Za y.2.2⟩)],3⟩
def zu1(a b:List UInt32)(hb:b.length<=a.length)(hl:a.length<=1000000):∀y:Nat×Nat×List UInt32,
  (y.1<=a.length/\y.2.1<=1/\y.2.2.length=a.length/\val (y.2.2.take y.1)+val (b.take y.1)=val (a.take y.1)+4294967296^y.1*y.2.1) ->
  ∃r,(∃(c:Nat) (out:List UInt32),r=(Ex.n,(⟨[(6,.bs (.fld (.loc 19) 10) 1 1 0 a.length)],[(.fld (.loc 19) 10,⟨1,.own,1,Za out⟩)],3⟩:St)) /\
   out.length=a.length/\c<=1/\val out+val b=val a+4294967296^a.length*c)/\Zr T 0 0 (.norm false [6]) l88_0 (Zgt a b y)=some r:=by
 refine zbc _ _ (fun y=>a.length-y.1) _ ?_
 rintro⟨i,c,out⟩ ⟨hi,hc,ho,hv⟩
 simp only at hi hc ho hv;by_cases h0:i<a.length
 ·left;have ha:a[i]? = some (a[i]'h0):=Ya h0;have hoi:i<out.length:=by omega
  have hog:out[i]? = some (out[i]'hoi):=Ya hoi;have hw:IntKind.wrap .i64 ((i:Int)+1)=((i+1:Nat):Int):=zac _ (by omega);have hc2:c<4294967296:=by omega
  have hx:=zal (a[i]'h0);have h1:=zad ha;have fin:∀z:Nat,z<4294967296->val (b.take (i+1))=val (b.take i)+4294967296^i*z ->
    val ((out.set i (w32 ((a[i]'h0).toNat+8589934592-(z+c)))).take (i+1))+val (b.take (i+1))=val (a.take (i+1))+4294967296^(i+1)*(2-((a[i]'h0).toNat+8589934592-(z+c))/4294967296):=by
   intro z hz h3;have hs:=(zji hx hz hc).1;rw[zch _ hoi,h1,h3,zdm,Yaa];generalize 4294967296^i=p at *
   generalize (a[i]'h0).toNat=x at *
   generalize (x+8589934592-(z+c))%4294967296=s at *
   generalize 2-(x+8589934592-(z+c))/4294967296=d at *
   have e2:p*s+p*(z+c)=p*x+p*4294967296*d:=by rw[<-Yae,hs,Yae,Yap]
   rw[Yae]at e2;omega
  by_cases h2:i<b.length
  ·have hbg:b[i]? = some (b[i]'h2):=Ya h2;have h3:=zad hbg;refine⟨(i+1,2-((a[i]'h0).toNat+8589934592-((b[i]'h2).toNat+c))/4294967296,out.set i (w32 ((a[i]'h0).toNat+8589934592-((b[i]'h2).toNat+c)))),⟨h0,(zji hx (zal _) hc).2,by simp[ho],fin _ (zal _) h3⟩,by simp only;omega,?_⟩;simp[l88_0,Zgt,h0,h2,hog,hw,ze2,hc2]
  ·have h3:val (b.take (i+1))=val (b.take i)+4294967296^i*0:=by rw[za9 (by omega),za9 (by omega)];simp
   refine⟨(i+1,2-((a[i]'h0).toNat+8589934592-(0+c))/4294967296,out.set i (w32 ((a[i]'h0).toNat+8589934592-(0+c)))),⟨h0,(zji hx (by decide) hc).2,by simp[ho],fin 0 (by decide) h3⟩,by simp only;omega,?_⟩;simp[l88_0,Zgt,h0,h2,hog,hw,ze2,hc2]
 ·right;have:i=a.length:=by omega
  subst this;rw[Yb (Yg _),Yb hb,Yb (by omega)]at hv;refine⟨_,⟨c,out,rfl,ho,hc,hv⟩,?_,?_⟩<;>simp[l88_0,Zgt]
def zdj{x y:Nat}:Zfs x y<0↔x<y:=by
 unfold Zfs;split
 ·simp[*]
 ·split<;>simp[*]
def zsw(a b:List UInt32)(ha:a.length<=1000000)(hb:b.length<=1000000):Zb T 88 [.sl (Za a) .an,.sl (Za b) .an] =
  some (if val a<val b then .tup [.sl [] .an,.b false] else .tup [.sl (Za (ofN (val a-val b))) .an,.b true]):=by
 have hta:=zbe (T:=T) a (by omega);have htb:=zbe (T:=T) b (by omega);have hla:=zab a;have hlb:=zab b;have hc:=zjb (T:=T) (ofN (val a)) (ofN (val b)) (by omega) (by omega);rw[zah,zah]at hc;rw[zaa Zl.h88 rfl,b88];by_cases h:val a<val b
 ·simp[hta,htb,hc,zdj,h]
 ·have hle:=za3 (show val b<=val a by omega);have hf:=zcl (T:=T) (ofN (val a)) 0 (by omega);simp only[Yar,Y0,Yc0,Ya3]at hf;obtain⟨_,⟨c,out,rfl,ho,hc1,hv⟩,hr⟩:=zu1 (T:=T) (ofN (val a)) (ofN (val b)) hle (by omega) (0,0,ofN (val a)) ⟨Y5 _,Y5 _,rfl,by simp⟩;unfold Zgt at hr;simp at hr;rw[zah,zah]at hv;have hlt:=za0 out;rw[ho]at hlt;have hc0:c=0:=by
   rcases Ya9 c with h1 | h1
   ·exact h1
   ·have:c=1:=by omega
    subst this;omega
  subst hc0;have hval:val out=val a-val b:=by omega
  have ht:=zbe (T:=T) out (by omega);rw[hval]at ht;have htk:List.take (ofN (val a)).length out=out:=Yb (by omega);simp[hta,htb,hc,zdj,h,hf,hr,ho,htk,ht]
def zx2(a b:List UInt32)(ha:a.length<=1000000)(hb:b.length<=1000000):Zb T 57 [.sl (Za a) .an,.sl (Za b) .an] =
  some (.tup [.sl (Za (ofN (if val a<val b then val b-val a else val a-val b))) .an,.i .i64 (Zfs (val a) (val b))]):=by
 have hc:=zjb (T:=T) a b ha hb;rw[zaa Zl.h57 rfl,b57];by_cases h:val a<val b
 ·have h2:¬ val b<val a:=by omega
  have hs:=zsw (T:=T) b a hb ha;rw[if_neg h2]at hs;simp[hc,zdj,h,hs]
 ·have hs:=zsw (T:=T) a b ha hb;rw[if_neg h]at hs;simp[hc,zdj,h,hs]
def zu2{x y:Nat}(hx:x<4294967296):x ||| (y*4294967296)=x+y*4294967296:=by
 have:=Yb2 (i:=32) hx y;rw[Nat.or_comm,Y9 y,show (4294967296:Nat)=2^32 from rfl,<-this];omega
end
section
variable{T:Tbl}
def zpe(l:List UInt32)(hl:l.length<=2):∀i:Nat,i<=l.length ->
  Zr T 0 0 (.norm false [4]) l73_0 ⟨[(4,u64 (val (l.take i))),(12,.sl (Za l) .an),(13,.i .i64 l.length),(14,.i .i64 i)],[],2⟩=some (.n,⟨[(4,u64 (val l))],[],2⟩):=by
 refine zcc (fun i:Nat=>⟨[(4,u64 (val (l.take i))),(12,.sl (Za l) .an),(13,.i .i64 l.length),(14,.i .i64 i)],[],2⟩) _ (fun i=>l.length-i) _ ?_;intro i hi;by_cases h0:i<l.length
 ·left;have hg:l[i]? = some (l[i]'h0):=Ya h0;have hx:=zal (l[i]'h0);have h1:=zad hg;refine⟨i+1,h0,by show l.length-(i+1)<l.length-i;omega,?_,rfl⟩;rcases(show i=0\/i=1 by omega) with rfl | rfl
  ·simp[l73_0,h0,h1]
  ·have h2:val (l.take 1)<4294967296:=by
    have:=za0 (l.take 1);have h3:(l.take 1).length=1:=by simp;omega
    rw[h3]at this;simpa using this
   have e1:(l[1]'h0).toNat*4294967296%18446744073709551616=(l[1]'h0).toNat*4294967296:=Yu (by omega);have e2:=zu2 (y:=(l[1]'h0).toNat) h2;have e3:(val (l.take 1)+(l[1]'h0).toNat*4294967296)%18446744073709551616=val (l.take 1)+(l[1]'h0).toNat*4294967296:=Yu (by omega);have e4:val (l.take 1)+(l[1]'h0).toNat*4294967296=val (l.take (1+1)):=by rw[h1];omega
   simp at e4;have h0':(1:Int)<(l.length:Int):=by omega
   have e5:val (List.take 2 l)<18446744073709551616:=by omega
   simp[l73_0,h0,h0',e1,e2,e4,e5]
 ·right;have:i=l.length:=by omega
  subst this;rw[Yb (Yg _)];constructor<;>simp[l73_0]
end
section
variable{T:Tbl}[Zl T]
def zk3(a:List UInt32)(ha:a.length<=1000000):Zb T 73 [.sl (Za a) .an] =
  some (if val a<18446744073709551616 then .tup [u64 (val a),.b true] else .tup [u64 0,.b false]):=by
 have hta:=zbe (T:=T) a (by omega);have hla:=zab a;have hv:=zah (val a);rw[zaa Zl.h73 rfl,b73];generalize hl:ofN (val a)=l at *
 by_cases h:2<l.length
 ·have h2:¬ val a<18446744073709551616:=by
   intro h3;have:=zam (show val a<4294967296^2 from h3);rw[hl]at this;omega
  have h3:(2:Int)<(l.length:Int):=by omega
  simp[hta,h3,h2]
 ·have h2:val a<18446744073709551616:=by
   have:=za0 l;rw[hv]at this;have h3:4294967296^l.length<=4294967296^2:=Y2 (by decide) (by omega);omega
  have h3:¬ (2:Int)<(l.length:Int):=by omega
  have hs:=zpe (T:=T) l (by omega) 0 (Y5 _);simp at hs;simp[hta,h3,h2,hs,hv]
end
section
def l89_0:AX:=QZ "kmrCTq4RmME41zpNUARB8.F1Br8KhfZTQrAYJAs3czCX46ipC5rlXsLQpTAgL5N50B21jzPVIT4ugOXDUAvUzTveacEvBbSbb"
def b89:AX:=(fun p0=>QY [p0] [] "0hzxTx.7.HugoOgFyriRTNp0kDDYb.nUjeYEubO.q") l89_0
def l60_0:AX:=QZ "0N0GlUPtr8iHXRR.xCU1DKMFftWmzlIuN9Qbio0bqO_uVy9esu3M2d"
def b60:AX:=(fun p0=>QY [p0] [] "Zda5y2HiZUvN8btQcy38LCpVMDJbV2kjgGvifpHLgY8kW1rP0ok7AZW") l60_0
abbrev row89:AFx:=⟨5,45,[],b89,(some [true,false,false,false,false]),false⟩
abbrev row60:AFx:=⟨2,30,[.t 4],b60,none,false⟩
class Zs (T:Tbl):Prop extends Zl T where
 h89:Tr T 89=some row89
 h60:Tr T 60=some row60
attribute [simp] Zs.h89 Zs.h60
end
section
def l92_0:AX:=QZ "1XSv93jPOsJYAAfhiIWzBCt_I.2_Rl3vOioofs3mn4oCEqMTpZWLErgjsXQI0jwtepO37ytcSuortuBQgMpHxv9LXn5vHJFv2U8f1gze9Ya"
def b92:AX:=(fun p0=>QY [p0] [(AV.i .i64 4096)] "A8skwK4xhD6e_7qyDMZVX7BgupKo8Pwj1fAP.A2k3KgGokplxuF_v6fNtSpE3m26Sz1uKHfmBgpajmc_w7RNMF7OewrEj.oH") l92_0
def l94_0:AX:=QZ "zQkAem0MghZyH1YDO36yA4Gr0KWuuiNQCxHg.Wq2ex8mWQxejouSnV.50vs5ZstAf5VF5BtKX9RQMbHCuwfpJV1R_p650ggLAjTFDgCb1G4eJ1lLwK92aSwLj5jd"
def b94:AX:=(fun p0=>QY [p0] [] "1Xs7NKqaBKa7tkiJLjgcVwdvbWepwt7JU0uIBahXmDMSud82WcwxBI2hsGwxe5TiJX_jQ45Eolmn3yj.3TKzPpTmgkA2SOXcmriWjiW40l5.2") l94_0
abbrev row92:AFx:=⟨2,57,[.t 4],b92,none,false⟩
abbrev row94:AFx:=⟨2,65,[.t 4],b94,none,false⟩
class Zt (T:Tbl):Prop where
 h92:Tr T 92=some row92
 h94:Tr T 94=some row94
attribute [simp] Zt.h92 Zt.h94
end
def zfh{P m S:List UInt32}{i:Nat}(hm:m.length=i)(hi:i<S.length):(P++(m++S.drop i))[P.length+i]? = some (S[i]'hi):=by
 rw[Ye (by omega),Ybb,Ye (by omega),hm,Yby,Yag,Y0,Ya hi]
def zfi{P m S:List UInt32}{i:Nat}(w:UInt32)(hm:m.length=i)(hi:i<S.length):(P++(m++S.drop i)).set (P.length+i) w=P++((m++[w])++S.drop (i+1)):=by
 rw[Yai (P.length+i) w (by omega),Ybb,Yai i w (by omega),hm,Yby,Yab hi,Ybv];simp
section
variable{T:Tbl}[Zs T]
def Zhj(P S a:List UInt32)(x:Nat)(y:Nat×Nat×List UInt32):St:=
 ⟨[(0,.bs (.bor 0) 0 1 0 (P.length+S.length)),(1,.i .i64 P.length),(2,.sl (Za a) .an),(3,u32 x),(4,u32 y.2.1),(12,.sl (Za a) .an),(13,.i .i64 a.length),(14,.i .i64 y.1)],
  [(.bor 0,⟨0,.own,1,Za (P++(y.2.2++S.drop y.1))⟩)],4⟩
def zu3{p m w c c' s x y t v k:Nat}(h:m+p*c=s+x*t+k)(e:w+4294967296*c'=x*y+v+c):(m+p*w)+p*4294967296*c'=(s+p*v)+x*(t+p*y)+k:=by
 have e2:p*w+p*4294967296*c'=p*(x*y)+p*v+p*c:=by rw[Yap,<-Yae,e,Yae,Yae]
 have e3:x*(t+p*y)=x*t+p*(x*y):=by rw[Yae,<-Yap,Y9 x p,Yap]
 omega
def zu4(P S a:List UInt32)(x c0:Nat)(hx:x<4294967296)(hS:a.length<S.length)(hl:P.length+S.length<=1000000):∀y:Nat×Nat×List UInt32,
  (y.1<=a.length/\y.2.1<4294967296/\y.2.2.length=y.1/\val y.2.2+4294967296^y.1*y.2.1=val (S.take y.1)+x*val (a.take y.1)+c0) ->
  ∃r,(∃(c:Nat) (m:List UInt32),r=(Ex.n,(⟨[(0,.bs (.bor 0) 0 1 0 (P.length+S.length)),(1,.i .i64 P.length),(2,.sl (Za a) .an),(4,u32 c)],[(.bor 0,⟨0,.own,1,Za (P++(m++S.drop a.length))⟩)],4⟩:St)) /\
   m.length=a.length/\c<4294967296/\val m+4294967296^a.length*c=val (S.take a.length)+x*val a+c0)/\Zr T 1 0 (.norm false [0,1,2,4]) l89_0 (Zhj P S a x y)=some r:=by
 refine zbc _ _ (fun y=>a.length-y.1) _ ?_
 rintro⟨i,c,m⟩ ⟨hi,hc,hm,hv⟩
 simp only at hi hc hm hv;by_cases h0:i<a.length
 ·left;have ha:a[i]? = some (a[i]'h0):=Ya h0;have hiS:i<S.length:=by omega
  have hs:S[i]? = some (S[i]'hiS):=Ya hiS;have hg:=zfh (P:=P) hm hiS;have hw:IntKind.wrap .i64 ((i:Int)+1)=((i+1:Nat):Int):=zac _ (by omega);have hw2:IntKind.wrap .i64 ((P.length:Int)+i)=((P.length+i:Nat):Int):=zac _ (by omega);have hlt:P.length+i<P.length+S.length:=by omega
  have hlt2:((P.length+i:Nat):Int)<(P.length:Int)+S.length:=by omega
  have hla:=zal (a[i]'h0);have hls:=zal (S[i]'hiS);have hmul:=zih hx hla;have hlen:(P++(m++S.drop i)).length=P.length+S.length:=by simp;omega
  have hcall:=zha (T:=T) x (a[i]'h0).toNat (S[i]'hiS).toNat c hx hla hls hc;have hset:=zfi (P:=P) (w32 (x*(a[i]'h0).toNat+(S[i]'hiS).toNat+c)) hm hiS;refine⟨(i+1,(x*(a[i]'h0).toNat+(S[i]'hiS).toNat+c)/4294967296,m++[w32 (x*(a[i]'h0).toNat+(S[i]'hiS).toNat+c)]),⟨h0,by simp only;omega,by simp[hm],?_⟩,by simp only;omega,?_⟩
  ·simp only;rw[zaj,zad ha,zad hs,Yaa,hm];simp only[zao,zb6,Ya1,Y0,zdm];exact zu3 hv (by have:=Ybk (x*(a[i]'h0).toNat+(S[i]'hiS).toNat+c) 4294967296;omega)
  ·simp[l89_0,Zhj,h0,hw,hw2,hiS,hg,hcall,hset]
 ·right;have:i=a.length:=by omega
  subst this;rw[Yb (Yg a.length)]at hv;refine⟨_,⟨c,m,rfl,hm,hc,hv⟩,?_,?_⟩<;>simp[l89_0,Zhj]
def zu5(P S a:List UInt32)(x c0:Nat)(hx:x<4294967296)(hc:c0<4294967296)(hS:a.length<S.length)(hl:P.length+S.length<=1000000) :
  ∃m,m.length=a.length+1/\val m=val (S.take a.length)+x*val a+c0 /\
   Zcg T 89 [.bs (.bor 0) 0 1 0 (P.length+S.length),.i .i64 P.length,.sl (Za a) .an,u32 x,u32 c0] [(.bor 0,⟨0,.own,1,Za (P++S)⟩)] =
    some (.tup [],[(.bor 0,⟨0,.own,1,Za (P++(m++S.drop (a.length+1)))⟩)]):=by
 obtain⟨_,⟨c,m,rfl,hm,hc1,hv⟩,hr⟩:=zu4 (T:=T) P S a x c0 hx hS hl (0,c0,[]) ⟨Y5 _,hc,rfl,by simp⟩;unfold Zhj at hr;simp at hr;refine⟨m++[w32 c],by simp[hm],by rw[zaj,hm];simpa[zae hc1]using hv,?_⟩;have hw2:IntKind.wrap .i64 ((P.length:Int)+a.length)=((P.length+a.length:Nat):Int):=zac _ (by omega);have hlt:P.length+a.length<P.length+S.length:=by omega
 have hlt2:((P.length+a.length:Nat):Int)<(P.length:Int)+S.length:=by omega
 have hg:=zfh (P:=P) hm hS;have hset:=zfi (P:=P) (w32 c) hm hS;rw[zc3 Zs.h89 rfl,b89];simp[hr,hw2,hg,hS,zbd _ _ _ hc1,hset]
def Zhk(a b:List UInt32)(y:Nat×List UInt32):St:=
 ⟨[(0,.sl (Za a) .an),(5,.bs (.loc 14) 1 1 0 (a.length+b.length+1)),(15,.sl (Za b) .an),(16,.i .i64 b.length),(17,.i .i64 y.1)],[(.loc 14,⟨1,.own,1,Za (y.2++List.replicate (b.length+1-y.1) 0)⟩)],3⟩
def zu6(a b:List UInt32)(ha:a.length<=100000)(hb:b.length<=100000):∀y:Nat×List UInt32,
  (y.1<=b.length/\y.2.length=a.length+y.1/\val y.2=val a*val (b.take y.1)) ->
  ∃r,(∃out:List UInt32,r=(Ex.n,(⟨[(5,.bs (.loc 14) 1 1 0 (a.length+b.length+1))],[(.loc 14,⟨1,.own,1,Za out⟩)],3⟩:St))/\out.length=a.length+b.length+1/\val out=val a*val b) /\
   Zr T 0 0 (.norm false [5]) l60_0 (Zhk a b y)=some r:=by
 refine zbc _ _ (fun y=>b.length-y.1) _ ?_
 rintro⟨i,X⟩ ⟨hi,hX,hv⟩
 simp only at hi hX hv;by_cases h0:i<b.length
 ·left;have hbg:b[i]? = some (b[i]'h0):=Ya h0;have hw:IntKind.wrap .i64 ((i:Int)+1)=((i+1:Nat):Int):=zac _ (by omega);obtain⟨m,hm1,hm2,hc⟩:=zu5 (T:=T) (X.take i) (X.drop i++List.replicate (b.length+1-i) 0) a (b[i]'h0).toNat 0 (zal _) (by decide) (by simp;omega) (by simp;omega);have e1:X.take i++(X.drop i++List.replicate (b.length+1-i) 0)=X++List.replicate (b.length+1-i) 0:=by rw[<-Yax,Ya0]
  have e2:(X.take i).length=i:=by simp;omega
  have e3:(X.drop i++List.replicate (b.length+1-i) 0).length=a.length+b.length+1-i:=by simp;omega
  have e4:i+(a.length+b.length+1-i)=a.length+b.length+1:=by omega
  have e5:(X.drop i++List.replicate (b.length+1-i) 0).drop (a.length+1)=List.replicate (b.length+1-(i+1)) 0:=by
   rw[List.drop_append,Ya6 (by simp;omega),List.drop_replicate];simp only[Ybn,Ycj];congr 1;omega
  have e6:(X.drop i++List.replicate (b.length+1-i) 0).take a.length=X.drop i:=by
   rw[Ycm (by simp;omega),Yb (by simp;omega)]
  rw[e1,e2,e3,e4,e5]at hc;rw[e6]at hm2;simp only[<-Yax]at hc;refine⟨(i+1,X.take i++m),⟨h0,by simp only[Yah,e2,hm1];omega,?_⟩,by simp only;omega,?_⟩
  ·simp only;have e7:=zaj (X.take i) (X.drop i);rw[Ya0,e2]at e7;rw[zaj,e2,hm2,zad hbg,Yae (val a),<-hv,e7,Yae,Yae];have e8:4294967296^i*((b[i]'h0).toNat*val a)=val a*(4294967296^i*(b[i]'h0).toNat):=by
    rw[Y9 (b[i]'h0).toNat,<-Yap,Y9 (4294967296^i) (val a),Yap]
   rw[e8];omega
  ·simp[l60_0,Zhk,h0,hw,hc]
 ·right;have:i=b.length:=by omega
  subst this;rw[Yb (Yg _)]at hv;refine⟨_,⟨X++List.replicate (b.length+1-b.length) 0,rfl,by simp;omega,by rw[zaj,zdn,hv];simp⟩,?_,?_⟩<;>simp[l60_0,Zhk]
def ze4(a b:List UInt32)(ha:a.length<=100000)(hb:b.length<=100000):Zb T 60 [.sl (Za a) .an,.sl (Za b) .an]=some (.sl (Za (ofN (val a*val b))) .an):=by
 obtain⟨_,⟨out,rfl,ho,hv⟩,hr⟩:=zu6 (T:=T) a b ha hb (0,List.replicate a.length 0) ⟨Y5 _,by simp,by simp[zdn]⟩;unfold Zhk at hr;simp at hr;have hw1:IntKind.wrap .i64 ((a.length:Int)+b.length)=(a.length:Int)+b.length:=zac _ (by omega);have hw:IntKind.wrap .i64 ((a.length:Int)+b.length+1)=(a.length:Int)+b.length+1:=zac _ (by omega);have hle:(a.length:Int)+b.length+1<=4294967296:=by omega
 have hn:=zbj (T:=T) out (by omega);rw[hv]at hn;have htk:List.take (a.length+b.length+1) out=out:=Yb (by omega);have he:a.length+(b.length+1)=a.length+b.length+1:=by omega
 rw[he]at hr;rw[zaa Zs.h60 rfl,b60];simp[hw,hw1,hle,hr,ho,htk,hn]
end
def zyf(w:Nat):4294967296^w=2^(32*w):=by
 rw[Ydy]
def zlf(a:List UInt32)(w:Nat)(h:w<=a.length):val a=val (a.take w)+4294967296^w*val (a.drop w):=by
 have:=zaj (a.take w) (a.drop w);rw[Ya0,Yau,Ybo h]at this;exact this
def zyg(a:List UInt32)(w:Nat)(h:w<=a.length):val a/4294967296^w=val (a.drop w):=by
 have hp:0<4294967296^w:=Ybh (by decide);have hlt:=za0 (a.take w);rw[Yau,Ybo h]at hlt;rw[zlf a w h,Nat.add_mul_div_left _ _ hp,Ybt hlt,Yao]
def zv5{a b n:Nat}(h:a<2^n):a ||| 2^n*b=a+2^n*b:=by
 rw[Nat.or_comm,<-Yb2 h,Ya5]
def zyh{x c n:Nat}(hx:x<4294967296)(hn:n<32)(hc:c<2^n) :
  x*2^n<18446744073709551616/\(c ||| x*2^n%4294967296)=c+x*2^n%4294967296/\c+x*2^n%4294967296<4294967296/\x*2^n/4294967296<2^n/\2^n<4294967296:=by
 have hp:2^(n+(32-n))=4294967296:=by rw[show n+(32-n)=32 by omega]
 rw[Yb3]at hp;have hq:0<2^n:=Ybh (by decide);have hr:1<2^(32-n):=Nat.one_lt_two_pow (by omega);have e1:x*2^n%4294967296=2^n*(x%2^(32-n)):=by rw[<-hp,Y9 x,Nat.mul_mod_mul_left]
 have e2:=zv5 (b:=x%2^(32-n)) hc;rw[<-e1]at e2;have hlt:2^n<4294967296:=by
  have h1:=Yam (2^n) (show 2<=2^(32-n) from hr);rw[hp]at h1;omega
 refine⟨?_,e2,?_,?_,hlt⟩
 ·have:=Nat.mul_lt_mul'' hx hlt;simpa using this
 ·rw[e1];have h1:x%2^(32-n)+1<=2^(32-n):=Ya7 _ (by omega);have h2:=Yam (2^n) h1;rw[hp,Yae,Ycu]at h2;omega
 ·exact Ya4 (by rw[Y9 x];rw[Y9 4294967296];exact Nat.mul_lt_mul_of_pos_left hx hq)
def ztb{x y R b:Nat}(hb:b<32)(hx:x<4294967296) :
  (x+4294967296*(y+4294967296*R))/2^b=(x+y*4294967296)/2^b%4294967296+4294967296*((y+4294967296*R)/2^b):=by
 have hq:0<2^b:=Ybh (by decide);have h1:(x+4294967296*(y+4294967296*R))/4294967296=y+4294967296*R:=by omega
 have h2:(x+4294967296*(y+4294967296*R))/2^b/4294967296=(y+4294967296*R)/2^b:=by
  rw[Ybu,Y9 (2^b),<-Ybu,h1]
 have hp:2^b*2^(32-b)=4294967296:=by rw[<-Yb3,show b+(32-b)=32 by omega]
 have h3:x+4294967296*(y+4294967296*R)=(x+y*4294967296)+2^b*(4294967296*(2^(32-b)*R)):=by
  have:2^b*(4294967296*(2^(32-b)*R))=4294967296*(4294967296*R):=by
   rw[Nat.mul_left_comm,<-Yap (2^b),hp]
  omega
 have h4:(x+4294967296*(y+4294967296*R))/2^b%4294967296=(x+y*4294967296)/2^b%4294967296:=by
  rw[h3,Nat.add_mul_div_left _ _ hq,Nat.add_mul_mod_self_left]
 have h5:=Nat.mod_add_div ((x+4294967296*(y+4294967296*R))/2^b) 4294967296;rw[h2,h4]at h5;exact h5.symm
end Go.Ab