/-
  A calculus of values, boxes and code, and what functions of the program compute, proved in it.
  Conditions: none beyond those that the theorems state. (Part 3.)
-/
import Derived.Test.YtfgfjicelfagcaaGreatDoorPart2

set_option linter.unusedSectionVars false
set_option linter.unusedVariables false
set_option linter.unusedSimpArgs false
set_option linter.unnecessarySimpa false

namespace Go.Ab
section
open Go.RowKit
section
variable{α β:Type}{P:Program}{K:St→Prop}
@[simp] theorem z5d(t d:Nat)(x:AV)(e:Env):Env.get ((d,x)::e) t=if t=d then x else e.get t:=by
 simp only[Env.get,List.lookup_cons]
 by_cases h:t=d
 ·subst h;simp
 ·have:(t == d)=false:=by simpa using h
  simp[this,h]
@[simp] theorem z8p(t:Nat):Env.get [] t=.dead:=rfl
@[simp] theorem z5e{st:St}:runK P [] st K↔K st:=Iff.rfl
@[simp] theorem z12{o:AO}{l:List AO}{st:St}:runK P (o::l) st K↔stepK P o st fun st'=>runK P l st' K:=Iff.rfl
@[simp] theorem z0a{d:Option Nat}{op:AOp}{st:St}:stepK P ⟨d,none,op⟩ st K↔opK P op d st K:=Iff.rfl
@[simp] theorem z13(e:Env)(x:AV):putE e none x=e:=rfl
@[simp] theorem z14(e:Env)(d:Nat)(x:AV):putE e (some d) x=(d,x)::e:=rfl
@[simp] theorem ev_t(e:Nat→AV)(n:Nat):ev e (.t n)=e n:=rfl
@[simp] theorem ev_c(e:Nat→AV)(x:AV):ev e (.c x)=x:=rfl
@[simp] theorem zw3{N:St→Prop}{Q:Exit→St→Prop}{st:St}:thenK N Q .normal st↔N st:=Iff.rfl
@[simp] theorem z0b{N:St→Prop}{Q:Exit→St→Prop}{st:St}{id:Nat}:thenK N Q (.exit id) st↔Q (.exit id) st:=Iff.rfl
@[simp] theorem z15{N:St→Prop}{Q:Exit→St→Prop}{st:St}:thenK N Q .ret st↔Q .ret st:=Iff.rfl
@[simp] theorem zvi{id:Nat}{Q:Exit→St→Prop}{st:St}:blockK id Q .normal st↔Q .normal st:=Iff.rfl
@[simp] theorem z0c{id:Nat}{Q:Exit→St→Prop}{st:St}:blockK id Q .ret st↔Q .ret st:=Iff.rfl
@[simp] theorem zxy{id id':Nat}{Q:Exit→St→Prop}{st:St}:blockK id Q (.exit id') st↔if id'=id then Q .normal st else Q (.exit id') st:=Iff.rfl
def gK(P:Program)(x:AV)(want:Bool)(op:AOp)(d:Option Nat)(st:St)(K:St→Prop):Prop:=
 match x with
 | .b v=>if v=want then opK P op d st K else K ⟨putE st.env d (.tup []),st.heap,st.clk⟩
 | .tup _=>K ⟨putE st.env d (.tup []),st.heap,st.clk⟩
 | _=>False
@[simp] theorem z0d{d:Option Nat}{op:AOp}{t:Nat}{want:Bool}{st:St}:stepK P ⟨d,some (t,want),op⟩ st K↔gK P (st.env.get t) want op d st K:=by
 rfl
@[simp] theorem gK_b{v want:Bool}{op:AOp}{d:Option Nat}{st:St}:gK P (.b v) want op d st K↔if v=want then opK P op d st K else K ⟨putE st.env d (.tup []),st.heap,st.clk⟩:=Iff.rfl
@[simp] theorem zadp{vs:List AV}{want:Bool}{op:AOp}{d:Option Nat}{st:St}:gK P (.tup vs) want op d st K↔K ⟨putE st.env d (.tup []),st.heap,st.clk⟩:=Iff.rfl
@[simp] theorem z8q{z n:Nat}{zs:List AV}{ps:List (Nat×Opd)}{d:Option Nat}{st:St}:opK P (.bsl z zs n ps) d st K↔okK (bslAV z zs n st.heap (ps.map fun p=>(p.1,ev st.env.get p.2))) fun q=>K ⟨putE st.env d q.1,q.2,st.clk⟩:=Iff.rfl
@[simp] theorem z8r{x}{d:Option Nat}{st:St}:opK P (.mov x) d st K↔okK (stepQ (.mov x) st.env.get st.heap) fun x=>K ⟨putE st.env d x,st.heap,st.clk⟩:=Iff.rfl
@[simp] theorem z5f{c a b}{d:Option Nat}{st:St}:opK P (.pick c a b) d st K↔okK (stepQ (.pick c a b) st.env.get st.heap) fun x=>K ⟨putE st.env d x,st.heap,st.clk⟩:=Iff.rfl
@[simp] theorem z16{zs ps}{d:Option Nat}{st:St}:opK P (.build zs ps) d st K↔okK (stepQ (.build zs ps) st.env.get st.heap) fun x=>K ⟨putE st.env d x,st.heap,st.clk⟩:=Iff.rfl
@[simp] theorem z5g{n x}{d:Option Nat}{st:St}:opK P (.load n x) d st K↔okK (stepQ (.load n x) st.env.get st.heap) fun x=>K ⟨putE st.env d x,st.heap,st.clk⟩:=Iff.rfl
@[simp] theorem z8s{o x y}{d:Option Nat}{st:St}:opK P (.bin o x y) d st K↔okK (stepQ (.bin o x y) st.env.get st.heap) fun x=>K ⟨putE st.env d x,st.heap,st.clk⟩:=Iff.rfl
@[simp] theorem z8t{g ls x y}{d:Option Nat}{st:St}:opK P (.eqs g ls x y) d st K↔okK (stepQ (.eqs g ls x y) st.env.get st.heap) fun x=>K ⟨putE st.env d x,st.heap,st.clk⟩:=Iff.rfl
@[simp] theorem z17{g x}{d:Option Nat}{st:St}:opK P (.eqnil g x) d st K↔okK (stepQ (.eqnil g x) st.env.get st.heap) fun x=>K ⟨putE st.env d x,st.heap,st.clk⟩:=Iff.rfl
@[simp] theorem z8u{g x y}{d:Option Nat}{st:St}:opK P (.eqb g x y) d st K↔okK (stepQ (.eqb g x y) st.env.get st.heap) fun x=>K ⟨putE st.env d x,st.heap,st.clk⟩:=Iff.rfl
@[simp] theorem zadq{o x}{d:Option Nat}{st:St}:opK P (.un o x) d st K↔okK (stepQ (.un o x) st.env.get st.heap) fun x=>K ⟨putE st.env d x,st.heap,st.clk⟩:=Iff.rfl
@[simp] theorem z5h{k x}{d:Option Nat}{st:St}:opK P (.conv k x) d st K↔okK (stepQ (.conv k x) st.env.get st.heap) fun x=>K ⟨putE st.env d x,st.heap,st.clk⟩:=Iff.rfl
@[simp] theorem z8v{z x lo hi mx}{d:Option Nat}{st:St}:opK P (.slc z x lo hi mx) d st K↔okK (stepQ (.slc z x lo hi mx) st.env.get st.heap) fun x=>K ⟨putE st.env d x,st.heap,st.clk⟩:=Iff.rfl
@[simp] theorem z18{x lo hi}{d:Option Nat}{st:St}:opK P (.slstr x lo hi) d st K↔okK (stepQ (.slstr x lo hi) st.env.get st.heap) fun x=>K ⟨putE st.env d x,st.heap,st.clk⟩:=Iff.rfl
@[simp] theorem z8w{n x}{d:Option Nat}{st:St}:opK P (.fad n x) d st K↔okK (stepQ (.fad n x) st.env.get st.heap) fun x=>K ⟨putE st.env d x,st.heap,st.clk⟩:=Iff.rfl
@[simp] theorem z8x{o n x}{d:Option Nat}{st:St}:opK P (.fld o n x) d st K↔okK (stepQ (.fld o n x) st.env.get st.heap) fun x=>K ⟨putE st.env d x,st.heap,st.clk⟩:=Iff.rfl
@[simp] theorem z8y{z x i}{d:Option Nat}{st:St}:opK P (.iad z x i) d st K↔okK (stepQ (.iad z x i) st.env.get st.heap) fun x=>K ⟨putE st.env d x,st.heap,st.clk⟩:=Iff.rfl
@[simp] theorem z8z{z n x i}{d:Option Nat}{st:St}:opK P (.iaa z n x i) d st K↔okK (stepQ (.iaa z n x i) st.env.get st.heap) fun x=>K ⟨putE st.env d x,st.heap,st.clk⟩:=Iff.rfl
@[simp] theorem z80{x i}{d:Option Nat}{st:St}:opK P (.ixs x i) d st K↔okK (stepQ (.ixs x i) st.env.get st.heap) fun x=>K ⟨putE st.env d x,st.heap,st.clk⟩:=Iff.rfl
@[simp] theorem z81{z l n x i}{d:Option Nat}{st:St}:opK P (.ixa z l n x i) d st K↔okK (stepQ (.ixa z l n x i) st.env.get st.heap) fun x=>K ⟨putE st.env d x,st.heap,st.clk⟩:=Iff.rfl
@[simp] theorem z82{x}{d:Option Nat}{st:St}:opK P (.len x) d st K↔okK (stepQ (.len x) st.env.get st.heap) fun x=>K ⟨putE st.env d x,st.heap,st.clk⟩:=Iff.rfl
@[simp] theorem z5i{x}{d:Option Nat}{st:St}:opK P (.lens x) d st K↔okK (stepQ (.lens x) st.env.get st.heap) fun x=>K ⟨putE st.env d x,st.heap,st.clk⟩:=Iff.rfl
@[simp] theorem z5j{n}{d:Option Nat}{st:St}:opK P (.lenc n) d st K↔okK (stepQ (.lenc n) st.env.get st.heap) fun x=>K ⟨putE st.env d x,st.heap,st.clk⟩:=Iff.rfl
@[simp] theorem zadr{m xs}{d:Option Nat}{st:St}:opK P (.mm m xs) d st K↔okK (stepQ (.mm m xs) st.env.get st.heap) fun x=>K ⟨putE st.env d x,st.heap,st.clk⟩:=Iff.rfl
@[simp] theorem z83{x n}{d:Option Nat}{st:St}:opK P (.ext x n) d st K↔okK (stepQ (.ext x n) st.env.get st.heap) fun x=>K ⟨putE st.env d x,st.heap,st.clk⟩:=Iff.rfl
@[simp] theorem z5k{x}{d:Option Nat}{st:St}:opK P (.nilc x) d st K↔okK (stepQ (.nilc x) st.env.get st.heap) fun x=>K ⟨putE st.env d x,st.heap,st.clk⟩:=Iff.rfl
@[simp] theorem z19{zs}{d:Option Nat}{st:St}:opK P (.alloc zs) d st K↔okK (stepW (.alloc zs) d st.env.get st.heap st.clk) fun q=>K ⟨putE st.env d q.1,q.2.1,q.2.2⟩:=Iff.rfl
@[simp] theorem z2a{n x v}{d:Option Nat}{st:St}:opK P (.store n x v) d st K↔okK (stepW (.store n x v) d st.env.get st.heap st.clk) fun q=>K ⟨putE st.env d q.1,q.2.1,q.2.2⟩:=Iff.rfl
@[simp] theorem z84{z zs l c}{d:Option Nat}{st:St}:opK P (.mks z zs l c) d st K↔okK (stepW (.mks z zs l c) d st.env.get st.heap st.clk) fun q=>K ⟨putE st.env d q.1,q.2.1,q.2.2⟩:=Iff.rfl
@[simp] theorem z85{z x y}{d:Option Nat}{st:St}:opK P (.app z x y) d st K↔okK (stepW (.app z x y) d st.env.get st.heap st.clk) fun q=>K ⟨putE st.env d q.1,q.2.1,q.2.2⟩:=Iff.rfl
@[simp] theorem z5l(k:IntKind)(n:Int):unAV .neg (.i k n)=some (.i k (k.wrap (0-n))):=rfl
@[simp] theorem z5m(t:Bool):unAV .not (.b t)=some (.b (!t)):=rfl
attribute [simp] stepQ stepW pickAV lenAV lensAV mmAV mmL mm2 extAV eqbAV eqnilAV nilcAV iadAV loadAV fadAV fldAV partL fillL eqsAV eqL evO exitP resAV resV argEnv bslAV frzP fillS shareIds appAV appR rowOf rowZ
@[simp] theorem zn8{k:IntKind}{a b:Int}:binV .add (.i k a) (.i k b)=some (.i k (k.wrap (a+b))):=by simp[binV,binI]
@[simp] theorem zn9{k:IntKind}{a b:Int}:binV .sub (.i k a) (.i k b)=some (.i k (k.wrap (a-b))):=by simp[binV,binI]
@[simp] theorem zoa{k:IntKind}{a b:Int}:binV .mul (.i k a) (.i k b)=some (.i k (k.wrap (a*b))):=by simp[binV,binI]
@[simp] theorem zob{k:IntKind}{a b:Int}:binV .quo (.i k a) (.i k b)=if b=0 then none else some (.i k (k.wrap (a.tdiv b))):=by simp[binV,binI]
@[simp] theorem zoc{k:IntKind}{a b:Int}:binV .rem (.i k a) (.i k b)=if b=0 then none else some (.i k (a.tmod b)):=by simp[binV,binI]
@[simp] theorem zod{k:IntKind}{a b:Int}:binV .eql (.i k a) (.i k b)=some (.b (a == b)):=by simp[binV,binI]
@[simp] theorem zoe{k:IntKind}{a b:Int}:binV .neq (.i k a) (.i k b)=some (.b (a != b)):=by simp[binV,binI]
@[simp] theorem zi7{k:IntKind}{a b:Int}:binV .lss (.i k a) (.i k b)=some (.b (a<b)):=by simp[binV,binI]
@[simp] theorem zof{k:IntKind}{a b:Int}:binV .leq (.i k a) (.i k b)=some (.b (a≤b)):=by simp[binV,binI]
@[simp] theorem zvj{k:IntKind}{a b:Int}:binV .gtr (.i k a) (.i k b)=some (.b (a > b)):=by simp[binV,binI]
@[simp] theorem zog{k:IntKind}{a b:Int}:binV .geq (.i k a) (.i k b)=some (.b (a≥b)):=by simp[binV,binI]
@[simp] theorem z2b{a b:List UInt8}:binV .eql (.s a) (.s b)=some (.b (a == b)):=by simp[binV,binS]
@[simp] theorem z2c{a b:List UInt8}:binV .add (.s a) (.s b)=if a.length+b.length≤9223372036854775807 then some (.s (a++b)) else none:=by simp[binV,binS]
theorem zab(n:Int)(h:-9223372036854775808≤n∧n<9223372036854775808):IntKind.wrap .i64 n=n:=by
 simp[IntKind.wrap,IntKind.signed,IntKind.bits]<;>(omega)<;>omega
end
end
section
open Go.RowKit
section
variable{cx:Cx}{Q:Exit→St→Prop}{st:St}{c:AC}{P:Program}{K:St→Prop}
@[simp] theorem z0e{β:Type}(b b':BId)(x:β)(l:List (BId×β)):List.lookup b ((b',x)::l)=if b=b' then some x else List.lookup b l:=by
 grind
attribute [simp] liveP storeAV allocAV mksAV exitB
attribute [simp] AOp.writes AOp.free slcAV bndO
@[simp] theorem zage(k:IntKind)(n y:Int):bnd (.i k n) y=if 0≤n∧n≤y then some n.toNat else none:=rfl
theorem WRel.sub{S:Nat→Nat→Prop}{M:Map}{st st':St}{w:World}(hs:Sub st st')(hr:WRel cx S M st.clk st.heap w):∃Mb,WRel cx S Mb st'.clk st'.heap w∧Ext w S M st.clk w S Mb st'.clk:=by
 classical
 generalize hMb:(fun g=>if Live st'.heap g then M g else none:Map)=Mb
 have hMb1:∀g m,Mb g=some m→Live st'.heap g∧M g=some m:=by
  grind
 have hMb2:∀g,Live st'.heap g→Mb g=M g:=by grind
 have hx:Ext w S M st.clk w S Mb st'.clk:=⟨fun _ _ hs=>hs,fun _ _ _ _ hc=>hc,hs.clk,fun g m _ hm=>(hMb1 g m hm).2,fun _ _ arr _ _ _ hb=>⟨arr,hb,rfl⟩⟩
 refine⟨Mb,⟨⟨fun b bx hb=>?_,fun g m hm=>(hMb1 g m hm).1,fun b bx b' bx' h1 h2 hg=>?_,fun g g' k h1 h2=>hr.heap.inj _ _ _ (hMb1 _ _ h1).2 (hMb1 _ _ h2).2⟩,hr.ext.trans hx,hr.fr,hr.Snew,hr.Slt,fun g k hm=>hr.Mnew g k (hMb1 _ _ hm).2⟩,hx⟩
 ·obtain⟨bx0,h0,h1⟩:=hs.heap b bx hb
  have hl:Live st'.heap bx.gen:=⟨b,bx,hb,rfl⟩
  have hbox:=hr.heap.box b bx0 h0
  rcases h1 with rfl | ⟨hk,rfl⟩
  ·exact hbox.mono hx (hMb2 _ hl) (fun _ _=>rfl) fun _ _ _ hs=>hs
  ·obtain⟨b1,b2,m,hm,b3⟩:=hbox.mono hx (hMb2 bx0.gen hl) (fun _ _=>rfl) fun _ _ _ hs=>hs
   refine⟨b1,b2,m,hm,?_⟩
   cases m with
   | none=>exact⟨b3.1,by simp,by simp⟩
   | some k=>
    obtain⟨arr,e,c1,c2,c3,c4,c5⟩:=ck' hk.2 b3
    exact ck (by simp) ⟨arr,e,c1,c2,fun i r j c hi hj=>let ⟨u,d1,d2,d3,d4⟩:=c3 i r j c hi hj;⟨u,d1,d2,d3,fun _=>d4 hk.1⟩,fun hne=>absurd rfl hne,c5⟩
 ·obtain⟨bx0,h3,h4⟩:=hs.heap b bx h1
  obtain⟨bx0',h5,h6⟩:=hs.heap b' bx' h2
  have e1:bx.gen=bx0.gen:=by grind
  have e2:bx'.gen=bx0'.gen:=by grind
  exact hr.heap.gens _ _ _ _ h3 h5 (by rw[←e1,←e2,hg])
def exitC(rs:List RV)(post:AV→Heap→Nat→Prop):Exit→St→Prop:=
 fun ex st=>(ex=.normal∨ex=.ret)∧∃r,resAV st rs=some r∧∃h' c',Sub ⟨[],st.heap,st.clk⟩ ⟨[],h',c'⟩∧post r h' c'
end
end
section
open Go.RowKit
theorem zcs:∀(l:Heap) (g j:Nat),j≤genIx l g j∧genIx l g j≤j+l.length
 | [],g,j=>by simp[genIx]
 | p::l,g,j=>by
  have:=zcs l g (j+1)
  simp only[genIx,List.length_cons]
  split<;>omega
theorem zfs:∀(l:Heap) (g j:Nat),(∃p∈l,p.2.gen=g)→genIx l g j<j+l.length
 | [],g,j,h=>by grind
 | p::l,g,j,h=>by
  simp only[genIx,List.length_cons]
  split
  ·omega
  ·obtain⟨q,hq,he⟩:=h
   have hq':q∈l:=by
    grind
   have:=zfs l g (j+1) ⟨q,hq',he⟩
   omega
theorem zjf:∀(l:Heap) (g j:Nat),(¬ ∃p∈l,p.2.gen=g)→genIx l g j=j+l.length
 | [],g,j,h=>by simp[genIx]
 | p::l,g,j,h=>by
  simp only[genIx,List.length_cons]
  rw[if_neg (fun he=>h ⟨p,List.mem_cons_self,he⟩),zjf l g (j+1) fun⟨q,hq,he⟩=>h ⟨q,List.mem_cons_of_mem _ hq,he⟩]
  omega
theorem zgp:∀(l:Heap) (g g' j:Nat),(∃p∈l,p.2.gen=g)→(∃p∈l,p.2.gen=g')→genIx l g j=genIx l g' j→g=g'
 | [],g,g',j,h,_,_=>by obtain⟨p,hp,_⟩:=h;simp at hp
 | p::l,g,g',j,h,h',he=>by
  simp only[genIx]at he
  have low:=zcs l g (j+1)
  have low':=zcs l g' (j+1)
  split at he<;>split at he
  ·rename_i h1 h2;rw[←h1,←h2]
  ·omega
  ·omega
  ·rename_i h1 h2
   have tl:∀g,p.2.gen≠g→(∃q∈p::l,q.2.gen=g)→∃q∈l,q.2.gen=g:=by
    intro g hne ⟨q,hq,he⟩
    rcases List.mem_cons.1 hq with rfl | h
    ·exact absurd he hne
    ·exact⟨q,h,he⟩
   exact zgp l g g' (j+1) (tl g h1 h) (tl g' h2 h') he
theorem zeu{h:Heap}{ids:List BId}{p:BId×Box}(hp:p∈pickH h ids):h.lookup p.1=some p.2:=by
 obtain⟨b,_,h2⟩:=List.mem_filterMap.1 hp
 cases hb:h.lookup b with
 | none=>grind
 | some bx=>grind
theorem za6{β γ:Type}[BEq β][LawfulBEq β]:∀(l:List (β×γ)) (b:β) (x:γ),l.lookup b=some x→(b,x)∈l:=by
 intro l b x h
 induction l with
 | nil=>cases h
 | cons p l ih=>
  grind
theorem ze8{γ:Type}:∀(l:List (BId×γ)) (p:BId×γ),p∈l→∃x,l.lookup p.1=some x:=by
 intro l p h
 induction l with
 | nil=>cases h
 | cons q l ih=>
  obtain⟨q1,q2⟩:=q
  by_cases hb:p.1=q1
  ·simp_all
  grind
theorem zk3{h:Heap}{ids:List BId}{p:BId×Box}(hp:p∈pickH h ids):(pickH h ids).lookup p.1=some p.2:=by
 obtain⟨x,hx⟩:=ze8 _ _ hp
 have h1:=zeu (za6 _ _ _ hx)
 rw[zeu hp]at h1
 grind
theorem zmz(live:List Nat)(f:Nat→AV)(t:Nat):(live.map fun t=>(t,f t)).lookup t=if t∈live then some (f t) else none:=by
 induction live with
 | nil=>simp
 | cons s l ih=>
  grind
section
variable{cx:Cx}{st:St}{a:Act}{w:World}
theorem zon{k:Nat}{hp:Heap}{g g':Nat}(h:∃p∈hp,p.2.gen=g)(h':∃p∈hp,p.2.gen=g')(he:sigG k hp g=sigG k hp g'):g=g':=by
 grind[sigG,zcs,zgp]
theorem Rel.norm{ex:Bool}{k:Nat}{live:List Nat}(hk:cx.clk0=k+1)(hr:Rel cx st a w):Rel cx (normS ex k live st) a w:=by
 obtain⟨S,M,hr⟩:=hr
 generalize hids:reach st.heap 40 (bors k++(live.map fun t=>(t,st.env.get t)).flatMap fun p=>rfA p.2) []=ids
 generalize hhp:pickH st.heap ids=hp
 have hn:normS ex k live st=⟨(live.map fun t=>(t,st.env.get t)).map fun p=>(p.1,rlA id (sigG k hp) (wkIf ex p.2)),hp.map fun p=>(p.1,rlBox ex id (sigG k hp) p.2),k+hp.length+2⟩:=by
  rw[←hhp,←hids];rfl
 have hlk:∀b bx,hp.lookup b=some bx→st.heap.lookup b=some bx:=by
  intro b bx hb
  have:=za6 _ _ _ hb
  rw[←hhp]at this
  exact zeu this
 have hml:∀p∈hp,hp.lookup p.1=some p.2:=by
  intro p hm
  rw[←hhp]at hm ⊢
  exact zk3 hm
 classical
 generalize hM':(fun g'=>if h:∃g,(∃p∈hp,p.2.gen=g)∧sigG k hp g=g' then M (Classical.choose h) else none:Map)=M'
 have hM1:∀g,(∃p∈hp,p.2.gen=g)→M' (sigG k hp g)=M g:=by
  intro g hg
  rw[←hM']
  have h:∃g0,(∃p∈hp,p.2.gen=g0)∧sigG k hp g0=sigG k hp g:=⟨g,hg,rfl⟩
  simp only[dif_pos h]
  rw[zon (Classical.choose_spec h).1 hg (Classical.choose_spec h).2]
 have hM2:∀g' m,M' g'=some m→∃g,(∃p∈hp,p.2.gen=g)∧sigG k hp g=g'∧M g=some m:=by
  grind
 have hrl:Rlb M M' st.clk (k+hp.length+2) (sigG k hp):=by
  refine⟨fun g hg=>⟨?_,?_⟩⟩
  ·by_cases hin:∃p∈hp,p.2.gen=g
   ·grind
   ·right
    cases hm:M' (sigG k hp g) with
    | none=>rfl
    | some m=>
     obtain⟨g1,h1,h2,_⟩:=hM2 _ _ hm
     have hlt:=zfs hp g1 (k+1) h1
     grind[zjf,zcs,sigG]
  grind[zcs,sigG]
 have hw:=hr.wr
 refine⟨S,M',?_⟩
 rw[hn]
 refine⟨hr.size,hr.defers,fun t=>?_,?_⟩
 ·rw[List.map_map]
  have e1:Env.get (live.map fun t=>(t,rlA id (sigG k hp) (wkIf ex (st.env.get t)))) t=(if t∈live then some (rlA id (sigG k hp) (wkIf ex (st.env.get t))) else none).getD .dead:=by
   rw[←zmz live (fun t=>rlA id (sigG k hp) (wkIf ex (st.env.get t)))];rfl
  show C w S M' _ _ (Env.get (live.map fun t=>(t,rlA id (sigG k hp) (wkIf ex (st.env.get t)))) t)
  rw[e1]
  split
  ·exact((hr.env t).wkIf ex).rlA hrl
  ·exact .p (.dead _)
 ·refine hw.rl (ex:=ex) (σn:=id) (σg:=sigG k hp) (D:=fun g=>∃p∈hp,p.2.gen=g) hrl (by grind) (fun g m hg hm=>?_) (fun b' bx' hb=>?_) (fun g' m hm=>?_) (fun g1 g2 hd1 hd2 hg=>?_) (fun g' m hm=>?_)
  ·grind[zcs,sigG]
  ·rw[zdw (fun _ bx=>rlBox ex id (sigG k hp) bx) b' hp]at hb
   obtain⟨bx,h1,rfl⟩:=map_some hb
   exact⟨b',bx,hlk _ _ h1,rfl,hM1 _ ⟨_,za6 _ _ _ h1,rfl⟩,rfl,⟨_,za6 _ _ _ h1,rfl⟩⟩
  ·obtain⟨g1,⟨p,h1,h1'⟩,h2,h3⟩:=hM2 _ _ hm
   refine⟨p.1,rlBox ex id (sigG k hp) p.2,?_,by show sigG k hp p.2.gen=g';grind⟩
   rw[zdw (fun _ bx=>rlBox ex id (sigG k hp) bx) p.1 hp,hml p h1]
   rfl
  ·exact zon hd1 hd2 hg
  grind
theorem Rel.nil(t:Nat)(id:BId)(z:Nat)(hx:st.env.get t=.sl [] .nl)(hr0:Rel cx st a w):Rel cx ⟨(t,.bs id st.clk z 0 0)::st.env,(id,⟨st.clk,.own,z,[]⟩)::st.heap,st.clk+1⟩ a w:=by
 obtain⟨S,M,hr⟩:=hr0
 refine⟨S,setM M ((id,⟨st.clk,.own,z,[]⟩)::st.heap) st.clk none,?_⟩
 have h1:=hr.set (id:=id) (bx':=⟨st.clk,.own,z,[]⟩) (k':=none) (touched:=none) (clk':=st.clk+1) (Nat.le_succ _) (.inl rfl) (fun hlt=>absurd hlt (Nat.lt_irrefl _)) (Touch.of_below (Below.refl _ _)) (fun k hk=>by grind)
  ⟨Nat.lt_succ_self _,fun r hr=>by grind,none,zao _ _ _ _,rfl,by simp⟩
 refine⟨h1.size,h1.defers,fun t'=>?_,h1.wr⟩
 have e1:Env.get ((t,AV.bs id st.clk z 0 0)::st.env)=upd st.env.get (some t) (.bs id st.clk z 0 0):=zbm st.env (some t) _
 rw[e1]
 simp only[upd]
 split
 ·rename_i ht
  subst ht
  have hv:=hr.env t'
  rw[hx]at hv
  have hv2:a.tmps.getD t' undef=.slice none 0 0:=by
   rcases hv.inv_sl.inv_sl with ⟨_,b0,hv,_,hb2⟩ | ⟨_,_,_,_,_,_,hf,_⟩
   all_goals grind
  rw[hv2]
  refine .bs _ _ _ _ _ _ (Nat.lt_succ_self _) ?_ rfl
  grind[BsOk,zao]
 ·exact h1.env t'
theorem Rel.shr(t:Nat){y:AV}(hy:frz st.heap (st.env.get t)=some y)(hr0:Rel cx st a w):Rel cx ⟨st.env,shareIds (refs (st.env.get t)) st.heap,st.clk⟩ a w:=by
 obtain⟨S,M,hr⟩:=hr0
 exact⟨_,M,hr.share (refs (st.env.get t)) (zcq hy)⟩
theorem Rel.frz(t:Nat){y:AV}(hy:frz st.heap (st.env.get t)=some y)(hr0:Rel cx st a w):Rel cx ⟨(t,y)::st.env,shareIds (refs (st.env.get t)) st.heap,st.clk⟩ a w:=by
 obtain⟨S,M,hr⟩:=hr0
 have hk:=zcq hy
 refine⟨cellsS st.heap M (refs (st.env.get t)) S,M,?_⟩
 have h1:=hr.share (refs (st.env.get t)) hk
 refine⟨h1.size,h1.defers,fun t'=>?_,h1.wr⟩
 have e1:Env.get ((t,y)::st.env)=upd st.env.get (some t) y:=zbm st.env (some t) _
 rw[e1]
 simp only[upd]
 split
 ·rename_i ht
  subst ht
  exact .p (zrb hr.wr.heap (hr.env t') hy fun id hid=>hid)
 ·exact h1.env t'
theorem Rel.fld(b id:BId)(z i o:Nat){bx:Box}{r:List AV}(hb:st.heap.lookup b=some bx)(hk:bx.kind=.str)(hi:bx.els[i]? = some r)(ho:r[o]? = some (.sl [] .nl))(hid:st.heap.lookup id=none)(hr0:Rel cx st a w):Rel cx ⟨st.env,(b,{ bx with els:=bx.els.set i (r.set o (.bs id st.clk z 0 0)) })::(id,⟨st.clk,.own,z,[]⟩)::st.heap,st.clk+1⟩ a w:=by
 obtain⟨S,M,hr⟩:=hr0
 refine⟨S,setM M ((id,⟨st.clk,.own,z,[]⟩)::st.heap) st.clk none,?_⟩
 have h1:=hr.set (id:=id) (bx':=⟨st.clk,.own,z,[]⟩) (k':=none) (touched:=none) (clk':=st.clk+1) (Nat.le_succ _) (.inl rfl) (fun hlt=>absurd hlt (Nat.lt_irrefl _)) (Touch.of_below (Below.refl _ _)) (fun k hk=>by grind)
  ⟨Nat.lt_succ_self _,fun r hr=>by grind,none,zao _ _ _ _,rfl,by simp⟩
 have hb1:List.lookup b ((id,(⟨st.clk,.own,z,[]⟩:Box))::st.heap)=some bx:=by grind
 have hw:=h1.wr
 generalize hM':setM M ((id,⟨st.clk,.own,z,[]⟩)::st.heap) st.clk none=M' at *
 have hself:M' st.clk=some none:=by rw[←hM'];exact zao _ _ _ _
 generalize hbx':({ bx with els:=bx.els.set i (r.set o (.bs id st.clk z 0 0)) }:Box)=bx' at *
 have hgen:bx'.gen=bx.gen:=by grind
 have hz:bx'.z=bx.z:=by grind
 have hkk:bx'.kind=bx.kind:=by grind
 have hbox:BoxOk w S M' (st.clk+1) bx':=by
  obtain⟨b1,b2,m,hm1,b3⟩:=hw.heap.box b bx hb1
  refine⟨by omega,fun r' hr'=>?_,m,by grind,?_⟩
  ·grind
  ·cases m with
   | none=>
    grind
   | some k=>
    have hmp:bx.kind≠.mp:=by rw[hk];simp
    obtain⟨arr,e,hh,hsz,hcc,hns,hlt⟩:=ck' hmp b3
    refine ck (by rw[hkk];exact hmp) ⟨arr,e,hh,by grind,fun i' r' j c' hi' hj=>?_,by grind,by grind⟩
    rw[←hbx']at hi'
    simp only[List.getElem?_set]at hi'
    rw[hz,hkk]
    split at hi'
    ·rename_i hii
     subst hii
     split at hi'
     ·cases hi'
      rw[List.getElem?_set]at hj
      split at hj
      ·rename_i hjo
       subst hjo
       split at hj
       ·cases hj
        obtain⟨u,hu,hu1,hC,hP⟩:=hcc i r o _ hi ho
        refine⟨u,hu,hu1,?_,fun hne'=>absurd hk hne'⟩
        have hv2:u=.slice none 0 0:=by
         rcases hC.inv_sl.inv_sl with ⟨_,b0,hv,_,hb2⟩ | ⟨_,_,_,_,_,_,hf,_⟩
         all_goals grind
        rw[hv2]
        refine .bs _ _ _ _ _ _ (Nat.lt_succ_self _) ?_ rfl
        grind[BsOk]
       grind
      grind
     grind
    grind
 have to:∀q x,List.lookup q ((b,bx')::(id,(⟨st.clk,.own,z,[]⟩:Box))::st.heap)=some x→∃x0,List.lookup q ((id,(⟨st.clk,.own,z,[]⟩:Box))::st.heap)=some x0∧x0.gen=x.gen:=by
  grind
 refine⟨h1.size,h1.defers,h1.env,⟨⟨fun q x hq=>?_,fun g m hm=>?_,fun q1 x1 q2 x2 hq1 hq2 hg=>?_,hw.heap.inj⟩,hw.ext,hw.fr,hw.Snew,hw.Slt,hw.Mnew⟩⟩
 ·by_cases hqb:q=b
  ·grind
  ·rw[za5 _ _ hqb]at hq
   exact hw.heap.box q x hq
 ·obtain⟨q,x,hq,hg⟩:=hw.heap.live g m hm
  by_cases hqb:q=b
  ·grind[zbi]
  ·exact⟨q,x,by grind,hg⟩
 ·obtain⟨y1,hy1,e1⟩:=to q1 x1 hq1
  obtain⟨y2,hy2,e2⟩:=to q2 x2 hq2
  exact hw.heap.gens _ _ _ _ hy1 hy2 (by rw[e1,e2,hg])
theorem Rel.str(b:BId){bx:Box}{r:List AV}{i:Nat}(hb:st.heap.lookup b=some bx)(hk:bx.kind≠.sh)(hmp:bx.kind≠.mp)(hi:bx.els[i]? = some r)(hr0:Rel cx st a w):Rel cx ⟨st.env,(b,{ bx with kind:=.str })::st.heap,st.clk⟩ a w:=by
 obtain⟨S,M,hr⟩:=hr0
 refine⟨S,M,?_⟩
 have hw:=hr.wr
 generalize hbx':({ bx with kind:=.str }:Box)=bx' at *
 have hgen:bx'.gen=bx.gen:=by grind
 have hbox:BoxOk w S M st.clk bx':=by
  obtain⟨b1,b2,m,hm1,b3⟩:=hw.heap.box b bx hb
  refine⟨by omega,by grind,m,by grind,?_⟩
  cases m with
  | none=>grind
  | some k=>
   obtain⟨arr,e,hh,hsz,hcc,hns,hlt⟩:=ck' hmp b3
   refine ck (by rw[←hbx'];simp) ⟨arr,e,hh,by grind,fun i' r' j c' hi' hj=>?_,by grind,by grind⟩
   obtain⟨u,h1,h2,h3,h4⟩:=hcc i' r' j c' (by grind) hj
   exact⟨u,by grind,h2,h3,by grind⟩
 have to:∀q x,List.lookup q ((b,bx')::st.heap)=some x→∃x0,List.lookup q st.heap=some x0∧x0.gen=x.gen:=by
  grind
 refine⟨hr.size,hr.defers,hr.env,⟨⟨fun q x hq=>?_,fun g m hm=>?_,fun q1 x1 q2 x2 hq1 hq2 hg=>?_,hw.heap.inj⟩,hw.ext,hw.fr,hw.Snew,hw.Slt,hw.Mnew⟩⟩
 ·by_cases hqb:q=b
  ·grind
  ·rw[za5 _ _ hqb]at hq
   exact hw.heap.box q x hq
 ·obtain⟨q,x,hq,hg⟩:=hw.heap.live g m hm
  by_cases hqb:q=b
  ·grind[zbi]
  ·exact⟨q,x,by grind,hg⟩
 ·obtain⟨y1,hy1,e1⟩:=to q1 x1 hq1
  obtain⟨y2,hy2,e2⟩:=to q2 x2 hq2
  exact hw.heap.gens _ _ _ _ hy1 hy2 (by rw[e1,e2,hg])
theorem Rel.gh{k:Nat}{g:Gh}{st':St}(hk:cx.clk0=k+1)(hg:ghS k g st=some st')(hr:Rel cx st a w):Rel cx st' a w:=by
 cases g with
 | nil t z=>
  simp only[ghS]at hg
  split at hg<;>cases hg
  rename_i hx
  exact hr.nil t _ z hx
 | frz t=>
  obtain⟨y,hy,rfl⟩:=map_some hg
  exact hr.frz t hy
 | shr t=>
  simp only[ghS]at hg
  obtain⟨y,hy,rfl⟩:=map_some hg
  exact hr.shr t hy
 | norm ex live=>
  cases hg
  exact hr.norm hk
 | trm live=>
  cases hg
  have key:∀(l:List Nat) (t:Nat) (x:AV),(l.map fun t=>(t,st.env.get t)).lookup t=some x→st.env.get t=x:=by
   intro l
   induction l with
   | nil=>simp
   | cons a l ih=>grind [List.lookup]
  have hs:Sub st ⟨live.map fun t=>(t,st.env.get t),st.heap,st.clk⟩:=⟨fun t x h=>key _ _ _ h,fun b bx h=>⟨bx,h,.inl rfl⟩,Nat.le_refl _⟩
  exact Rel.sub hs hr
 | opn t j z=>
  simp only[ghS]at hg
  split at hg<;>try (cases hg;done)
  split at hg<;>try (cases hg;done)
  rename_i bx hbx
  split at hg<;>try (cases hg;done)
  rename_i r hi
  split at hg<;>cases hg
  rename_i hc
  have hb:=(zat hbx).1
  have h1:=hr.str _ hb hc.1 (zcd hbx) hi
  have hn:∀b o,BId.fld b o≠b:=fun b o h=>by
   have h2:SizeOf.sizeOf (BId.fld b o)=SizeOf.sizeOf b:=by rw[h]
   simp at h2
   omega
  have h2:=h1.fld (bx:={ bx with kind:=.str }) _ (.fld _ _) z _ 0 (zbi _ _ _) rfl hi rfl (by rw[za5 _ _ (hn _ _)];simpa using hc.2)
  refine Rel.sub ?_ h2
  constructor
  ·intro t x h
   show (st.env.lookup t).getD .dead=x
   rw[show st.env.lookup t=some x from h]
   rfl
  ·intro b' bx' h
   refine⟨bx',?_,.inl rfl⟩
   simp only[List.set_cons_zero]
   grind
  ·exact Nat.le_refl _
 | shi t j=>
  simp only[ghS]at hg
  split at hg<;>try (cases hg;done)
  split at hg<;>try (cases hg;done)
  split at hg<;>try (cases hg;done)
  obtain⟨y,hy,rfl⟩:=map_some hg
  obtain⟨S,M,hr⟩:=hr
  exact⟨_,M,hr.share (refs _) (zcq hy)⟩
 | shf t i o=>
  simp only[ghS]at hg
  split at hg<;>try (cases hg;done)
  split at hg<;>try (cases hg;done)
  split at hg<;>try (cases hg;done)
  split at hg<;>try (cases hg;done)
  obtain⟨y,hy,rfl⟩:=map_some hg
  obtain⟨S,M,hr⟩:=hr
  exact⟨_,M,hr.share (refs _) (zcq hy)⟩
 | fld t i o z=>
  simp only[ghS]at hg
  split at hg<;>try (cases hg;done)
  split at hg<;>try (cases hg;done)
  rename_i bx hbx
  split at hg<;>try (cases hg;done)
  rename_i r hi
  split at hg<;>try (cases hg;done)
  rename_i ho
  split at hg<;>cases hg
  rename_i hc
  exact hr.fld _ _ z i o (zat hbx).1 hc.1 hi ho (by simpa using hc.2)
end
end
section
open Go.RowKit
theorem zk4:∀(l:Heap) (g j:Nat),(∃p∈l,p.2.gen=g)→∃q,l[genIx l g j-j]? = some q∧q.2.gen=g∧j≤genIx l g j
 | [],g,j,h=>by grind
 | p::l,g,j,h=>by
  simp only[genIx]
  split
  ·grind
  ·obtain⟨q,hq,he⟩:=h
   have hq':q∈l:=by
    grind
   obtain⟨q2,h1,h2,h3⟩:=zk4 l g (j+1) ⟨q,hq',he⟩
   grind
theorem zif:∀(l:List BId) (b b':BId) (j:Nat),b∈l→b'∈l→nameIx l b j=nameIx l b' j→b=b'
 | [],b,b',j,h,_,_=>by cases h
 | c::l,b,b',j,h,h',he=>by
  have low:∀(l:List BId) (x:BId) (j:Nat),j≤nameIx l x j:=by
   intro l x
   induction l with
   | nil=>intro j;exact Nat.le_refl _
   | cons y l ih=>intro j;simp only[nameIx];split;exact Nat.le_refl _;exact Nat.le_trans (Nat.le_succ j) (ih (j+1))
  simp only[nameIx]at he
  have l1:=low l b (j+1)
  have l2:=low l b' (j+1)
  split at he<;>split at he
  ·rename_i h1 h2;rw[←h1,←h2]
  ·omega
  ·omega
  ·rename_i h1 h2
   have tl:∀x,c≠x→x∈c::l→x∈l:=by
    intro x hne hx
    rcases List.mem_cons.1 hx with rfl | hx
    ·exact absurd rfl hne
    ·exact hx
   exact zif l b b' (j+1) (tl b h1 h) (tl b' h2 h') he
theorem zdn{γ:Type}:∀(l:List (BId×γ)),(l.map (·.1)).Nodup→∀p∈l,l.lookup p.1=some p.2:=by
 intro l hn p hp
 induction l with
 | nil=>grind
 | cons q l ih=>
  grind
theorem zgq{α:Type}:∀(l:List α),l.Nodup→∀(i j:Nat) (x:α),l[i]? = some x→l[j]? = some x→i=j
 | [],_,i,j,x,h,_=>by simp at h
 | y::l,hn,i,j,x,hi,hj=>by
  simp only[List.nodup_cons]at hn
  cases i with
  | zero=>
   cases j with
   | zero=>rfl
   | succ j=>
    simp at hi hj
    subst hi
    exact absurd (List.mem_of_getElem? hj) hn.1
  | succ i=>
   cases j with
   | zero=>
    simp at hi hj
    subst hj
    exact absurd (List.mem_of_getElem? hi) hn.1
   | succ j=>rw[zgq l hn.2 i j x hi hj]
theorem ACall.rl{P:Program}{f:FuncId}{ys:List AV}{hp:Heap}{clk d:Nat}{ex:Bool}{l:List BId}{r0:AV}{hb':Heap}{c':Nat}
  (hkeys:hp.map (·.1)=l) (hnd:l.Nodup)
  (hnd2:((hb'.map fun p=>(outN l d p.1,rlBox true (outN l d) (outG hp clk) p.2)).map (·.1)).Nodup)
  (hA:ACall P f (ys.map fun y=>rlA (inN l) (inG hp) (wkIf ex y)) (hp.map fun p=>(inN l p.1,rlBox ex (inN l) (inG hp) p.2)) (hp.length+1) (fun r h c=>r=r0∧h=hb'∧c=c')) :
  ACall P f ys hp clk (fun r h c=>r=rlA (outN l d) (outG hp clk) r0∧h=hb'.map (fun p=>(outN l d p.1,rlBox true (outN l d) (outG hp clk) p.2))∧c=clk+(c'-hp.length)):=by
 refine⟨hA.1,fun w S M cargs hl hC hh hS hM=>?_⟩
 have hml:∀p∈hp,hp.lookup p.1=some p.2:=zdn hp (by grind)
 have hnd':(hb'.map (·.1)).Nodup:=by
  grind
 classical
 -- the call's own numbering
 generalize hM1:(fun g'=>if h:∃g,(∃p∈hp,p.2.gen=g)∧inG hp g=g' then M (Classical.choose h) else none:Map)=M1
 have inj1:∀g1 g2,(∃p∈hp,p.2.gen=g1)→(∃p∈hp,p.2.gen=g2)→inG hp g1=inG hp g2→g1=g2:=fun g1 g2 h1 h2 he=>zgp hp g1 g2 0 h1 h2 he
 have hM1a:∀g,(∃p∈hp,p.2.gen=g)→M1 (inG hp g)=M g:=by
  intro g hg
  rw[←hM1]
  have h:∃g0,(∃p∈hp,p.2.gen=g0)∧inG hp g0=inG hp g:=⟨g,hg,rfl⟩
  simp only[dif_pos h]
  rw[inj1 _ _ (Classical.choose_spec h).1 hg (Classical.choose_spec h).2]
 have hM1b:∀g' m,M1 g'=some m→∃g,(∃p∈hp,p.2.gen=g)∧inG hp g=g'∧M g=some m:=by
  grind
 have rl1:Rlb M M1 clk (hp.length+1) (inG hp):=by
  refine⟨fun g _=>⟨?_,?_⟩⟩
  ·by_cases hin:∃p∈hp,p.2.gen=g
   ·grind
   ·right
    cases hm:M1 (inG hp g) with
    | none=>rfl
    | some m=>
     obtain⟨g1,h1,h2,_⟩:=hM1b _ _ hm
     have hlt:=zfs hp g1 0 h1
     grind[zjf,inG]
  grind[zcs,inG]
 have mem_keys:∀p∈hp,p.1∈l:=fun p hpm=>by grind
 have heap1:HeapRel w S M1 (hp.length+1) (hp.map fun p=>(inN l p.1,rlBox ex (inN l) (inG hp) p.2)):=by
  refine hh.rl (ex:=ex) (σn:=inN l) (σg:=inG hp) (D:=fun g=>∃p∈hp,p.2.gen=g) rl1 (fun b' bx' hb=>?_) (fun g' m hm=>?_) inj1 (fun g' m hm=>?_)
  ·obtain⟨p,hpm,he⟩:=List.mem_map.1 (za6 _ _ _ hb)
   grind
  ·obtain⟨g1,⟨p,hpm,h1⟩,h2,h3⟩:=hM1b _ _ hm
   obtain⟨x,hx⟩:=ze8 (hp.map fun p=>(inN l p.1,rlBox ex (inN l) (inG hp) p.2)) (inN l p.1,rlBox ex (inN l) (inG hp) p.2) (List.mem_map.2 ⟨p,hpm,rfl⟩)
   refine⟨_,x,hx,?_⟩
   obtain⟨q,hqm,he⟩:=List.mem_map.1 (za6 _ _ _ hx)
   simp only[Prod.mk.injEq]at he
   have hqp:q.1=p.1:=by
    grind[inN,zif]
   have:q.2=p.2:=by
    grind
   rw[←he.2,this]
   show inG hp p.2.gen=g'
   grind
  grind
 have range1:∀g k,M1 g=some (some k)→∃g0,M g0=some (some k):=fun g k hm=>let ⟨g1,_,_,h3⟩:=hM1b g _ hm;⟨g1,h3⟩
 refine(hA.2 w S M1 cargs (by grind) (fun j v c hv hc=>?_) heap1 hS (fun g k hm=>let ⟨g0,h0⟩:=range1 g k hm;hM g0 k h0)).mono ?_
 ·obtain⟨c0,h1,rfl⟩:=getElem?_mapped hc
  exact((hC j v c0 hv h1).wkIf ex).rlA rl1
 intro e w' ⟨v,r,h',S',M2,clk2,he,⟨hr0,hh',hc2⟩,hCr,hw⟩
 subst hr0
 subst hh'
 subst hc2
 have hw:=hw 0
 -- back
 have gens:∀(i:Nat) p,hp[i]? = some p→∀(j:Nat) q,hp[j]? = some q→p.2.gen=q.2.gen→i=j:=by
  intro i p hi j q hj hg
  have h1:=hh.gens _ _ _ _ (hml p (List.mem_of_getElem? hi)) (hml q (List.mem_of_getElem? hj)) hg
  refine zgq l hnd i j p.1 ?_ ?_
  all_goals grind
 have low:∀g m,M2 g=some m→g<hp.length∨hp.length+1≤g:=by
  intro g m hm
  rcases Nat.lt_or_ge g (hp.length+1) with h1 | h1
  ·obtain⟨g1,h2,h3,_⟩:=hM1b g m (hw.ext.hM g m h1 hm)
   have:=zfs hp g1 0 h2
   unfold inG at h3
   omega
  omega
 have outLt:∀g,g<hp.length→∃p,hp[g]? = some p∧outG hp clk g=p.2.gen∧p.2.gen<clk:=by
  intro g hg
  have h1:hp[g]? = some (hp[g]'hg):=List.getElem?_eq_getElem hg
  refine⟨_,h1,by simp[outG,h1],(hh.box _ _ (hml _ (List.getElem_mem hg))).1⟩
 have outGe:∀g,hp.length≤g→outG hp clk g=clk+(g-hp.length):=by
  grind[outG]
 have inj2:∀g1 g2,(∃m,M2 g1=some m)→outG hp clk g1=outG hp clk g2→g1=g2:=by
  intro g1 g2 ⟨m,hm⟩ he
  rcases Nat.lt_or_ge g1 hp.length with h1 | h1<;>rcases Nat.lt_or_ge g2 hp.length with h2 | h2
  all_goals grind
 generalize hM3:(fun g'=>if h:∃g,(∃m,M2 g=some m)∧outG hp clk g=g' then M2 (Classical.choose h) else none:Map)=M3
 have hM3a:∀g,(∃m,M2 g=some m)→M3 (outG hp clk g)=M2 g:=by
  intro g hg
  have h:∃g0,(∃m,M2 g0=some m)∧outG hp clk g0=outG hp clk g:=⟨g,hg,rfl⟩
  grind
 have hM3b:∀g' m,M3 g'=some m→∃g,outG hp clk g=g'∧M2 g=some m:=by
  grind
 have rl2:Rlb M2 M3 clk2 (clk+(clk2-hp.length)) (outG hp clk):=by
  refine⟨fun g hg=>⟨?_,?_⟩⟩
  ·grind
  ·rcases Nat.lt_or_ge g hp.length with h1 | h1
   all_goals grind
 have back:∀g m,g<clk→M3 g=some m→∃g1,g1<hp.length∧M2 g1=some m∧M1 g1=some m∧M g=some m:=by
  intro g m hg hm
  obtain⟨g1,h1,h2⟩:=hM3b _ _ hm
  have hlt:g1<hp.length:=by
   grind
  have h3:=hw.ext.hM g1 m (by grind) h2
  obtain⟨g2,h4,h5,h6⟩:=hM1b _ _ h3
  obtain⟨p,a1,a2,_⟩:=outLt g1 hlt
  obtain⟨q,b1,b2,_⟩:=zk4 hp g2 0 h4
  grind[inG]
 refine⟨v,_,_,S',M3,_,he,⟨rfl,rfl,rfl⟩,hCr.rlA rl2,fun nt=>⟨?_,?_,?_,fun k o hs=>?_,hw.Slt,fun g k hm=>?_⟩⟩
 ·refine hw.heap.rl (ex:=true) (σn:=outN l d) (σg:=outG hp clk) (D:=fun g=>∃m,M2 g=some m) rl2 (fun b' bx' hb=>?_) (fun g' m hm=>?_) (fun g1 g2 h1 _ he=>inj2 g1 g2 h1 he) (fun g' m hm=>?_)
  ·obtain⟨p,hpm,he⟩:=List.mem_map.1 (za6 _ _ _ hb)
   cases he
   have h1:=zdn h' hnd' p hpm
   obtain⟨_,_,m,hm,_⟩:=hw.heap.box _ _ h1
   grind
  ·obtain⟨g1,h1,h2⟩:=hM3b _ _ hm
   obtain⟨b,bx,h3,h4⟩:=hw.heap.live g1 m h2
   refine⟨outN l d b,rlBox true (outN l d) (outG hp clk) bx,?_,by show outG hp clk bx.gen=g';grind⟩
   exact zdn _ hnd2 (outN l d b,rlBox true (outN l d) (outG hp clk) bx) (List.mem_map.2 ⟨(b,bx),za6 _ _ _ h3,rfl⟩)
  grind
 ·refine⟨hw.ext.hS,hw.ext.hcell,by grind,fun g m hg hm=>?_,fun g k arr e hg hm hb=>?_⟩
  ·grind
  ·obtain⟨g1,h1,h2,_,_⟩:=back g _ hg hm
   exact hw.ext.hblk g1 k arr e (by grind) h2 hb
 ·exact⟨hw.fr.os,hw.fr.tape,hw.fr.output,hw.fr.size,fun k hk hn=>hw.fr.block k hk fun⟨g,hm⟩=>hn (range1 g k hm)⟩
 ·rcases hw.Snew k o hs with h1 | h1 | ⟨g,h1⟩
  ·grind
  ·grind
  ·exact .inr (.inr (range1 g k h1))
 ·obtain⟨g1,h1,h2⟩:=hM3b _ _ hm
  obtain⟨h3,h4⟩:=hw.Mnew g1 k h2
  refine⟨h3,?_⟩
  rcases h4 with h4 | ⟨g,h4⟩
  ·grind
  ·exact .inr (range1 g k h4)
theorem PCall.wk{P:Program}{f:FuncId}{xs:List AV}{post:AV→Prop}{ex:Bool}(h:PCall P f (xs.map (wkIf ex)) post):PCall P f xs post:=
 ⟨h.1,fun w S cargs hl hC hS=>h.2 w S cargs (by grind) (fun j v c hv hc=>by
  obtain⟨c0,h1,rfl⟩:=getElem?_mapped hc
  exact(hC j v c0 hv h1).wkIf ex) hS⟩
end
section
open Go.RowKit
def mapOp(ν:Nat→FuncId)(τ:Nat→Nat):AOp→AOp
 | .call u args=>.call (ν u) args
 | .ifc k x=>.ifc (τ k) x
 | .inv nm _ _ r args=>.inv nm 0 (if nm="()" then 1 else 0) r args
 | .xop (.mkf k) xs=>.xop (.mkf (τ k)) xs
 | .xop (.mkv k) xs=>.xop (.mkv (τ k)) xs
 | op=>op
def mapAO(ν:Nat→FuncId)(τ:Nat→Nat)(o:AO):AO:=⟨o.dst,o.guard,mapOp ν τ o.op⟩
def mapDO(ν:Nat→FuncId)(τ:Nat→Nat)(o:DO):DO:=⟨mapAO ν τ o.ao,o.lo,o.hi⟩
def er(ν:Nat→FuncId)(τ:Nat→Nat):AX→AC
 | .skip=>.skip
 | .reg l=>.reg (l.map (mapAO ν τ))
 | .draw l=>.draw (l.map (mapDO ν τ))
 | .seq a b=>.seq (er ν τ a) (er ν τ b)
 | .cond c x y=>.cond c (er ν τ x) (er ν τ y)
 | .block id c=>.block id (er ν τ c)
 | .loop c=>.loop (er ν τ c)
 | .exit id=>.exit id
 | .ret=>.ret
 | .note c _=>er ν τ c
 | .pre _ c=>er ν τ c
 | .scope c=>.scope (er ν τ c)
 | .lp id _ c _=>.block id (.loop (er ν τ c))
 | .bad=>.bad
 | .drawT hd tl=>.drawT (hd.map (mapAO ν τ)) (tl.map (mapAO ν τ))
 | .drawM hd tl=>.drawM (hd.map (mapAO ν τ)) (tl.map (mapAO ν τ))
 | .drawC l1 o l2 tl=>.drawT (l1.map (mapAO ν τ)++mapAO ν τ o::l2.map (mapAO ν τ)) (tl.map (mapAO ν τ))
 | .drawN l1 o l2=>.draw (l1.map (mapDO ν τ) ++ ⟨mapAO ν τ o,0,0⟩::l2.map (mapDO ν τ))
 | .prim _=>.bad
 | .label l=>.label l
 | .goto l=>.goto l
 | .gsc l c r=>.gsc l (er ν τ c) (er ν τ r)
def erF(ν:Nat→FuncId)(τ:Nat→Nat)(af:AFx):AF:=⟨af.np,af.nt,af.res,er ν τ af.body⟩
def Ex.out:Ex→Exit
 | .n=>.normal
 | .x id=>.exit id
 | .r=>.ret
 | .g l=>.goto l
def LWp(cx:Cx)(c:AC)(Q:Exit→St→Prop)(st:St):Prop:=
 ∀code,resCode cx.P cx.nt code=some c→cx.P.follows .mixedOrders=true→∀a w,Rel cx st a w→∀(b:Frame) (k:List Item) (cs:List Frame),
  ∃e a' w',(∃st',Q e st'∧Rel cx st' a' w')∧Arrives cx.P (lone (b.at a (.code code :: .inLoop code::k)) cs w) b k cs e a' w'
theorem zvp{cx:Cx}{c:AC}{Q:Exit→St→Prop}{st:St}(h:AWp cx c (thenK (fun s=>LWp cx c Q s) Q) st):LWp cx c Q st:=by
 intro code hc hm a w hr b k cs
 obtain⟨ex,a1,w1,⟨st1,hq1,hrel1⟩,harr⟩:=h code hc hm a w hr b (.inLoop code::k) cs
 cases ex with
 | normal=>
  obtain⟨e2,a2,w2,hq2,harr2⟩:=hq1 code hc hm a1 w1 hrel1 b k cs
  exact⟨e2,a2,w2,hq2,.of_steps (Steps.trans harr (.one step_inLoop)) harr2⟩
 | exit id=>exact⟨_,a1,w1,⟨st1,hq1,hrel1⟩,.pass (x:=.inLoop code) rfl (fun _ _=>.inl (by simp)) harr⟩
 | goto l=>exact⟨_,a1,w1,⟨st1,hq1,hrel1⟩,.pass (x:=.inLoop code) rfl (fun _ _=>.inl (by simp)) harr⟩
 | ret=>exact⟨_,a1,w1,⟨st1,hq1,hrel1⟩,.pass (x:=.inLoop code) rfl (fun _ _=>.inl (by simp)) harr⟩
 | panic ch=>exact⟨_,a1,w1,⟨st1,hq1,hrel1⟩,.pass (x:=.inLoop code) rfl (fun _ _=>.inl (by simp)) harr⟩
 | outgrown=>exact⟨_,a1,w1,⟨st1,hq1,hrel1⟩,.pass (x:=.inLoop code) rfl (fun _ _=>.inl (by simp)) harr⟩
theorem zgr{cx:Cx}{c:AC}{Q:Exit→St→Prop}{st:St}(h:LWp cx c Q st):AWp cx (.loop c) Q st:=by
 intro code hc hm a w hr
 have hcode:=hc
 cases code<;>simp only[resCode]at hc<;>try cases hc
 case loop c1=>
  obtain⟨x',hx,he⟩:=map_some hc
  cases he
  intro b k cs
  obtain⟨e,a',w',hq,harr⟩:=h c1 hx hm a w hr b k cs
  exact⟨e,a',w',hq,.of_steps (.one step_loop) harr⟩
 case region id ops draw=>
  rcases zah hcode with ⟨_,l,_,h1⟩ | ⟨_,l,_,⟨n,_,h1⟩ | ⟨_,h1⟩ | ⟨n,_,h1⟩ | h1⟩<;>cases h1
 all_goals simp[Option.bind_eq_some_iff]at hc
theorem LWp.mono{cx:Cx}{c:AC}{Q Q':Exit→St→Prop}{st:St}(h:LWp cx c Q st)(hq:∀ex st,Q ex st→Q' ex st):LWp cx c Q' st:=
 fun code hc hm a w hr b k cs=>let ⟨e,a',w',⟨st',h1,h2⟩,h3⟩:=h code hc hm a w hr b k cs;⟨e,a',w',⟨st',hq _ _ h1,h2⟩,h3⟩
def Is(e:Ex)(st':St):Exit→St→Prop:=fun ex s=>ex=e.out∧s=st'
theorem zct{ν:Nat→FuncId}{τ:Nat→Nat}(op:AOp):(mapOp ν τ op).writes=op.writes:=by
 cases op<;>first | rfl | (rename_i k xs;cases k<;>rfl)
theorem zvq(j:Nat):mname j≠"()":=by
 unfold mname
 grind
theorem zk5{T:Tbl}{k:Nat}{nm:String}{u:Nat}(h:(nm,u)∈methsT T k):nm≠"()":=by
 grind[methsT,methsA,zvq]
structure GoodO (P:Program) (ν:Nat→FuncId) (T:Tbl) (O:Orc):Prop where
 meth:∀k nm u,(nm,u)∈methsT T k→methOf P (tyNum T k) nm=some (ν u)
 fnn:∀k u,funT T k=some u→tyNum T k=ν u
 pure:∀u af xs r h,T u=some af→af.lent=none→O.call u xs []=some (r,h)→PCall P (ν u) xs (·=r)
 lent:∀u af ms xs hb r hb',T u=some af→af.lent=some ms→O.call u xs hb=some (r,hb')→ACall P (ν u) xs hb (hb.length+1) (fun r1 h1 c1=>r1=r∧h1=hb'∧c1=hb.length+hb'.length+2)
 loop:∀k c st e st',O.loop k c st=some (e,st')→∀cx:Cx,cx.P=P→cx.clk0=k+1→LWp cx (er ν (tyNum T) c) (Is e st') st
section
variable{P:Program}{ν:Nat→FuncId}{T:Tbl}{O:Orc}
theorem zhq(q:BId→Bool)(h:Heap)(b:BId):(h.filter fun p=>!q p.1).lookup b=if q b=true then none else h.lookup b:=by
 induction h with
 | nil=>simp
 | cons p h ih=>
  grind
theorem zco(hO:GoodO P ν T O){u:Nat}{xs:List AV}{d:Option Nat}{st st':St}{K:St→Prop}(h:callX O T u xs d st=some st')(hK:K st') :
  callP P (ν u) xs st.heap (fun r h=>K ⟨putE st.env d r,h,st.clk⟩)∨callB P (ν u) xs st.heap st.clk (fun r h c=>K ⟨putE st.env d r,h,c⟩):=by
 unfold callX at h
 split at h
 ·cases h
 rename_i af hT
 split at h
 ·rename_i hl
  obtain⟨ys,h1,h2⟩:=bind_some h
  obtain⟨r,h3,h4⟩:=bind_some h2
  refine .inl ⟨ys,(·=r.1),h1,(hO.pure u af _ r.1 r.2 hT hl h3).wk,?_⟩
  grind
 ·rename_i ms hl
  obtain⟨ys,h1,h2⟩:=bind_some h
  simp only at h2
  generalize hh1:shareIds (refsM ms xs) st.heap=h1' at *
  generalize hll:reach h1' 40 (rootsM ms xs) []=l at *
  generalize hhp:pickH h1' l=hp at *
  split at h2
  ·rename_i hc
   obtain⟨r,h3,h4⟩:=bind_some h2
   generalize hhb:(r.2.map fun p=>(outN l (d.getD 0) p.1,rlBox true (outN l (d.getD 0)) (outG hp st.clk) p.2))=hb' at *
   split at h4
   ·rename_i hchk
    cases h4
    simp only[Bool.and_eq_true,decide_eq_true_eq]at hchk
    obtain⟨⟨k2,k3⟩,k4⟩:=hchk
    have hmem:∀b bx,hp.lookup b=some bx→h1'.lookup b=some bx:=by
     intro b bx hb
     have:=za6 _ _ _ hb
     rw[←hhp]at this
     exact zeu this
    have hin:∀b,(hp.lookup b).isSome=true↔b∈l:=by
     intro b
     constructor
     ·intro hb
      obtain⟨bx,hb⟩:=Option.isSome_iff_exists.1 hb
      rw[←hc.1]
      exact List.mem_map.2 ⟨_,za6 _ _ _ hb,rfl⟩
     ·intro hb
      rw[←hc.1]at hb
      obtain⟨p,hp1,rfl⟩:=List.mem_map.1 hb
      obtain⟨x,hx⟩:=ze8 _ _ hp1
      grind
    have hlk:∀id,(h1'.filter fun p=>!(l.contains p.1 || (hb'.map (·.1)).contains p.1)).lookup id=if (l.contains id || (hb'.map (·.1)).contains id)=true then none else h1'.lookup id:=
     fun id=>zhq (fun b=>l.contains b || (hb'.map (·.1)).contains b) h1' id
    refine .inr ⟨ms,ys,h1,hp,h1'.filter (fun p=>!(l.contains p.1 || (hb'.map (·.1)).contains p.1)),_,⟨fun id bx hid=>?_,fun id bx hid=>?_⟩,fun id hid=>?_,ACall.rl hc.1 hc.2 (by rw[hhb];omega) (by
     have:=hO.lent u af ms _ _ r.1 r.2 hT hl h3
     rw[List.length_map]at this
     exact this),?_⟩
    ·grind
    ·grind
    ·rw[hlk,if_pos (by grind)]
    ·rintro r' h' c' hle ⟨rfl,rfl,rfl⟩
     rw[hhb]
     grind
   grind
  grind
theorem zss(hO:GoodO P ν T O){op:AOp}{d:Option Nat}{st st':St}{K:St→Prop}(h:opX O T op d st=some st')(hK:K st'):opK P (mapOp ν (tyNum T) op) d st K:=by
 cases op<;>simp only[opX]at h
 case call u args=>exact zco hO h hK
 case ifc k x=>
  cases h
  exact⟨_,rfl,hK⟩
 case inv nm k u r args=>
  split at h
  ·rename_i t y hy
   split at h
   ·rename_i hc
    obtain⟨rfl,hm⟩:=hc
    exact .inl ⟨if_neg (zk5 hm),_,y,_,hy,hO.meth k nm u hm,zco hO h hK⟩
   grind
  ·rename_i f x hy
   split at h
   ·rename_i hc
    obtain⟨rfl,rfl,hm⟩:=hc
    have hc:=zco hO h hK
    rw[←hO.fnn k u hm]at hc
    exact .inr (.inl ⟨rfl,_,x,hy,hc⟩)
   grind
  ·rename_i f id g z i o hy
   split at h
   ·rename_i hc
    obtain⟨rfl,rfl,hm⟩:=hc
    have hc:=zco hO h hK
    rw[←hO.fnn k u hm]at hc
    exact .inr (.inr ⟨rfl,_,id,g,z,i,o,hy,zxz hm,hc⟩)
   grind
  grind
 case xop k xs=>
  cases k
  all_goals
   obtain⟨q,h1,rfl⟩:=map_some h
   exact⟨q,h1,hK⟩
 all_goals
  obtain⟨q,h1,rfl⟩:=map_some h
  exact⟨q,h1,hK⟩
theorem zk6(hO:GoodO P ν T O){o:AO}{st st':St}{K:St→Prop}(h:stepX O T o st=some st')(hK:K st'):stepK P (mapAO ν (tyNum T) o) st K:=by
 grind[stepX,stepK,mapAO,zss,gX]
theorem zc1(hO:GoodO P ν T O):∀(l:List AO) (st st':St) (K:St→Prop),runX O T l st=some st'→K st'→runK P (l.map (mapAO ν (tyNum T))) st K
 | [],st,st',K,h,hK=>by cases h;exact hK
 | o::l,st,st',K,h,hK=>by
  obtain⟨s1,h1,h2⟩:=bind_some h
  exact zk6 hO h1 (zc1 hO l s1 st' K h2 hK)
theorem zk7(hO:GoodO P ν T O){op:AOp}{e:Env}{h:Heap}{older:List Heap}{x:AV}{K:AV→Prop}(hx:opD O T op e h older=some x)(hK:K x):opQ P (mapOp ν (tyNum T) op) e h older K:=by
 by_cases hap:∃z x0 y,op=.app z x0 y
 ·obtain⟨z,x0,y,rfl⟩:=hap
  by_cases hc:x0=.c (.sl [] .nl)
  ·subst hc
   exact⟨x,hx,hK⟩
  ·exfalso
   cases x0 with
   | t n=>simp[opD,stepQ]at hx
   | c a=>
    cases a
    case sl els f=>
     cases els with
     | nil=>cases f<;>first | exact hc rfl | simp[opD,stepQ]at hx
     | cons r l=>simp[opD,stepQ]at hx
    all_goals simp[opD,stepQ]at hx
 cases op<;>(try exact absurd ⟨_,_,_,rfl⟩ hap)<;>simp only[opD]at hx
 case call u args=>
  split at hx
  ·grind
  rename_i af hT
  split at hx
  ·rename_i hc
   simp only[Bool.and_eq_true]at hc
   obtain⟨r,h1,rfl⟩:=map_some hx
   exact⟨_,⟨zc7 hc.2,fun hf=>by grind⟩,r.1,(hO.pure u af _ r.1 r.2 hT (by simp_all) h1).wk,hK⟩
  grind
 case ifc k x=>
  cases hx
  exact⟨_,rfl,trivial,hK⟩
 case inv nm k u r args=>
  split at hx
  ·rename_i t y hy
   split at hx
   ·rename_i hc0
    obtain⟨rfl,hm⟩:=hc0
    split at hx
    ·grind
    rename_i af hT
    split at hx
    ·rename_i hc
     simp only[Bool.and_eq_true]at hc
     obtain⟨r,h1,rfl⟩:=map_some hx
     exact⟨if_neg (zk5 hm),_,y,_,hy,hO.meth k nm u hm,hc.2,r.1,(hO.pure u af _ r.1 r.2 hT (by simp_all) h1).wk,hK⟩
    grind
   grind
  grind
 case bsl z zs len ps=>
  split at hx
  ·rename_i hc
   obtain⟨q,h1,rfl⟩:=map_some hx
   exact⟨hc,q,h1,hK⟩
  grind
 case xop k xs=>
  simp_all
 all_goals
  obtain⟨q,h1,h2⟩:=bind_some hx
  split at h2
  ·rename_i hc
   cases h2
   refine⟨_,h1,?_,hK⟩
   rcases zpw hc with hc | hc
   ·simp only[mapOp]
    rw[hc]
    trivial
   ·simp only[mapOp]
    split
    ·trivial
    ·exact hc
  ·cases h2
theorem zoo{o:AO}{e:Env}{h':Heap}{x:AV}(hf:o.op.free=false)(hw:o.op.writes=false)(hg:o.guard=none∨∃t want,o.guard=some (t,want)∧e.get t=.b want)(hs:stepP o.op e.get h'=some x):QF P h' (mapAO ν (tyNum T) o) e.get x:=by
 have hq:QOp P (mapOp ν (tyNum T) o.op) e.get h' x:=by
  obtain⟨d,g,op⟩:=o
  by_cases hap:∃z x0 y,op=.app z x0 y
  ·obtain⟨z,x0,y,rfl⟩:=hap
   by_cases hc:x0=.c (.sl [] .nl)
   all_goals simp_all
  cases op<;>first | exact absurd ⟨_,_,_,rfl⟩ hap | exact hs | (cases hf;done) | (cases hw;done) | (cases hs)
 grind[QF,mapAO]
theorem zst{o:AO}{e:Env}{h':Heap}(hg:∃t want,o.guard=some (t,want)∧(e.get t=.b (!want)∨e.get t=.tup [])):QF P h' (mapAO ν (tyNum T) o) e.get (.tup []):=by
 grind[QF,mapAO]
theorem zop{o:AO}{e:Env}{h h':Heap}{x:AV}(hf:o.op.freeE e.get=true)(hq:QF P h (mapAO ν (tyNum T) o) e.get x):QF P h' (mapAO ν (tyNum T) o) e.get x:=
 zi6 (o:=mapAO ν (tyNum T) o) (by show (mapOp ν (tyNum T) o.op).freeE e.get=true;cases hop:o.op<;>rw[hop]at hf<;>first | rfl | exact hf | cases hf) h h' hq
theorem zoq{o:AO}{e:Env}{h:Heap}{older:List Heap}{r:AV×Bool}(hx:qX O T o e h older=some r)(hr:r.2=true)(hf:o.op.free=true):o.op.freeE e.get=true:=by
 cases hop:o.op
 case call u args=>
  have key:∀x,opD O T (.call u args) e h older=some x→(args.map (ev e.get)).all noRef=true:=by
   grind[opD]
  unfold qX at hx
  rw[hop]at hx
  split at hx
  ·obtain⟨x,h1,_⟩:=map_some hx;exact key x h1
  ·split at hx
   ·split at hx
    ·obtain⟨x,h1,_⟩:=map_some hx;exact key x h1
    grind
   all_goals grind
 all_goals (rw[hop]at hf;exact hf)
theorem zev(hO:GoodO P ν T O){o:AO}{e:Env}{h:Heap}{older:List Heap}{r:AV×Bool}{K:AV→Prop}(hx:qX O T o e h older=some r)(hK:K r.1) :
  qK P (mapAO ν (tyNum T) o) e h older K∧(r.2=true→(o.guard=none∨∃t want,o.guard=some (t,want)∧e.get t=.b want))∧(r.2=false→r.1=.tup []∧∃t want,o.guard=some (t,want)∧(e.get t=.b (!want)∨e.get t=.tup [])):=by
 unfold qX at hx
 unfold qK
 simp only[mapAO]
 cases hg:o.guard with
 | none=>
  rw[hg]at hx
  obtain⟨x,h1,rfl⟩:=map_some hx
  grind[zk7]
 | some p=>
  obtain⟨t,want⟩:=p
  rw[hg]at hx
  simp only at hx ⊢
  cases hx2:e.get t with
  | b v=>
   rw[hx2]at hx
   simp only at hx ⊢
   split at hx
   ·rename_i hv
    obtain⟨x,h1,rfl⟩:=map_some hx
    grind[zk7]
   ·rename_i hv
    rw[if_neg hv]
    cases hx
    refine⟨hK,?_,?_⟩
    ·grind
    intro _
    refine⟨rfl,t,want,rfl,.inl ?_⟩
    cases v<;>cases want<;>simp_all
  | tup l=>
   grind
  | _=>rw[hx2]at hx;simp at hx
theorem zc9{pend:PendX}{h:Heap}(hp:pendOk pend h=true):∀p∈pend,0<p.1→stepP p.2.1 p.2.2.1.get h=some p.2.2.2:=by
 grind[pendOk]
def PendRel(pendX:PendX)(pend:Pend):Prop:=∀q∈pend,(∀h',q.2 h')∨q.1=0∨∃p∈pendX,p.1=q.1∧∀h',stepP p.2.1 p.2.2.1.get h'=some p.2.2.2→q.2 h'
theorem PendRel.next{pendX:PendX}{pend:Pend}(h:PendRel pendX pend):PendRel (pendX.map fun p=>(p.1-1,p.2)) (pend.map fun p=>(p.1-1,p.2)):=by
 intro q hq
 obtain⟨q0,h1,rfl⟩:=List.mem_map.1 hq
 rcases h q0 h1 with h2 | h2 | ⟨p,h2,h3,h4⟩
 ·grind
 ·omega
 ·exact .inr (.inr ⟨_,List.mem_map.2 ⟨p,h2,rfl⟩,by omega,h4⟩)
theorem zcp(hO:GoodO P ν T O):∀(l:List DO) (e:Env) (h:Heap) (clk:Nat) (older:List Heap) (pendX:PendX) (pend:Pend) (st':St) (K:St→Prop),PendRel pendX pend→drawX O T l e h clk older pendX=some st'→K st'→drawL P (l.map (mapDO ν (tyNum T))) e h clk older pend K
 | [],e,h,clk,older,pendX,pend,st',K,hpr,hx,hK=>by cases hx;exact hK
 | o::l,e,h,clk,older,pendX,pend,st',K,hpr,hx,hK=>by
  simp only[drawX]at hx
  simp only[List.map_cons,drawL]
  have hw:(mapDO ν (tyNum T) o).ao.op.writes=o.ao.op.writes:=by
   exact zct _
  rw[hw]
  cases ho:o.ao.op.writes with
  | true=>
   rw[ho]at hx
   simp only at hx ⊢
   split at hx
   ·rename_i hg
    obtain⟨q,h1,h2⟩:=bind_some hx
    split at h2
    ·rename_i hpd
     have e1:mapOp ν (tyNum T) o.ao.op=o.ao.op:=by
      cases hop:o.ao.op<;>rw[hop]at ho<;>first | rfl | (simp[AOp.writes]at ho;done) | (rename_i k xs;cases k<;>first | rfl | simp_all)
     refine⟨by show o.ao.guard=none;simpa using hg,q,?_,fun p hp h0=>?_,zcp hO l _ _ _ _ _ _ st' K hpr.next h2 hK⟩
     ·show stepW (mapOp ν (tyNum T) o.ao.op) o.ao.dst e.get h clk=some q
      grind
     ·rcases hpr p hp with h3 | h3 | ⟨p',h3,h4,h5⟩
      ·grind
      ·omega
      ·exact h5 _ (zc9 hpd p' h3 (by omega))
    grind
   grind
  | false=>
   rw[ho]at hx
   simp only at hx ⊢
   split at hx
   rotate_left
   ·rename_i p hrow
    obtain⟨x,h1,h2⟩:=bind_some hx
    obtain⟨hg,args,hop,hfr,hold⟩:=zkx hrow
    unfold callR at h1
    split at h1
    ·grind
    rename_i af hT
    split at h1
    rotate_left
    ·grind
    obtain⟨r,h3,rfl⟩:=map_some h1
    have hcall:PCall P (ν p.1) p.2 (·=r.1):=(hO.pure p.1 af _ r.1 r.2 hT (by simp_all) h3).wk
    have hao:mapAO ν (tyNum T) o.ao=⟨o.ao.dst,none,.call (ν p.1) args⟩:=by unfold mapAO;rw[hg,hop];rfl
    show qK P (mapAO ν (tyNum T) o.ao) e h (older.take (older.length-o.lo)) _
    rw[hao]
    refine⟨p.2,⟨hfr,fun _=>hold⟩,r.1,hcall,?_⟩
    refine zcp hO l _ _ _ _ _ _ st' K ?_ h2 hK
    intro q hq
    rcases List.mem_cons.1 hq with rfl | hq
    ·by_cases hn:older.length<o.hi
     ·refine .inr (.inr ⟨(o.hi-older.length,o.ao.op,e,.tup p.2),?_,rfl,fun h' hs=>?_⟩)
      ·grind
      ·simp only[hop,stepP]at hs
       obtain⟨zs,h6,h7⟩:=map_some hs
       cases h7
       show QF P h' (mapAO ν (tyNum T) o.ao) e.get r.1
       rw[hao]
       exact⟨_,h6,hcall⟩
     ·exact .inr (.inl (by show o.hi-older.length=0;omega))
    ·rcases hpr q hq with h3 | h3 | ⟨p',h3,h4,h5⟩
     all_goals grind
   obtain⟨r,h1,h2⟩:=bind_some hx
   have key:=fun(K':AV→Prop) (hk:K' r.1)=>zev hO (K:=K') h1 hk
   refine(key _ ?_).1
   refine zcp hO l _ _ _ _ _ _ st' K ?_ h2 hK
   obtain⟨_,k1,k2⟩:=key (fun _=>True) trivial
   intro q hq
   rcases List.mem_cons.1 hq with rfl | hq
   ·cases hr2:r.2 with
    | false=>
     obtain⟨h3,h4⟩:=k2 hr2
     exact .inl fun h'=>by
      rw[h3]
      exact zst h4
    | true=>
     cases hf:o.ao.op.free with
     | true=>
      obtain⟨hqk,_⟩:=key (fun x=>x=r.1) rfl
      obtain⟨x,hq1,_,hxr⟩:=zpf (o:=mapAO ν (tyNum T) o.ao) (by rw[←ho];exact hw) hqk
      subst hxr
      exact .inl fun h'=>zop (zoq h1 hr2 hf) hq1
     | false=>
      by_cases hn:older.length<o.hi
      ·refine .inr (.inr ⟨(o.hi-older.length,o.ao.op,e,r.1),?_,rfl,fun h' hs=>zoo hf ho (k1 hr2) hs⟩)
       grind[pendAdd]
      ·exact .inr (.inl (by show o.hi-older.length=0;omega))
   ·rcases hpr q hq with h3 | h3 | ⟨p,h3,h4,h5⟩
    ·grind
    ·omega
    grind[pendAdd]
theorem zgs(hO:GoodO P ν T O)(tl:List AO):∀(l:List AO) (e:Env) (h:Heap) (clk:Nat) (st':St) (K:St→Prop),headX O T tl l e h clk=some st'→K st'→drawTL P (tl.map (mapAO ν (tyNum T))) (l.map (mapAO ν (tyNum T))) e h clk K
 | [],e,h,clk,st',K,hx,hK=>zc1 hO tl _ st' K hx hK
 | o::l,e,h,clk,st',K,hx,hK=>by
  obtain⟨r,h1,h2⟩:=bind_some hx
  exact(zev hO (K:=fun x=>drawTL P (tl.map (mapAO ν (tyNum T))) (l.map (mapAO ν (tyNum T))) (putE e o.dst x) h clk K) h1 (zgs hO tl l _ h clk st' K h2 hK)).1
theorem ze9{c0:Nat}{op:AOp}{e:Env}{l:List Nat}{ν:Nat→FuncId}{τ:Nat→Nat}(h:contB c0 op e l=true):∀g∈l,contG c0 (mapOp ν τ op) e.get g:=by
 intro g hg
 have h1:=List.all_eq_true.1 h g hg
 simp only[Bool.or_eq_true,decide_eq_true_eq,List.any_eq_true,List.contains_iff_mem]at h1
 rcases h1 with h1 | ⟨t,ht,h2⟩
 ·exact .inl h1
 ·refine .inr ⟨t,?_,h2⟩
  cases op<;>first | exact ht | (cases ht;done) | (rename_i k xs;cases k<;>first | exact ht | cases ht)
theorem zm0(hO:GoodO P ν T O){u:Nat}{xs:List AV}{d clk:Nat}{q:AV×Heap×Nat}(h:callM O T u xs d clk=some q):∃m,q.2.2=clk+m∧CallB P (ν u) xs clk q.1 q.2.1 m:=by
 unfold callM at h
 split at h
 ·cases h
 rename_i af hT
 split at h
 ·cases h
 rename_i ms hl
 split at h
 ·rename_i hn
  obtain⟨r,h3,h4⟩:=bind_some h
  simp only at h4
  split at h4
  ·rename_i hc
   cases h4
   obtain⟨hnd,hg1,hg2⟩:=hc
   refine⟨r.2.length+2,rfl,hn,?_,hnd,fun g hg=>?_,fun p hp g hg=>?_⟩
   ·have hA:=hO.lent u af ms _ _ r.1 r.2 hT hl h3
    have:=ACall.rl (ys:=xs) (hp:=[]) (clk:=clk) (d:=d) (ex:=af.exact) (l:=[]) (r0:=r.1) (hb':=r.2) (c':=0+r.2.length+2) rfl List.nodup_nil (by grind) (by simpa using hA)
    grind
   ·have:=List.all_eq_true.1 hg1 g hg
    grind
   ·obtain⟨hk,rr,hr,y,hy,hgy⟩:=hg
    have h5:=List.all_eq_true.1 hg2 p hp
    simp only[hk,if_true]at h5
    have h6:=List.all_eq_true.1 (List.all_eq_true.1 h5 rr hr) y hy
    have:=List.all_eq_true.1 h6 g hgy
    grind
  grind
 grind
theorem zig{op:AOp}{ua:Nat×List Opd}(h:op.lentN=some ua):op=.call ua.1 ua.2:=by
 cases op<;>simp only[AOp.lentN]at h<;>try cases h
 grind
theorem zew(q:BId→Bool):∀(h:Heap) (id:BId),(h.filter fun p=>q p.1).lookup id=if q id then h.lookup id else none
 | [],id=>by grind
 | (c,x)::h,id=>by
  have ih:=zew q h id
  grind
theorem zeb(ids:List BId)(h:Heap):HSub (dropIds ids h) h:=by
 intro id bx hb
 unfold dropIds at hb
 split at hb
 ·omega
 ·rw[zew fun b=>!ids.contains b]at hb
  grind
theorem zsu{z d g g' z' off n:Nat}{x' y:Opd}{ρ:Nat→AV}{x:AV}{hp:Heap}{c:Nat}{b:BId}{o:Box}(hv:ev ρ x'=.bs b g' z' off n)(h:stepW (.app z x' y) (some d) ρ [(b,o)] g=some (x,hp,c)) :
  ∃bx,hp=[(b,bx),(b,o)]∧c=g+1∧bx.gen=g:=by
 obtain⟨ys,_,h1⟩:=bind_some h
 rw[hv]at h1
 obtain⟨b0,_,h2⟩:=bind_some h1
 grind
def Inv(X h:Heap)(c0:Nat):Prop:=∀id o,X.lookup id=some o→h.lookup id=some o∨∃o',h.lookup id=some o'∧c0≤o'.gen
theorem zbv(hO:GoodO P ν T O)(tl:List AO)(h0 X:Heap)(c0:Nat)(hX0:HSub h0 X):∀(l:List AO) (e:Env) (h:Heap) (clk:Nat) (st':St) (K:St→Prop),HSub h0 h→c0≤clk→Inv X h c0→headM O T tl h0 c0 X l e h clk=some st'→K st'→drawMG P h0 c0 X (fun e h clk=>runK P (tl.map (mapAO ν (tyNum T))) ⟨e,h,clk⟩ K) (l.map (mapAO ν (tyNum T))) e h clk
 | [],e,h,clk,st',K,_,_,_,hx,hK=>zc1 hO tl _ st' K hx hK
 | o::l,e,h,clk,st',K,hsb,hck,hinv,hx,hK=>by
  simp only[headM]at hx
  simp only[List.map_cons,drawMG]
  have hmk:(mapAO ν (tyNum T) o).op.maker=o.op.maker:=by
   obtain⟨d,g,op⟩:=o
   cases op<;>first | rfl | (rename_i k xs;cases k<;>rfl)
  have hsE:(mapAO ν (tyNum T) o).op.isStore=o.op.isStore:=by
   obtain⟨d,g,op⟩:=o
   cases op<;>first | rfl | (rename_i k xs;cases k<;>rfl)
  have hadd:∀(B:Heap),(∀p∈B,h.lookup p.1=none)→HSub h0 (B++h):=by
   intro B hB id bx hid
   have h1:=hsb id bx hid
   grind
  have hiadd:∀(B:Heap),(∀p∈B,h.lookup p.1=none)→Inv X (B++h) c0:=by
   intro B hB id o ho
   have hn:B.lookup id=none:=by
    cases hl:B.lookup id with
    | none=>rfl
    | some y=>
     rcases hinv id o ho with h2 | ⟨o',h2,_⟩<;>(grind)
   rw[zcc,hn]
   simpa using hinv id o ho
  have hXn:∀id,h.lookup id=none→X.lookup id=none:=by
   intro id hid
   cases hl:X.lookup id with
   | none=>rfl
   | some o=>rcases hinv id o hl with h2 | ⟨o',h2,_⟩<;>(grind)
  have h0n:∀id,X.lookup id=none→h0.lookup id=none:=by
   intro id hid
   cases hl:h0.lookup id with
   | none=>rfl
   | some o=>have:=hX0 _ _ hl;grind
  rw[hmk,hsE]
  cases hm:o.op.maker with
  | true=>
   rw[hm]at hx
   simp only at hx ⊢
   split at hx
   ·rename_i d hg hd
    have hop:mapOp ν (tyNum T) o.op=o.op:=by
     obtain⟨d,g,op⟩:=o
     cases op<;>first | rfl | (cases hm;done) | (rename_i k xs;cases k<;>first | rfl | cases hm)
    split at hx
    rotate_left
    ·rename_i p how
     obtain⟨q,h1,h2⟩:=bind_some hx
     split at h2
     ·rename_i hc
      obtain⟨x,hp,c'⟩:=q
      obtain⟨b,bo⟩:=p
      obtain⟨z,x',y,g',z',off,n,hopa,hev⟩:∃z x' y g' z' off n,o.op=.app z x' y∧ev e.get x'=.bs b g' z' off n:=by
       unfold ownO at how
       split at how
       ·rename_i z x' y hoa
        cases hv:ev e.get x'<;>rw[hv]at how<;>simp only[ownA]at how<;>try (cases how;done)
        unfold ownL at how
        grind
       grind
      obtain⟨hb1,⟨ox,hb2⟩,hb3,hb4⟩:h0.lookup b=none∧(∃ox,X.lookup b=some ox)∧h.lookup b=some bo∧bo.gen<c0:=by
       rw[hopa]at how
       simp only[ownO,hev,ownA]at how
       unfold ownL at how
       grind
      have hbx:X.lookup b=some bo:=by
       rcases hinv b ox hb2 with h3 | ⟨o',h3,h4⟩
       all_goals grind
      obtain⟨bx,rfl,rfl,hbg⟩:=zsu hev (by rw[hopa]at h1;exact h1)
      simp only[List.take_succ_cons,List.take_zero]at h2 hc
      refine⟨hg,d,x,b,bx,some bo,hd,by rw[show (mapAO ν (tyNum T) o).op=o.op from hop];exact h1,hb3,hbx,hb1,fun o2 ho2=>by grind,fun g hgb=>?_,zbv hO tl h0 X c0 hX0 l _ _ _ st' K (fun id y hy=>?_) (by omega) (fun id o2 ho2=>?_) h2 hK⟩
      ·obtain⟨hk,r,hr,y,hy,hgy⟩:=hgb
       simp only[boxB,List.all_cons,List.all_nil,Bool.and_true,hk,if_true,List.all_eq_true]at hc
       exact ze9 (hc r hr y hy) g hgy
      ·have hne:(id == b)=false:=by
        grind
       rw[List.lookup_cons,hne]
       exact hsb id y hy
      ·rw[List.lookup_cons]
       by_cases hi:id=b
       ·grind
       ·have hne:(id == b)=false:=by grind
        rw[hne]
        exact hinv id o2 ho2
     grind
    obtain⟨q,h1,h2⟩:=bind_some hx
    split at h2
    ·rename_i hc
     simp only[Bool.and_eq_true]at hc
     obtain⟨x,hp,c'⟩:=q
     obtain⟨bx,rfl,rfl⟩:∃bx,hp=[(.loc d,bx)]∧c'=clk+1:=zmm hm h1
     have hln:h.lookup (.loc d)=none:=Option.isNone_iff_eq_none.1 hc.1
     have hB1:∀p∈[((.loc d:BId),bx)],h.lookup p.1=none:=fun p hp=>by grind
     refine⟨hg,d,x,.loc d,bx,none,hd,by rw[show (mapAO ν (tyNum T) o).op=o.op from hop];exact h1,hln,hXn _ hln,h0n _ (hXn _ hln),fun o2 ho2=>(by grind),fun g hgb=>?_,zbv hO tl h0 X c0 hX0 l _ _ _ st' K (hadd [(.loc d,bx)] hB1) (by omega) (hiadd _ hB1) h2 hK⟩
     obtain⟨hk,r,hr,y,hy,hgy⟩:=hgb
     have h3:=hc.2
     simp only[boxB,List.all_cons,List.all_nil,Bool.and_true,hk,if_true,List.all_eq_true]at h3
     exact ze9 (h3 r hr y hy) g hgy
    grind
   grind
  | false=>
   rw[hm]at hx
   cases hst:o.op.isStore with
   | true=>
    rw[hst]at hx
    simp only at hx ⊢
    split at hx
    ·rename_i hg hd
     obtain⟨q,h1,h2⟩:=bind_some hx
     split at h2
     ·rename_i hfr
      obtain⟨dd,gg,op⟩:=o
      subst hg hd
      cases op<;>try (cases hst;done)
      rename_i n x v
      obtain⟨h',e1,rfl⟩:=map_some h1
      refine⟨rfl,rfl,h',?_,?_,zbv hO tl h0 X c0 hX0 l e h' clk st' K ?_ hck ?_ h2 hK⟩
      ·show stepW (.store n x v) none e.get h clk=_
       simp only[stepW,e1]
       rfl
      rotate_left 2
      ·intro id bx hid
       simp only[freshS]at hfr
       unfold storeAV at e1
       split at e1
       ·rename_i id2 g z i o hx2
        rw[hx2]at hfr
        obtain⟨bx2,_,e2⟩:=bind_some e1
        obtain⟨r2,_,e3⟩:=bind_some e2
        obtain⟨cs,_,e4⟩:=bind_some e3
        split at e4
        ·cases e4
         have hne:(id == id2)=false:=by
          grind
         simp only[List.lookup_cons,hne]
         exact hinv id bx hid
        grind
       grind
      all_goals
       intro id bx hid
       have h3:=hsb id bx hid
       replace hid:=hX0 id bx hid
       simp only[freshS]at hfr
       unfold storeAV at e1
       split at e1
       ·rename_i id2 g z i o hx2
        rw[hx2]at hfr
        simp only[Option.isNone_iff_eq_none]at hfr
        obtain⟨bx2,_,e2⟩:=bind_some e1
        obtain⟨r2,_,e3⟩:=bind_some e2
        obtain⟨cs,_,e4⟩:=bind_some e3
        grind
       grind
     grind
    grind
   | false=>
   rw[hst]at hx
   cases hlN:o.op.lentN with
   | some ua=>
    rw[hlN]at hx
    simp only at hx
    split at hx
    ·rename_i d hg hd
     obtain⟨q,h1,h2⟩:=bind_some hx
     split at h2
     ·rename_i hfr
      obtain⟨m,hm2,hcb⟩:=zm0 hO h1
      obtain⟨dd,gg,op⟩:=o
      subst hg hd
      have hop:=zig hlN
      subst hop
      rw[hm2]at h2
      exact .inr ⟨rfl,ν ua.1,ua.2,d,q.1,q.2.1,m,rfl,rfl,hcb,fun p hp=>by simpa using List.all_eq_true.1 hfr p hp,zbv hO tl h0 X c0 hX0 l _ _ _ st' K (hadd _ fun p hp=>by simpa using List.all_eq_true.1 hfr p hp) (by omega) (hiadd _ fun p hp=>by simpa using List.all_eq_true.1 hfr p hp) h2 hK⟩
     grind
    grind
   | none=>
   rw[hlN]at hx
   obtain⟨x,h1,h2⟩:=bind_some hx
   split at h2
   ·rename_i hc
    refine .inl ?_
    exact(zev hO (K:=fun x=>(∀g∈gnA x,contG c0 (mapAO ν (tyNum T) o).op e.get g)∧drawMG P h0 c0 X (fun e h clk=>runK P (tl.map (mapAO ν (tyNum T))) ⟨e,h,clk⟩ K) (l.map (mapAO ν (tyNum T))) (putE e o.dst x) h clk) h1 ⟨ze9 hc,zbv hO tl h0 X c0 hX0 l _ h clk st' K hsb hck hinv h2 hK⟩).1
   grind
theorem zsv{O:Orc}{u:Nat}{xs:List AV}{d:Option Nat}{st s:St}(h:callX O T u xs d st=some s):∃r,s.env=putE st.env d r:=by
 unfold callX at h
 split at h
 ·cases h
 split at h
 ·obtain⟨ys,h1,h2⟩:=bind_some h
  obtain⟨r,h3,h4⟩:=bind_some h2
  cases h4
  exact⟨_,rfl⟩
 ·obtain⟨ys,h1,h2⟩:=bind_some h
  simp only at h2
  split at h2
  ·obtain⟨r,h3,h4⟩:=bind_some h2
   split at h4
   ·cases h4
    exact⟨_,rfl⟩
   ·cases h4
  ·cases h2
theorem zpy{f:FuncId}{xs:List AV}{h:Heap}{K K':AV→Heap→Prop}(hk:∀r h,K r h→K' r h)(hc:callP P f xs h K):callP P f xs h K':=by
 obtain⟨ys,post,h1,h2,h3⟩:=hc
 exact⟨ys,post,h1,h2,fun r hr=>hk _ _ (h3 r hr)⟩
theorem zpz{f:FuncId}{xs:List AV}{h:Heap}{clk:Nat}{K K':AV→Heap→Nat→Prop}(hk:∀r h c,K r h c→K' r h c)(hc:callB P f xs h clk K):callB P f xs h clk K':=by
 obtain⟨ms,ys,h1,hb,hr,post,h2,h3,h4,h5⟩:=hc
 refine⟨ms,ys,h1,hb,hr,post,h2,h3,h4,fun r hb' c' h6 h7=>?_⟩
 obtain⟨e1,e2,e3,e4⟩:=h5 r hb' c' h6 h7
 exact⟨e1,e2,e3,hk _ _ _ e4⟩
theorem zor{op:AOp}{e:Env}{h:Heap}{older:List Heap}{K K':AV→Prop}(hk:∀x,K x→K' x)(hc:opQ P op e h older K):opQ P op e h older K':=by
 by_cases hap:∃z x0 y,op=.app z x0 y
 ·obtain⟨z,x0,y,rfl⟩:=hap
  by_cases hx:x0=.c (.sl [] .nl)
  ·subst hx
   obtain⟨x,h1,h2⟩:=hc
   exact⟨x,h1,hk _ h2⟩
  ·cases x0 with
   | t n=>
    obtain⟨x,h1,h2,h3⟩:=hc
    exact⟨x,h1,h2,hk _ h3⟩
   | c a=>
    cases a
    case sl els f=>
     cases els with
     | nil=>
      cases f
      case nl=>exact absurd rfl hx
      all_goals
       obtain⟨x,h1,h2,h3⟩:=hc
       exact⟨x,h1,h2,hk _ h3⟩
     | cons r l=>
      obtain⟨x,h1,h2,h3⟩:=hc
      exact⟨x,h1,h2,hk _ h3⟩
    all_goals
     obtain⟨x,h1,h2,h3⟩:=hc
     exact⟨x,h1,h2,hk _ h3⟩
 cases op<;>(try exact absurd ⟨_,_,_,rfl⟩ hap)
 case call f args=>
  obtain⟨ys,h1,r,h3,h4⟩:=hc
  exact⟨ys,h1,r,h3,hk _ h4⟩
 case inv=>
  obtain⟨h0,t,y,f,h1,h2,h3,r,h4,h5⟩:=hc
  exact⟨h0,t,y,f,h1,h2,h3,r,h4,hk _ h5⟩
 case bsl=>
  obtain⟨h1,q,h2,h3⟩:=hc
  exact⟨h1,q,h2,hk _ h3⟩
 all_goals
  obtain⟨x,h1,h2,h3⟩:=hc
  exact⟨x,h1,h2,hk _ h3⟩
theorem zx3{o:AO}{e:Env}{h:Heap}{older:List Heap}{K K':AV→Prop}(hk:∀x,K x→K' x)(hc:qK P o e h older K):qK P o e h older K':=by
 unfold qK at hc ⊢
 split at hc
 ·exact zor hk hc
 ·split at hc
  ·split at hc
   ·rename_i hv
    simp only[hv,if_true]
    exact zor hk hc
   ·rename_i hv
    simp only[hv,if_false]
    exact hk _ hc
  ·exact hk _ hc
  ·exact hc
theorem zgt(hO:GoodO P ν T O){o:AO}{e:Env}{h:Heap}{clk:Nat}{s:St}(hx:callC O T o ⟨e,h,clk⟩=some s):∃x,CallD P (mapAO ν (tyNum T) o) e.get h clk x s.heap s.clk∧s.env=putE e o.dst x:=by
 obtain⟨dst,g,op⟩:=o
 unfold callC at hx
 simp only at hx
 split at hx
 ·rename_i d u args
  obtain⟨x,hx2⟩:=zsv hx
  have hc:=zco hO (K:=fun s'=>s'=s) hx rfl
  refine⟨x,⟨rfl,ν u,args,rfl,?_⟩,hx2⟩
  have key:∀r (h':Heap) (c:Nat),(⟨putE e (some d) r,h',c⟩:St)=s→r=x∧h'=s.heap∧c=s.clk:=by
   intro r h' c he
   subst he
   simp only[putE]at hx2
   simp_all
  rcases hc with hc | hc
  ·exact .inl (zpy (fun r h' hk=>key r h' clk hk) hc)
  ·exact .inr (zpz (fun r h' c hk=>key r h' c hk) hc)
 ·cases hx
def QS(P:Program)(h0 h1:Heap):List AO→Env→Env→Prop
 | [],e,e'=>e=e'
 | o::r,e,e'=>∃x,QF P h0 o e.get x∧QF P h1 o e.get x∧QS P h0 h1 r (putE e o.dst x) e'
theorem zjg(hO:GoodO P ν T O){o:DO}{e:Env}{h:Heap}{older:List Heap}{r:AV×Bool}(hw:o.ao.op.writes=false)(hx:qX O T o.ao e h older=some r) :
  QF P h (mapAO ν (tyNum T) o.ao) e.get r.1∧(∀h'∈older,QF P h' (mapAO ν (tyNum T) o.ao) e.get r.1)∧((∀h',QF P h' (mapAO ν (tyNum T) o.ao) e.get r.1)∨(r.2=true∧o.ao.op.free=false∧∀h',stepP o.ao.op e.get h'=some r.1→QF P h' (mapAO ν (tyNum T) o.ao) e.get r.1)):=by
 have hw':(mapAO ν (tyNum T) o.ao).op.writes=false:=by
  rw[←hw]
  exact zct _
 obtain⟨hqk,k1,k2⟩:=zev hO (K:=fun x=>x=r.1) hx rfl
 obtain⟨x,hq1,hq2,hxr⟩:=zpf hw' hqk
 subst hxr
 refine⟨hq1,fun h' hh=>?_,?_⟩
 ·cases hf:(mapAO ν (tyNum T) o.ao).op.freeE e.get with
  | true=>exact zi6 hf h _ hq1
  | false=>exact hq2 hf h' hh
 ·cases hr2:r.2 with
  | false=>
   obtain⟨h3,h4⟩:=k2 hr2
   exact .inl fun h'=>by
    rw[h3]
    exact zst h4
  | true=>
   cases hf:o.ao.op.free with
   | true=>exact .inl fun h'=>zop (zoq hx hr2 hf) hq1
   | false=>exact .inr ⟨rfl,rfl,fun h' hs=>zoo hf hw (k1 hr2) hs⟩
theorem zih(hO:GoodO P ν T O){K:Env→PendX→Option St}{h:Heap}:∀(l:List DO) (e:Env) (pend:PendX) (st':St),(∀o∈l,0<o.hi)→preC O T K h l e pend=some st' →
  ∃e' pend',K e' pend'=some st'∧∀h1,pendOk pend' h1=true→pendOk pend h1=true∧QS P h h1 (l.map fun o=>mapAO ν (tyNum T) o.ao) e e'
 | [],e,pend,st',_,hx=>⟨e,pend,hx,fun h1 hp=>⟨hp,rfl⟩⟩
 | o::l,e,pend,st',hhi,hx=>by
  unfold preC at hx
  split at hx
  ·cases hx
  rename_i hw
  obtain⟨r,h1,h2⟩:=bind_some hx
  obtain⟨e',pend',h3,h4⟩:=zih hO l _ _ st' (fun o ho=>hhi o (List.mem_cons_of_mem _ ho)) h2
  obtain⟨q1,_,q2⟩:=zjg hO hw h1
  refine⟨e',pend',h3,fun hp1 hp=>?_⟩
  obtain⟨h5,h6⟩:=h4 hp1 hp
  have hpn:=hhi o List.mem_cons_self
  have hold:pendOk pend hp1=true:=by
   classical
   unfold pendOk
   refine decide_eq_true fun p hp h0=>zc9 h5 p ?_ h0
   unfold pendAdd
   split
   ·exact List.mem_cons_of_mem _ hp
   ·exact hp
  refine⟨hold,r.1,q1,?_,h6⟩
  rcases q2 with q2 | ⟨e1,e2,q2⟩
  ·exact q2 hp1
  ·refine q2 hp1 (zc9 h5 (o.hi-0,o.ao.op,e,r.1) ?_ (by simpa using hpn))
   unfold pendAdd
   rw[e1,e2]
   simp[hpn]
theorem zk8{h0 h1:Heap}{c0 c1:Nat}{K:St→Prop}{tl:List AO}:∀(l r:List AO) (e e':Env),QS P h0 h1 l e e'→drawCL P tl h0 c0 h1 c1 K false r e'→drawCL P tl h0 c0 h1 c1 K false (l++r) e
 | [],r,e,e',hq,hk=>by cases hq;exact hk
 | o::l,r,e,e',⟨x,h2,h3,h4⟩,hk=>.inl ⟨x,h2,h3,zk8 l r _ e' h4 hk⟩
theorem zgu(hO:GoodO P ν T O){K:Env→Option St}{h0 h1:Heap}{c0 c1:Nat}{Q:St→Prop}{tl:List AO}{st':St}(hK:∀e,K e=some st'→runK P tl ⟨e,h1,c1⟩ Q):∀(l:List AO) (e:Env),postC O T K h0 h1 l e=some st' →
  drawCL P tl h0 c0 h1 c1 Q true (l.map (mapAO ν (tyNum T))) e
 | [],e,hx=>⟨rfl,hK e hx⟩
 | o::l,e,hx=>by
  unfold postC at hx
  split at hx
  ·cases hx
  rename_i hw
  obtain⟨r,e1,e2⟩:=bind_some hx
  obtain⟨q1,q2,_⟩:=zjg hO (o:=⟨o,0,0⟩) hw e1
  exact .inl ⟨r.1,q2 h0 List.mem_cons_self,q1,zgu hO hK l _ e2⟩
theorem zm1(hO:GoodO P ν T O){l1 l2 tl:List AO}{o:AO}{st st':St}{K:St→Prop}(hx:headC O T l1 o l2 tl st=some st')(hK:K st') :
  ∃h1 c1,drawCL P (tl.map (mapAO ν (tyNum T))) st.heap st.clk h1 c1 K false (l1.map (mapAO ν (tyNum T))++mapAO ν (tyNum T) o::l2.map (mapAO ν (tyNum T))) st.env:=by
 unfold headC at hx
 obtain⟨e',pend',h1,h2⟩:=zih hO _ _ _ st' (fun o ho=>by
  obtain⟨o',_,rfl⟩:=List.mem_map.1 ho
  exact Nat.one_pos) hx
 obtain⟨s,h3,h4⟩:=bind_some h1
 split at h4
 ·rename_i hpd
  obtain⟨x,hcd,henv⟩:=zgt hO h3
  obtain⟨_,hqs⟩:=h2 s.heap hpd
  refine⟨s.heap,s.clk,zk8 _ _ _ e' (by simpa[List.map_map,Function.comp_def]using hqs) (.inr ⟨rfl,x,hcd,?_⟩)⟩
  show drawCL P _ st.heap st.clk s.heap s.clk K true _ (putE e' o.dst x)
  rw[←henv]
  exact zgu hO (fun e he=>zc1 hO tl _ st' K he hK) l2 _ h4
 ·cases h4
theorem zdo{K:St→Prop}:∀(l:List DO) (e:Env) (h:Heap) (clk:Nat) (older:List Heap) (pend:Pend),drawL P l e h clk older pend K→drawNL P (l.map fun o=>(false,o)) e h clk older pend K
 | [],_,_,_,_,_,h=>h
 | o::l,e,h,clk,older,pend,hk=>by
  simp only[List.map_cons,drawNL]
  simp only[drawL]at hk
  cases hw:o.ao.op.writes with
  | true=>
   rw[hw]at hk
   obtain⟨h1,q,h2,h3,h4⟩:=hk
   exact⟨h1,q,h2,h3,zdo l _ _ _ _ _ h4⟩
  | false=>
   rw[hw]at hk
   simp only at hk ⊢
   exact zx3 (fun x hx=>zdo l _ _ _ _ _ hx) hk
theorem zii(hO:GoodO P ν T O){K:Env→PendX→Option St}{h:Heap}{clk:Nat}{rest:List (Bool×DO)}{Q:St→Prop}{st':St}(hK:∀e pendX pend,PendRel pendX pend→K e pendX=some st'→drawNL P rest e h clk [] pend Q) :
  ∀(l:List DO) (e:Env) (pendX:PendX) (pend:Pend),PendRel pendX pend→preC O T K h l e pendX=some st'→drawNL P ((l.map fun o=>(false,mapDO ν (tyNum T) o))++rest) e h clk [] pend Q
 | [],e,pendX,pend,hpr,hx=>hK e pendX pend hpr hx
 | o::l,e,pendX,pend,hpr,hx=>by
  unfold preC at hx
  split at hx
  ·cases hx
  rename_i hw
  have hw':(mapDO ν (tyNum T) o).ao.op.writes=false:=by
   rw[←hw]
   exact zct _
  obtain⟨r,h1,h2⟩:=bind_some hx
  simp only[List.map_cons,List.cons_append,drawNL,hw',List.take_nil]
  have hk2:drawNL P ((l.map fun o=>(false,mapDO ν (tyNum T) o))++rest) (putE e o.ao.dst r.1) h clk [] ((o.hi,fun h'=>QF P h' (mapAO ν (tyNum T) o.ao) e.get r.1)::pend) Q:=by
   refine zii hO hK l _ _ _ ?_ h2
   obtain⟨_,_,q2⟩:=zjg hO hw h1
   intro q hq
   rcases List.mem_cons.1 hq with rfl | hq
   ·rcases q2 with q2 | ⟨e1,e2,q2⟩
    ·exact .inl q2
    ·by_cases hn:0<o.hi
     ·refine .inr (.inr ⟨(o.hi-0,o.ao.op,e,r.1),?_,rfl,q2⟩)
      unfold pendAdd
      rw[e1,e2]
      simp[hn]
     ·exact .inr (.inl (by show o.hi=0;omega))
   ·rcases hpr q hq with h3 | h3 | ⟨p,h3,h4,h5⟩
    ·exact .inl h3
    ·exact .inr (.inl h3)
    ·refine .inr (.inr ⟨p,?_,h4,h5⟩)
     unfold pendAdd
     split
     ·exact List.mem_cons_of_mem _ h3
     ·exact h3
  exact(zev hO (K:=fun x=>drawNL P ((l.map fun o=>(false,mapDO ν (tyNum T) o))++rest) (putE e o.ao.dst x) h clk [] ((o.hi,fun h'=>QF P h' (mapAO ν (tyNum T) o.ao) e.get x)::pend) Q) h1 hk2).1
theorem zm2(hO:GoodO P ν T O){l1 l2:List DO}{o:AO}{st st':St}{K:St→Prop}(hx:headN O T l1 o l2 st=some st')(hK:K st') :
  drawNL P ((l1.map (mapDO ν (tyNum T))).map (fun o=>(false,adjD 0 o))++(true,⟨mapAO ν (tyNum T) o,0,0⟩)::(l2.map (mapDO ν (tyNum T))).map (fun o=>(false,adjD 0 o))) st.env st.heap st.clk [] [] K∧o.op.writes=false:=by
 unfold headN at hx
 split at hx
 ·cases hx
 rename_i hwn
 refine⟨?_,by simpa using hwn⟩
 have hadj:∀l:List DO,(l.map (mapDO ν (tyNum T))).map (fun o=>(false,adjD 0 o))=(l.map (adjD 0)).map (fun o=>(false,mapDO ν (tyNum T) o)):=fun l=>by
  simp only[List.map_map]
  rfl
 rw[hadj l1,hadj l2]
 refine zii hO (fun e pendX pend hpr h1=>?_) _ _ _ _ (fun q hq=>by cases hq) hx
 obtain⟨s,h3,h4⟩:=bind_some h1
 split at h4
 ·rename_i hpd
  obtain⟨x,hcd,henv⟩:=zgt hO h3
  refine⟨x,s.heap,s.clk,hcd,fun p hp h0=>?_,?_⟩
  ·rcases hpr p hp with h5 | h5 | ⟨p',h5,h6,h7⟩
   ·exact h5 _
   ·omega
   ·exact h7 _ (zc9 hpd p' h5 (by omega))
  ·show drawNL P _ (putE e o.dst x) s.heap s.clk [st.heap] _ K
   rw[←henv]
   have:=zcp hO (l2.map (adjD 0)) s.env s.heap s.clk [st.heap] _ (pend.map fun p=>(p.1-1,p.2)) st' K hpr.next h4 hK
   have h8:=zdo _ _ _ _ _ _ this
   rw[List.map_map]at h8
   exact h8
 ·cases h4
theorem zsw{cx:Cx}{c:AC}{st:St}{id:Nat}{o:Option (Ex×St)}{e:Ex}{st':St}(h0:∀e1 s1,o=some (e1,s1)→AWp cx c (Is e1 s1) st)
  (h:(o.bind fun r=>match r.1 with | .x j=>if j=id then some (Ex.n,r.2) else some r | _=>some r)=some (e,st')):AWp cx (.block id c) (Is e st') st:=by
 obtain⟨⟨e1,s1⟩,h1,h2⟩:=bind_some h
 refine zkh ((h0 e1 s1 h1).mono ?_)
 rintro ex s ⟨rfl,rfl⟩
 cases e1 with
 | n=>cases h2;exact⟨rfl,rfl⟩
 | x j=>
  simp only at h2
  show blockK id _ (.exit j) _
  simp only[blockK]
  split at h2
  ·rename_i hj;rw[if_pos hj];cases h2;exact⟨rfl,rfl⟩
  ·rename_i hj;rw[if_neg hj];cases h2;exact⟨rfl,rfl⟩
 | r=>cases h2;exact⟨rfl,rfl⟩
 | g l=>cases h2;exact⟨rfl,rfl⟩
theorem zvr{k:Nat}{cx:Cx}(hk:cx.clk0=k+1){c:AC}{st:St}{g:Gh}{o:Option (Ex×St)}{e:Ex}{st':St}(h0:∀e1 s1,o=some (e1,s1)→AWp cx c (Is e1 s1) st)
  (h:(o.bind fun r=>match r.1 with | .n=>(ghS k g r.2).map fun s=>(Ex.n,s) | _=>some r)=some (e,st')):AWp cx c (Is e st') st:=by
 obtain⟨⟨e1,s1⟩,h1,h2⟩:=bind_some h
 intro code hc hm a w hr
 refine wp_mono (h0 e1 s1 h1 code hc hm a w hr) ?_
 rintro ex a' w' ⟨s,⟨rfl,rfl⟩,hr'⟩
 cases e1 with
 | n=>
  obtain⟨s2,h3,h4⟩:=map_some h2
  cases h4
  exact⟨_,⟨rfl,rfl⟩,hr'.gh hk h3⟩
 | x id=>cases h2;exact⟨_,⟨rfl,rfl⟩,hr'⟩
 | r=>cases h2;exact⟨_,⟨rfl,rfl⟩,hr'⟩
 | g l=>cases h2;exact⟨_,⟨rfl,rfl⟩,hr'⟩
theorem zaz(hO:GoodO P ν T O){k:Nat}{cx:Cx}(hP:cx.P=P)(hk:cx.clk0=k+1):∀(c:AX) (st:St) (e:Ex) (st':St),evX O T k c st=some (e,st')→AWp cx (er ν (tyNum T) c) (Is e st') st
 | .skip,st,e,st',h=>by cases h;exact zvd ⟨rfl,rfl⟩
 | .reg l,st,e,st',h=>by
  obtain⟨s,h1,h2⟩:=map_some h
  cases h2
  refine zxt ?_
  rw[hP]
  exact zc1 hO l st st' _ h1 ⟨rfl,rfl⟩
 | .draw l,st,e,st',h=>by
  obtain⟨s,h1,h2⟩:=map_some h
  cases h2
  refine zve ?_
  rw[hP]
  exact zcp hO l _ _ _ _ _ _ st' _ (fun q hq=>by simp at hq) h1 ⟨rfl,rfl⟩
 | .drawT hd tl,st,e,st',h=>by
  obtain⟨s,h1,h2⟩:=map_some h
  cases h2
  refine zrt ?_
  rw[hP]
  exact zgs hO tl hd _ _ _ st' _ h1 ⟨rfl,rfl⟩
 | .drawM hd tl,st,e,st',h=>by
  obtain⟨s,h1,h2⟩:=map_some h
  cases h2
  refine zru (zeb (consD hd st.env) st.heap) ?_
  rw[hP]
  exact zbv hO tl _ _ _ (zeb _ _) hd _ _ _ st' _ (zeb _ _) (Nat.le_refl _) (fun _ _ h=>.inl h) h1 ⟨rfl,rfl⟩
 | .drawC l1 o l2 tl,st,e,st',h=>by
  obtain⟨s,h1,h2⟩:=map_some h
  cases h2
  obtain⟨hp1,c1,h3⟩:=zm1 hO (K:=fun s=>Is .n st' .normal s) h1 ⟨rfl,rfl⟩
  rw[←hP]at h3
  exact zsg h3
 | .drawN l1 o l2,st,e,st',h=>by
  obtain⟨s,h1,h2⟩:=map_some h
  cases h2
  obtain⟨h3,h4⟩:=zm2 hO (K:=fun s=>Is .n st' .normal s) h1 ⟨rfl,rfl⟩
  rw[←hP]at h3
  refine zsh ?_ h3
  show (mapOp ν (tyNum T) o.op).writes=false
  rw[zct]
  exact h4
 | .bad,st,e,st',h=>by cases h
 | .prim f,st,e,st',h=>by cases h
 | .seq a b,st,e,st',h=>by
  obtain⟨⟨e1,s1⟩,h1,h2⟩:=bind_some h
  refine zxu ((zaz hO hP hk a st e1 s1 h1).mono ?_)
  rintro ex s ⟨rfl,rfl⟩
  cases e1 with
  | n=>exact zaz hO hP hk b _ e st' h2
  | x id=>cases h2;exact⟨rfl,rfl⟩
  | r=>cases h2;exact⟨rfl,rfl⟩
  | g l=>cases h2;exact⟨rfl,rfl⟩
 | .cond c x y,st,e,st',h=>by
  simp only[evX]at h
  split at h
  ·rename_i t ht
   refine zvf ht (fun h1=>?_) (fun h1=>?_)
   ·subst h1;exact zaz hO hP hk x st e st' (by simpa using h)
   ·subst h1;exact zaz hO hP hk y st e st' (by simpa using h)
  ·cases h
 | .block id c,st,e,st',h=>by
  obtain⟨⟨e1,s1⟩,h1,h2⟩:=bind_some h
  refine zkh ((zaz hO hP hk c st e1 s1 h1).mono ?_)
  rintro ex s ⟨rfl,rfl⟩
  cases e1 with
  | n=>cases h2;exact⟨rfl,rfl⟩
  | x j=>
   simp only at h2
   show blockK id _ (.exit j) _
   simp only[blockK]
   split at h2
   ·rename_i hj;rw[if_pos hj];cases h2;exact⟨rfl,rfl⟩
   ·rename_i hj;rw[if_neg hj];cases h2;exact⟨rfl,rfl⟩
  | r=>cases h2;exact⟨rfl,rfl⟩
  | g l=>cases h2;exact⟨rfl,rfl⟩
 | .loop c,st,e,st',h=>zgr (hO.loop k c st e st' (by simpa only[evX]using h) cx hP hk)
 | .exit id,st,e,st',h=>by cases h;exact zvg ⟨rfl,rfl⟩
 | .ret,st,e,st',h=>by cases h;exact zxv ⟨rfl,rfl⟩
 | .note c g,st,e,st',h=>by
  obtain⟨⟨e1,s1⟩,h1,h2⟩:=bind_some h
  intro code hc hm a w hr
  refine wp_mono (zaz hO hP hk c st e1 s1 h1 code hc hm a w hr) ?_
  rintro ex a' w' ⟨s,⟨rfl,rfl⟩,hr'⟩
  cases e1 with
  | n=>
   obtain⟨s2,h3,h4⟩:=map_some h2
   cases h4
   exact⟨_,⟨rfl,rfl⟩,hr'.gh hk h3⟩
  | x id=>cases h2;exact⟨_,⟨rfl,rfl⟩,hr'⟩
  | r=>cases h2;exact⟨_,⟨rfl,rfl⟩,hr'⟩
  | g l=>cases h2;exact⟨_,⟨rfl,rfl⟩,hr'⟩
 | .lp id g c g2,st,e,st',h=>by
  obtain⟨s,h1,h2⟩:=bind_some h
  have h3:((O.loop k c s).bind fun r=>match r.1 with | .x j=>if j=id then some (Ex.n,r.2) else some r | _=>some r).bind (fun r=>match r.1 with | .n=>(ghS k g2 r.2).map fun s=>(Ex.n,s) | _=>some r)=some (e,st'):=by
   rw[←h2]
   cases O.loop k c s with
   | none=>rfl
   | some r=>
    obtain⟨e1,s1⟩:=r
    cases e1 with
    | n=>rfl
    | r=>rfl
    | g l=>rfl
    | x j=>
     simp only[Option.bind_some]
     split<;>rfl
  have h4:AWp cx (.block id (.loop (er ν (tyNum T) c))) (Is e st') s:=
   zvr hk (fun e1 s1 he=>zsw (fun e2 s2 he2=>zgr (hO.loop k c s e2 s2 he2 cx hP hk)) he) h3
  intro code hc hm a w hr
  exact h4 code hc hm a w (hr.gh hk h1)
 | .scope c,st,e,st',h=>by
  obtain⟨⟨e1,s1⟩,h1,h2⟩:=bind_some h
  refine zrv ((zaz hO hP hk c st e1 s1 h1).mono ?_)
  rintro ex s ⟨rfl,rfl⟩
  cases e1 with
  | g l=>cases h2
  | n=>cases h2;exact⟨fun l he=>(by cases he),rfl,rfl⟩
  | x j=>cases h2;exact⟨fun l he=>(by cases he),rfl,rfl⟩
  | r=>cases h2;exact⟨fun l he=>(by cases he),rfl,rfl⟩
 | .label l,st,e,st',h=>by cases h;exact zrw ⟨rfl,rfl⟩
 | .goto l,st,e,st',h=>by cases h;exact zvh ⟨rfl,rfl⟩
 | .gsc l c r,st,e,st',h=>by
  have key:∀n o,gscX (fun s=>evX O T k r s) l n o=some (e,st')→∃e1 s1,o=some (e1,s1)∧GQ cx l (er ν (tyNum T) r) (Is e st') n e1.out s1:=by
   intro n
   induction n with
   | zero=>intro o h;cases h
   | succ n ih=>
    intro o h
    simp only[gscX]at h
    obtain⟨⟨e1,s1⟩,h1,h2⟩:=bind_some h
    refine⟨e1,s1,h1,?_⟩
    cases e1 with
    | g j=>
     simp only at h2
     split at h2
     ·rename_i hj
      obtain⟨e2,s2,h3,h4⟩:=ih _ h2
      refine⟨hj,(zaz hO hP hk r s1 e2 s2 h3).mono ?_⟩
      rintro ex s ⟨rfl,rfl⟩
      exact h4
     ·cases h2
    | n=>cases h2;exact⟨rfl,rfl⟩
    | x j=>cases h2;exact⟨rfl,rfl⟩
    | r=>cases h2;exact⟨rfl,rfl⟩
  obtain⟨e1,s1,h1,h2⟩:=key _ _ h
  refine zxw 100 ((zaz hO hP hk c st e1 s1 h1).mono ?_)
  rintro ex s ⟨rfl,rfl⟩
  exact h2
 | .pre g c,st,e,st',h=>by
  obtain⟨s,h1,h2⟩:=bind_some h
  intro code hc hm a w hr
  exact zaz hO hP hk c s e st' h2 code hc hm a w (hr.gh hk h1)
theorem zp0{f:FuncId}{xs:List AV}{hb:Heap}{k:Nat}{ex:Bool}{x:AV}{hh:Heap}{cc:Nat}(h:ACall P f xs hb (k+1) (fun r h c=>r=x∧h=hh∧c=cc)) :
  ACall P f xs hb (k+1) (fun r h c=>r=(normS ex k [0] ⟨[(0,x)],hh,cc⟩).env.get 0∧h=(normS ex k [0] ⟨[(0,x)],hh,cc⟩).heap∧c=(normS ex k [0] ⟨[(0,x)],hh,cc⟩).clk):=by
 refine⟨h.1,fun w S M cargs hl hC hheap hS hM=>(h.2 w S M cargs hl hC hheap hS hM).mono ?_⟩
 intro e w' ⟨v,r,h',S',M',clk',he,⟨h1,h2,h3⟩,hCr,hw⟩
 subst h1
 subst h2
 subst h3
 have hrel:Rel ⟨P,1,w,S,M,k+1⟩ ⟨[(0,r)],h',clk'⟩ { tmps:=#[v],defers:=[] } w':=by
  refine⟨S',M',rfl,rfl,fun t=>?_,hw 1⟩
  cases t with
  | zero=>simp_all
  | succ t=>exact .p (.dead _)
 obtain⟨S2,M2,hr2⟩:=hrel.norm (ex:=ex) (k:=k) (live:=[0]) rfl
 refine⟨v,_,_,S2,M2,_,he,⟨rfl,rfl,rfl⟩,by simpa using hr2.env 0,fun nt=>?_⟩
 have:=hr2.wr
 exact⟨this.heap,this.ext,this.fr,this.Snew,this.Slt,this.Mnew⟩
theorem PCall.res{f:FuncId}{xs:List AV}{y:AV}{ex:Bool}(h:PCall P f xs (·=y)):PCall P f xs (·=wkIf ex y):=
 ⟨h.1,fun w S cargs hl hC hS=>(h.2 w S cargs hl hC hS).mono fun _ _ ⟨v,r,he,hr,hb,hC⟩=>⟨v,_,he,rfl,hb,by rw[←hr];exact hC.wkIf ex⟩⟩
def TOk(P:Program)(ν:Nat→FuncId)(T:Tbl):Prop:=∀u af,T u=some af →
 match af.body.isPrim with
 | some f=>∀xs r,f xs=some r→PCall P (ν u) xs (·=r)
 | none=>if af.body.isBad=true then (∀m∈methsA af,methOf P af.np m.1=some (ν m.2))∧(af.res.isEmpty=true→af.np=ν af.nt) else resFn P (ν u)=some (erF ν (tyNum T) af)
theorem GoodO.next(hT:TOk P ν T)(hm:P.follows .mixedOrders=true)(hO:GoodO P ν T O):GoodO P ν T (nextO T O):=by
 have bad_no:∀(af:AFx) (k:Nat) (s:St) (r:Ex×St),af.body.isBad=true→evX O T k af.body s=some r→False:=by
  intro af k s r hb he
  cases hbd:af.body<;>rw[hbd]at hb he<;>first | (cases hb;done) | (simp only[evX]at he;grind)
 refine⟨hO.meth,hO.fnn,fun u af xs r h hu hl hc=>?_,fun u af ms xs hb r hb' hu hl hc=>?_,fun k c st e st' h cx hP hk=>?_⟩
 ·have hTu:=hT u af hu
  simp only[nextO,hu]at hc
  split at hc
  ·rename_i f hf
   split at hc
   ·obtain⟨x,h1,h2⟩:=map_some hc
    grind
   grind
  rename_i hf
  rw[hf]at hTu
  split at hc
  ·rename_i hcond
   obtain⟨⟨e,s⟩,h1,h2⟩:=bind_some hc
   rw[if_neg (fun hb=>bad_no af _ _ _ hb h1)]at hTu
   have key:∃x y,(e=.n∨e=.r)∧resAV s af.res=some x∧frz s.heap x=some y∧r=wkIf af.exact y:=by
    unfold endX at h2
    cases e with
    | x id=>grind
    | g id=>grind
    | n=>
     obtain⟨x,h3,h4⟩:=bind_some h2
     rw[hl]at h4
     obtain⟨y,h5,h6⟩:=map_some h4
     grind
    | r=>
     obtain⟨x,h3,h4⟩:=bind_some h2
     rw[hl]at h4
     obtain⟨y,h5,h6⟩:=map_some h4
     grind
   obtain⟨x,y,he,h3,h5,rfl⟩:=key
   refine PCall.res (zrx hTu hm hcond.1 fun cx hP hnt hclk=>((zaz hO hP hclk af.body _ e s h1).mono ?_))
   rintro ex s' ⟨rfl,rfl⟩
   exact⟨by rcases he with rfl | rfl;exact .inl rfl;exact .inr rfl,x,y,h3,h5,rfl⟩
  grind
 ·have hTu:=hT u af hu
  simp only[nextO,hu]at hc
  split at hc
  ·grind
  rename_i hf
  rw[hf]at hTu
  split at hc
  ·rename_i hcond
   obtain⟨⟨e,s⟩,h1,h2⟩:=bind_some hc
   rw[if_neg (fun hb=>bad_no af _ _ _ hb h1)]at hTu
   have key:∃x,(e=.n∨e=.r)∧resAV s af.res=some x∧r=(normS af.exact hb.length [0] ⟨[(0,x)],s.heap,s.clk⟩).env.get 0∧hb'=(normS af.exact hb.length [0] ⟨[(0,x)],s.heap,s.clk⟩).heap:=by
    unfold endX at h2
    cases e with
    | x id=>grind
    | g id=>grind
    | n=>
     obtain⟨x,h3,h4⟩:=bind_some h2
     grind
    | r=>
     obtain⟨x,h3,h4⟩:=bind_some h2
     grind
   obtain⟨x,he,h3,rfl,rfl⟩:=key
   have hA:ACall P (ν u) xs hb (hb.length+1) (fun r h c=>r=x∧h=s.heap∧c=s.clk):=by
    refine zki hTu hm hcond.1 fun cx hP hnt hclk=>((zaz hO hP hclk af.body _ e s h1).mono ?_)
    rintro ex s' ⟨rfl,rfl⟩
    exact⟨by rcases he with rfl | rfl;exact .inl rfl;exact .inr rfl,x,h3,rfl,rfl,rfl⟩
   have hB:=zp0 (ex:=af.exact) hA
   refine⟨hB.1,fun w S M cargs hl hC hheap hS hM=>(hB.2 w S M cargs hl hC hheap hS hM).mono ?_⟩
   intro e w' ⟨v,r,h',S',M',clk',he,⟨a1,a2,a3⟩,hCr,hw⟩
   refine⟨v,r,h',S',M',clk',he,⟨a1,a2,?_⟩,hCr,hw⟩
   rw[a3]
   simp only[normS,List.length_map]
  grind
 ·obtain⟨⟨e1,s1⟩,h1,h2⟩:=bind_some h
  refine zvp ((zaz hO hP hk c st e1 s1 h1).mono ?_)
  rintro ex s ⟨rfl,rfl⟩
  cases e1 with
  | n=>exact hO.loop k c _ e st' h2 cx hP hk
  | x id=>cases h2;exact⟨rfl,rfl⟩
  | r=>cases h2;exact⟨rfl,rfl⟩
  | g l=>cases h2;exact⟨rfl,rfl⟩
theorem z86(hT:TOk P ν T):∀k nm u,(nm,u)∈methsT T k→methOf P (tyNum T k) nm=some (ν u):=by
 intro k nm u hm
 unfold methsT at hm
 unfold tyNum
 cases hT':T (1000000+k) with
 | none=>grind
 | some af=>
  rw[hT']at hm
  simp only at hm ⊢
  split at hm
  ·rename_i hb
   have:=hT _ af hT'
   have hp:af.body.isPrim=none:=by cases hbd:af.body<;>rw[hbd]at hb<;>first | rfl | cases hb
   grind
  grind
theorem fnn0(hT:TOk P ν T):∀k u,funT T k=some u→tyNum T k=ν u:=by
 intro k u hm
 unfold funT at hm
 unfold tyNum
 cases hT':T (1000000+k) with
 | none=>grind
 | some af=>
  rw[hT']at hm
  simp only at hm ⊢
  split at hm
  ·rename_i hb
   simp only[Bool.and_eq_true]at hb
   have:=hT _ af hT'
   have hp:af.body.isPrim=none:=by cases hbd:af.body<;>rw[hbd]at hb<;>first | rfl | cases hb.1.1
   grind
  grind
theorem GoodO.orcN(hT:TOk P ν T)(hm:P.follows .mixedOrders=true):∀n,GoodO P ν T (orcN T n)
 | 0=>⟨z86 hT,fnn0 hT,fun _ _ _ _ _ _ _ h=>(by cases h),fun _ _ _ _ _ _ _ _ _ h=>(by cases h),fun _ _ _ _ _ h=>(by cases h)⟩
 | n+1=>(GoodO.orcN hT hm n).next hT hm
end
end
section
open Go.RowKit
inductive Qy where
 | call (u:Nat) (xs:List AV) (hb:Heap) (r:AV×Heap)
 | loop (k:Nat) (c:AX) (st:St) (r:Ex×St)
def Holds(O:Orc):Qy→Prop
 | .call u xs hb r=>O.call u xs hb=some r
 | .loop k c st r=>O.loop k c st=some r
def Fin1{α:Type}(f:Orc→Option α):Prop:=∀O r,f O=some r→∃L:List Qy,(∀q∈L,Holds O q)∧∀O',(∀q∈L,Holds O' q)→f O'=some r
theorem Fin1.const{α:Type}(a:Option α):Fin1 fun _=>a:=fun _ _ h=>⟨[],by simp,fun _ _=>h⟩
theorem Fin1.bind{α β:Type}{g:Orc→Option α}{h:Orc→α→Option β}(hg:Fin1 g)(hh:∀x,Fin1 fun O=>h O x):Fin1 fun O=>(g O).bind (h O):=by
 intro O r he
 obtain⟨x,h1,h2⟩:=bind_some he
 obtain⟨L1,a1,a2⟩:=hg O x h1
 obtain⟨L2,b1,b2⟩:=hh x O r h2
 refine⟨L1++L2,fun q hq=>?_,fun O' hO'=>?_⟩
 all_goals grind
theorem Fin1.map{α β:Type}{g:Orc→Option α}(hg:Fin1 g)(f:α→β):Fin1 fun O=>(g O).map f:=by
 have:=hg.bind (h:=fun _ x=>some (f x)) fun x=>.const _
 grind[Option.map_eq_bind,Function.comp_def]
theorem Fin1.call(u:Nat)(xs:List AV)(hb:Heap):Fin1 fun O=>O.call u xs hb:=fun O r h=>⟨[.call u xs hb r],by simpa[Holds]using h,fun O' h'=>by simpa[Holds]using h'⟩
theorem Fin1.loop(k:Nat)(c:AX)(st:St):Fin1 fun O=>O.loop k c st:=fun O r h=>⟨[.loop k c st r],by simpa[Holds]using h,fun O' h'=>by simpa[Holds]using h'⟩
section
variable(T:Tbl)
theorem zgv(u:Nat)(xs:List AV)(d:Option Nat)(st:St):Fin1 fun O=>callX O T u xs d st:=by
 unfold callX
 split
 ·exact .const _
 ·split
  ·refine Fin1.bind (.const _) fun ys=>Fin1.bind (.call _ _ _) fun r=>.const _
  ·refine Fin1.bind (.const _) fun ys=>?_
   simp only
   split
   ·refine Fin1.bind (.call _ _ _) fun r=>.const _
   ·exact .const _
theorem zsx(op:AOp)(d:Option Nat)(st:St):Fin1 fun O=>opX O T op d st:=by
 by_cases hx:∃k xs,op=.xop k xs
 ·obtain⟨k,xs,rfl⟩:=hx
  cases k<;>exact .const _
 cases op<;>(try exact absurd ⟨_,_,rfl⟩ hx)<;>simp only[opX]<;>first | exact .const _ | exact zgv T _ _ _ _ | (split<;>first | exact .const _ | (split<;>first | exact .const _ | exact zgv T _ _ _ _))
theorem zsy(o:AO)(st:St):Fin1 fun O=>stepX O T o st:=by
 unfold stepX
 split
 ·exact zsx T _ _ _
 ·unfold gX
  split
  ·split
   ·exact zsx T _ _ _
   ·exact .const _
  ·exact .const _
  ·exact .const _
theorem zex:∀(l:List AO) (st:St),Fin1 fun O=>runX O T l st
 | [],st=>.const _
 | o::l,st=>by
  exact(zsy T o st).bind fun s=>zex l s
theorem zsz(op:AOp)(e:Env)(h:Heap)(older:List Heap):Fin1 fun O=>opD O T op e h older:=by
 by_cases hap:∃z x0 y,op=.app z x0 y
 ·obtain⟨z,x0,y,rfl⟩:=hap
  by_cases hc:x0=.c (.sl [] .nl)
  ·subst hc;exact .const _
  ·simp only[zmy hc];exact .const _
 cases op<;>(try exact absurd ⟨_,_,_,rfl⟩ hap)<;>simp only[opD]<;>try exact .const _
 case call=>
  split
  ·exact .const _
  ·split
   ·exact(Fin1.call _ _ _).map _
   ·exact .const _
 case inv=>
  split
  ·split
   ·split
    ·exact .const _
    ·split
     ·exact(Fin1.call _ _ _).map _
     ·exact .const _
   ·exact .const _
  ·exact .const _
theorem zk9(o:AO)(e:Env)(h:Heap)(older:List Heap):Fin1 fun O=>qX O T o e h older:=by
 unfold qX
 split
 ·exact(zsz T _ _ _ _).map _
 ·split
  ·split
   ·exact(zsz T _ _ _ _).map _
   ·exact .const _
  ·exact .const _
  ·exact .const _
theorem zs0(u:Nat)(ys:List AV):Fin1 fun O=>callR O T u ys:=by
 unfold callR
 split
 ·exact .const _
 ·split
  ·exact(Fin1.call _ _ _).map _
  ·exact .const _
theorem zdp:∀(l:List DO) (e:Env) (h:Heap) (clk:Nat) (older:List Heap) (pend:PendX),Fin1 fun O=>drawX O T l e h clk older pend
 | [],e,h,clk,older,pend=>.const _
 | o::l,e,h,clk,older,pend=>by
  simp only[drawX]
  split
  ·split
   ·refine Fin1.bind (.const _) fun q=>?_
    split
    ·exact zdp l _ _ _ _ _
    ·exact .const _
   ·exact .const _
  ·split
   ·exact(zk9 T _ _ _ _).bind fun x=>zdp l _ _ _ _ _
   ·exact(zs0 T _ _).bind fun x=>zdp l _ _ _ _ _
theorem zla(tl:List AO):∀(l:List AO) (e:Env) (h:Heap) (clk:Nat),Fin1 fun O=>headX O T tl l e h clk
 | [],e,h,clk=>zex T tl _
 | o::l,e,h,clk=>by
  exact(zk9 T _ _ _ _).bind fun x=>zla tl l _ _ _
theorem zs1(u:Nat)(xs:List AV)(d clk:Nat):Fin1 fun O=>callM O T u xs d clk:=by
 unfold callM
 split
 ·exact .const _
 ·split
  ·exact .const _
  ·split
   ·refine(Fin1.call _ _ _).bind fun r=>?_
    exact .const _
   ·exact .const _
theorem zdq(tl:List AO)(h0:Heap)(c0:Nat)(X:Heap):∀(l:List AO) (e:Env) (h:Heap) (clk:Nat),Fin1 fun O=>headM O T tl h0 c0 X l e h clk
 | [],e,h,clk=>zex T tl _
 | o::l,e,h,clk=>by
  simp only[headM]
  split
  ·split
   ·split
    all_goals
     refine Fin1.bind (.const _) fun q=>?_
     split
     ·exact zdq tl h0 c0 X l _ _ _
     ·exact .const _
   ·exact .const _
  ·split
   ·split
    ·refine Fin1.bind (.const _) fun q=>?_
     split
     ·exact zdq tl h0 c0 X l _ _ _
     ·exact .const _
    ·exact .const _
   split
   ·split
    ·refine(zs1 T _ _ _ _).bind fun q=>?_
     split
     ·exact zdq tl h0 c0 X l _ _ _
     ·exact .const _
    ·exact .const _
   ·refine(zk9 T _ _ _ _).bind fun x=>?_
    split
    ·exact zdq tl h0 c0 X l _ _ _
    ·exact .const _
theorem zjh{K:Orc→Env→PendX→Option St}(hK:∀e pend,Fin1 fun O=>K O e pend)(h:Heap):∀(l:List DO) (e:Env) (pend:PendX),Fin1 fun O=>preC O T (K O) h l e pend
 | [],e,pend=>hK e pend
 | o::l,e,pend=>by
  simp only[preC]
  split
  ·exact .const _
  ·exact(zk9 T _ _ _ _).bind fun x=>zjh hK h l _ _
theorem zlb{K:Orc→Env→Option St}(hK:∀e,Fin1 fun O=>K O e)(h0 h1:Heap):∀(l:List AO) (e:Env),Fin1 fun O=>postC O T (K O) h0 h1 l e
 | [],e=>hK e
 | o::l,e=>by
  simp only[postC]
  split
  ·exact .const _
  ·exact(zk9 T _ _ _ _).bind fun x=>zlb hK h0 h1 l _
theorem zlc(o:AO)(st:St):Fin1 fun O=>callC O T o st:=by
 unfold callC
 split
 ·exact zgv T _ _ _ _
 ·exact .const _
theorem zs2(l1:List AO)(o:AO)(l2 tl:List AO)(st:St):Fin1 fun O=>headC O T l1 o l2 tl st:=by
 unfold headC
 refine zjh T (fun e pend=>(zlc T _ _).bind fun s=>?_) _ _ _ _
 split
 ·exact zlb T (fun e=>zex T _ _) _ _ _ _
 ·exact .const _
theorem zs3(l1:List DO)(o:AO)(l2:List DO)(st:St):Fin1 fun O=>headN O T l1 o l2 st:=by
 unfold headN
 split
 ·exact .const _
 refine zjh T (fun e pend=>(zlc T _ _).bind fun s=>?_) _ _ _ _
 split
 ·exact zdp T _ _ _ _ _ _
 ·exact .const _
theorem zbw(k:Nat):∀(c:AX) (st:St),Fin1 fun O=>evX O T k c st
 | .skip,st=>.const _
 | .reg l,st=>by exact(zex T l st).map _
 | .draw l,st=>by exact(zdp T l _ _ _ _ _).map _
 | .drawT hd tl,st=>by exact(zla T tl hd _ _ _).map _
 | .drawM hd tl,st=>by exact(zdq T tl _ _ _ hd _ _ _).map _
 | .drawC l1 o l2 tl,st=>by exact(zs2 T l1 o l2 tl st).map _
 | .drawN l1 o l2,st=>by exact(zs3 T l1 o l2 st).map _
 | .bad,st=>.const _
 | .prim f,st=>.const _
 | .seq a b,st=>by
  refine(zbw k a st).bind fun r=>?_
  obtain⟨e,s⟩:=r
  cases e
  ·exact zbw k b s
  ·exact .const _
  ·exact .const _
  ·exact .const _
 | .cond c x y,st=>by
  simp only[evX]
  split
  ·split
   ·exact zbw k x st
   ·exact zbw k y st
  ·exact .const _
 | .block id c,st=>by exact(zbw k c st).bind fun r=>.const _
 | .loop c,st=>by exact .loop _ _ _
 | .exit id,st=>.const _
 | .ret,st=>.const _
 | .note c g,st=>by exact(zbw k c st).bind fun r=>.const _
 | .pre g c,st=>by exact Fin1.bind (.const _) fun s=>zbw k c s
 | .scope c,st=>by exact(zbw k c st).bind fun r=>.const _
 | .label l,st=>.const _
 | .goto l,st=>.const _
 | .gsc l c r,st=>by
  have key:∀n (f:Orc→Option (Ex×St)),Fin1 f→Fin1 fun O=>gscX (fun s=>evX O T k r s) l n (f O):=by
   intro n
   induction n with
   | zero=>intro f _;exact .const _
   | succ n ih=>
    intro f hf
    refine hf.bind fun x=>?_
    obtain⟨e,s⟩:=x
    cases e
    ·exact .const _
    ·exact .const _
    ·exact .const _
    ·simp only
     split
     ·exact ih _ (zbw k r s)
     ·exact .const _
  exact key _ _ (zbw k c st)
 | .lp id g c g2,st=>by exact Fin1.bind (.const _) fun s=>(Fin1.loop _ _ _).bind fun r=>.const _
theorem zcy(u:Nat)(xs:List AV)(hb:Heap):Fin1 fun O=>(nextO T O).call u xs hb:=by
 simp only[nextO]
 split
 ·exact .const _
 ·split
  ·exact .const _
  ·split
   ·exact(zbw T _ _ _).bind fun r=>.const _
   ·exact .const _
theorem zcz(k:Nat)(c:AX)(st:St):Fin1 fun O=>(nextO T O).loop k c st:=by
 refine(zbw T k c st).bind fun r=>?_
 obtain⟨e,s⟩:=r
 cases e
 ·exact .loop _ _ _
 ·exact .const _
 ·exact .const _
 ·exact .const _
theorem zgw:∀(n:Nat) (q:Qy),Holds (orcN T n) q→Holds (orcN T (n+1)) q
 | 0,q,h=>by cases q<;>cases h
 | n+1,.call u xs hb r,h=>by
  obtain⟨L,h1,h2⟩:=zcy T u xs hb _ r h
  exact h2 _ fun q hq=>zgw n q (h1 q hq)
 | n+1,.loop k c st r,h=>by
  obtain⟨L,h1,h2⟩:=zcz T k c st _ r h
  exact h2 _ fun q hq=>zgw n q (h1 q hq)
theorem zm3{n m:Nat}(h:n≤m)(q:Qy)(hq:Holds (orcN T n) q):Holds (orcN T m) q:=by
 induction h with
 | refl=>omega
 | step _ ih=>exact zgw T _ q ih
open Classical in
noncomputable def lim{α:Type}(f:Nat→Option α):Option α:=if h:∃n a,f n=some a then f (Classical.choose h) else none
theorem zos{α:Type}{f:Nat→Option α}(hm:∀n m a,n≤m→f n=some a→f m=some a)(a:α):lim f=some a↔∃n,f n=some a:=by
 unfold lim
 constructor
 ·intro h
  split at h
  all_goals grind
 ·intro ⟨n,h⟩
  have hex:∃n a,f n=some a:=⟨n,a,h⟩
  grind
noncomputable def orc:Orc:=⟨fun u xs hb=>lim fun n=>(orcN T n).call u xs hb,fun k c st=>lim fun n=>(orcN T n).loop k c st⟩
theorem zca(q:Qy):Holds (orc T) q↔∃n,Holds (orcN T n) q:=by
 cases q with
 | call u xs hb r=>exact zos (fun n m a hnm h=>zm3 T hnm (.call u xs hb a) h) r
 | loop k c st r=>exact zos (fun n m a hnm h=>zm3 T hnm (.loop k c st a) h) r
theorem zm4{L:List Qy}(h:∀q∈L,Holds (orc T) q):∃n,∀q∈L,Holds (orcN T n) q:=by
 induction L with
 | nil=>simp_all
 | cons q L ih=>
  obtain⟨n,hn⟩:=ih fun q hq=>h q (List.mem_cons_of_mem _ hq)
  obtain⟨m,hm⟩:=(zca T q).1 (h q List.mem_cons_self)
  refine⟨max n m,fun x hx=>?_⟩
  grind[zm3,Nat.le_max_right]
theorem zji(u:Nat)(xs:List AV)(hb:Heap):(orc T).call u xs hb=(nextO T (orc T)).call u xs hb:=by
 apply Option.ext
 intro r
 constructor
 ·intro h
  obtain⟨n,hn⟩:=(zca T (.call u xs hb r)).1 h
  cases n with
  | zero=>cases hn
  | succ n=>
   obtain⟨L,h1,h2⟩:=zcy T u xs hb _ r hn
   grind[zca]
 ·intro h
  obtain⟨L,h1,h2⟩:=zcy T u xs hb _ r h
  obtain⟨n,hn⟩:=zm4 T h1
  exact(zca T (.call u xs hb r)).2 ⟨n+1,h2 _ hn⟩
theorem zvs(k:Nat)(c:AX)(st:St):(orc T).loop k c st=(nextO T (orc T)).loop k c st:=by
 apply Option.ext
 intro r
 constructor
 ·intro h
  obtain⟨n,hn⟩:=(zca T (.loop k c st r)).1 h
  cases n with
  | zero=>cases hn
  | succ n=>
   obtain⟨L,h1,h2⟩:=zcz T k c st _ r hn
   grind[zca]
 ·intro h
  obtain⟨L,h1,h2⟩:=zcz T k c st _ r h
  obtain⟨n,hn⟩:=zm4 T h1
  exact(zca T (.loop k c st r)).2 ⟨n+1,h2 _ hn⟩
end
noncomputable def callF(T:Tbl)(u:Nat)(xs:List AV):Option AV:=((orc T).call u xs []).map (·.1)
noncomputable def callH(T:Tbl)(u:Nat)(xs:List AV)(hb:Heap):Option (AV×Heap):=(orc T).call u xs hb
noncomputable def loopX(T:Tbl)(k:Nat)(c:AX)(st:St):Option (Ex×St):=(orc T).loop k c st
theorem zgx{P:Program}{ν:Nat→FuncId}{T:Tbl}(hT:TOk P ν T)(hm:P.follows .mixedOrders=true){u:Nat}{af:AFx}{xs:List AV}{r:AV}(hu:T u=some af)(hl:af.lent=none)(h:callF T u xs=some r):PCall P (ν u) xs (·=r):=by
 obtain⟨⟨r',h'⟩,h1,rfl⟩:=map_some h
 obtain⟨n,hn⟩:=(zca T (.call u xs [] (r',h'))).1 h1
 exact(GoodO.orcN hT hm n).pure u af xs r' h' hu hl hn
end
section
open Go.RowKit
def u8(n:Nat):AV:=.i .u8 (n:Int)
def u32(n:Nat):AV:=.i .u32 (n:Int)
def u64(n:Nat):AV:=.i .u64 (n:Int)
@[simp] theorem zagf(k:IntKind)(n:Int):wkA (.i k n)=.i k n:=rfl
@[simp] theorem zads{h:Heap}(k:IntKind)(n:Int):frz1 h (.i k n)=some (.i k n):=rfl
@[simp] theorem zadt{h:Heap}(k:IntKind)(n:Int):frzC h (.i k n)=some (.i k n):=rfl
@[simp] theorem zagg{h:Heap}(k:IntKind)(n:Int):frz h (.i k n)=some (.i k n):=rfl
@[simp] theorem z2d(k:IntKind)(n:Int):scalarC (.i k n)=true:=rfl
@[simp] theorem z2e(k:IntKind)(n:Int):scalar1 (.i k n)=true:=rfl
@[simp] theorem z5n(k:IntKind)(n:Int):scalar (.i k n)=true:=rfl
@[simp] theorem z87(k:IntKind)(n:Int):pureC (.i k n)=true:=rfl
@[simp] theorem z88(k:IntKind)(n:Int):noRef (.i k n)=true:=rfl
@[simp] theorem zadu(k:IntKind)(n:Int):refs (.i k n)=[]:=rfl
@[simp] theorem zagh(k:IntKind)(n:Int):rfC (.i k n)=[]:=rfl
@[simp] theorem zagi(k:IntKind)(n:Int):rf1 (.i k n)=[]:=rfl
@[simp] theorem zagj(k:IntKind)(n:Int):rfA (.i k n)=[]:=rfl
@[simp] theorem zagk{σn:BId→BId}{σg:Nat→Nat}(k:IntKind)(n:Int):rlC σn σg (.i k n)=(.i k n):=rfl
@[simp] theorem zagl{σn:BId→BId}{σg:Nat→Nat}(k:IntKind)(n:Int):rl1 σn σg (.i k n)=(.i k n):=rfl
@[simp] theorem zagm{σn:BId→BId}{σg:Nat→Nat}(k:IntKind)(n:Int):rlA σn σg (.i k n)=(.i k n):=rfl
@[simp] theorem z5o{h:Heap}(k:IntKind)(n:Int):refOkC h (.i k n)=true:=rfl
@[simp] theorem z5p{h:Heap}(k:IntKind)(n:Int):refOk1 h (.i k n)=true:=rfl
@[simp] theorem z89{h:Heap}(k:IntKind)(n:Int):refOk h (.i k n)=true:=rfl
@[simp] theorem z2f(k:IntKind)(n:Int):cellsOf (.i k n)=some [.i k n]:=rfl
@[simp] theorem zagn(t:Bool):wkA (.b t)=.b t:=rfl
@[simp] theorem zadv{h:Heap}(t:Bool):frz1 h (.b t)=some (.b t):=rfl
@[simp] theorem zadw{h:Heap}(t:Bool):frzC h (.b t)=some (.b t):=rfl
@[simp] theorem zago{h:Heap}(t:Bool):frz h (.b t)=some (.b t):=rfl
@[simp] theorem z2g(t:Bool):scalarC (.b t)=true:=rfl
@[simp] theorem z2h(t:Bool):scalar1 (.b t)=true:=rfl
@[simp] theorem z5q(t:Bool):scalar (.b t)=true:=rfl
@[simp] theorem z9a(t:Bool):pureC (.b t)=true:=rfl
@[simp] theorem z9b(t:Bool):noRef (.b t)=true:=rfl
@[simp] theorem zadx(t:Bool):refs (.b t)=[]:=rfl
@[simp] theorem zagp(t:Bool):rfC (.b t)=[]:=rfl
@[simp] theorem zagq(t:Bool):rf1 (.b t)=[]:=rfl
@[simp] theorem zagr(t:Bool):rfA (.b t)=[]:=rfl
@[simp] theorem zags{σn:BId→BId}{σg:Nat→Nat}(t:Bool):rlC σn σg (.b t)=(.b t):=rfl
@[simp] theorem zagt{σn:BId→BId}{σg:Nat→Nat}(t:Bool):rl1 σn σg (.b t)=(.b t):=rfl
@[simp] theorem zagu{σn:BId→BId}{σg:Nat→Nat}(t:Bool):rlA σn σg (.b t)=(.b t):=rfl
@[simp] theorem z5r{h:Heap}(t:Bool):refOkC h (.b t)=true:=rfl
@[simp] theorem z5s{h:Heap}(t:Bool):refOk1 h (.b t)=true:=rfl
@[simp] theorem z9c{h:Heap}(t:Bool):refOk h (.b t)=true:=rfl
@[simp] theorem z2i(t:Bool):cellsOf (.b t)=some [.b t]:=rfl
@[simp] theorem zagv(l:List UInt8):wkA (.s l)=.s l:=rfl
@[simp] theorem zady{h:Heap}(l:List UInt8):frz1 h (.s l)=some (.s l):=rfl
@[simp] theorem zadz{h:Heap}(l:List UInt8):frzC h (.s l)=some (.s l):=rfl
@[simp] theorem zagw{h:Heap}(l:List UInt8):frz h (.s l)=some (.s l):=rfl
@[simp] theorem z2j(l:List UInt8):scalarC (.s l)=true:=rfl
@[simp] theorem z2k(l:List UInt8):scalar1 (.s l)=true:=rfl
@[simp] theorem z5t(l:List UInt8):scalar (.s l)=true:=rfl
@[simp] theorem z9d(l:List UInt8):pureC (.s l)=true:=rfl
@[simp] theorem z9e(l:List UInt8):noRef (.s l)=true:=rfl
@[simp] theorem zad0(l:List UInt8):refs (.s l)=[]:=rfl
@[simp] theorem zagx(l:List UInt8):rfC (.s l)=[]:=rfl
@[simp] theorem zagy(l:List UInt8):rf1 (.s l)=[]:=rfl
@[simp] theorem zagz(l:List UInt8):rfA (.s l)=[]:=rfl
@[simp] theorem zag0{σn:BId→BId}{σg:Nat→Nat}(l:List UInt8):rlC σn σg (.s l)=(.s l):=rfl
@[simp] theorem zag1{σn:BId→BId}{σg:Nat→Nat}(l:List UInt8):rl1 σn σg (.s l)=(.s l):=rfl
@[simp] theorem zag2{σn:BId→BId}{σg:Nat→Nat}(l:List UInt8):rlA σn σg (.s l)=(.s l):=rfl
@[simp] theorem z5u{h:Heap}(l:List UInt8):refOkC h (.s l)=true:=rfl
@[simp] theorem z5v{h:Heap}(l:List UInt8):refOk1 h (.s l)=true:=rfl
@[simp] theorem z9f{h:Heap}(l:List UInt8):refOk h (.s l)=true:=rfl
@[simp] theorem z2l(l:List UInt8):cellsOf (.s l)=some [.s l]:=rfl
@[simp] theorem z9g(v:Value):wkA (.raw v)=.raw v:=rfl
@[simp] theorem z5w{h:Heap}(v:Value):frz1 h (.raw v)=some (.raw v):=rfl
@[simp] theorem z5x{h:Heap}(v:Value):frzC h (.raw v)=some (.raw v):=rfl
@[simp] theorem z9h{h:Heap}(v:Value):frz h (.raw v)=some (.raw v):=rfl
@[simp] theorem zx4(v:Value):scalarC (.raw v)=false:=rfl
@[simp] theorem zx5(v:Value):scalar1 (.raw v)=false:=rfl
@[simp] theorem z0f(v:Value):scalar (.raw v)=false:=rfl
@[simp] theorem z2m(v:Value):pureC (.raw v)=true:=rfl
@[simp] theorem z2n(v:Value):noRef (.raw v)=true:=rfl
@[simp] theorem z5y(v:Value):refs (.raw v)=[]:=rfl
@[simp] theorem z9i(v:Value):rfC (.raw v)=[]:=rfl
@[simp] theorem z9j(v:Value):rf1 (.raw v)=[]:=rfl
@[simp] theorem z9k(v:Value):rfA (.raw v)=[]:=rfl
@[simp] theorem z9l{σn:BId→BId}{σg:Nat→Nat}(v:Value):rlC σn σg (.raw v)=(.raw v):=rfl
@[simp] theorem z9m{σn:BId→BId}{σg:Nat→Nat}(v:Value):rl1 σn σg (.raw v)=(.raw v):=rfl
@[simp] theorem z9n{σn:BId→BId}{σg:Nat→Nat}(v:Value):rlA σn σg (.raw v)=(.raw v):=rfl
@[simp] theorem z0g{h:Heap}(v:Value):refOkC h (.raw v)=true:=rfl
@[simp] theorem z0h{h:Heap}(v:Value):refOk1 h (.raw v)=true:=rfl
@[simp] theorem z2o{h:Heap}(v:Value):refOk h (.raw v)=true:=rfl
@[simp] theorem z9o{h:Heap}(els:List (List AV))(f:Fl):frz1 h (.sl els f)=some (.sl els f):=rfl
@[simp] theorem z9p{h:Heap}(els:List (List AV))(f:Fl):frzC h (.sl els f)=some (.sl els f):=rfl
@[simp] theorem zad1{h:Heap}(els:List (List AV))(f:Fl):frz h (.sl els f)=some (.sl els f):=rfl
@[simp] theorem z0i(els:List (List AV))(f:Fl):scalarC (.sl els f)=false:=rfl
@[simp] theorem z0j(els:List (List AV))(f:Fl):scalar1 (.sl els f)=false:=rfl
@[simp] theorem z2p(els:List (List AV))(f:Fl):scalar (.sl els f)=false:=rfl
@[simp] theorem z5z(els:List (List AV))(f:Fl):pureC (.sl els f)=true:=rfl
@[simp] theorem z50(els:List (List AV))(f:Fl):noRef (.sl els f)=true:=rfl
@[simp] theorem z9q(els:List (List AV))(f:Fl):refs (.sl els f)=[]:=rfl
@[simp] theorem zad2(els:List (List AV))(f:Fl):rfC (.sl els f)=[]:=rfl
@[simp] theorem zad3(els:List (List AV))(f:Fl):rf1 (.sl els f)=[]:=rfl
@[simp] theorem zad4(els:List (List AV))(f:Fl):rfA (.sl els f)=[]:=rfl
@[simp] theorem zad5{σn:BId→BId}{σg:Nat→Nat}(els:List (List AV))(f:Fl):rlC σn σg (.sl els f)=(.sl els f):=rfl
@[simp] theorem zad6{σn:BId→BId}{σg:Nat→Nat}(els:List (List AV))(f:Fl):rl1 σn σg (.sl els f)=(.sl els f):=rfl
@[simp] theorem zad7{σn:BId→BId}{σg:Nat→Nat}(els:List (List AV))(f:Fl):rlA σn σg (.sl els f)=(.sl els f):=rfl
@[simp] theorem z2q{h:Heap}(els:List (List AV))(f:Fl):refOkC h (.sl els f)=true:=rfl
@[simp] theorem z2r{h:Heap}(els:List (List AV))(f:Fl):refOk1 h (.sl els f)=true:=rfl
@[simp] theorem z51{h:Heap}(els:List (List AV))(f:Fl):refOk h (.sl els f)=true:=rfl
@[simp] theorem z0k(els:List (List AV))(f:Fl):cellsOf (.sl els f)=some [.sl els f]:=rfl
@[simp] theorem zad8(cs:List AV)(o:Nat):wkA (.ep cs o)=.ep cs o:=rfl
@[simp] theorem z9r{h:Heap}(cs:List AV)(o:Nat):frz1 h (.ep cs o)=some (.ep cs o):=rfl
@[simp] theorem z9s{h:Heap}(cs:List AV)(o:Nat):frzC h (.ep cs o)=some (.ep cs o):=rfl
@[simp] theorem zad9{h:Heap}(cs:List AV)(o:Nat):frz h (.ep cs o)=some (.ep cs o):=rfl
@[simp] theorem z0l(cs:List AV)(o:Nat):scalarC (.ep cs o)=false:=rfl
@[simp] theorem z0m(cs:List AV)(o:Nat):scalar1 (.ep cs o)=false:=rfl
@[simp] theorem z2s(cs:List AV)(o:Nat):scalar (.ep cs o)=false:=rfl
@[simp] theorem z52(cs:List AV)(o:Nat):pureC (.ep cs o)=true:=rfl
@[simp] theorem z53(cs:List AV)(o:Nat):noRef (.ep cs o)=true:=rfl
@[simp] theorem z9t(cs:List AV)(o:Nat):refs (.ep cs o)=[]:=rfl
@[simp] theorem zaea(cs:List AV)(o:Nat):rfC (.ep cs o)=[]:=rfl
@[simp] theorem zaeb(cs:List AV)(o:Nat):rf1 (.ep cs o)=[]:=rfl
@[simp] theorem zaec(cs:List AV)(o:Nat):rfA (.ep cs o)=[]:=rfl
@[simp] theorem zaed{σn:BId→BId}{σg:Nat→Nat}(cs:List AV)(o:Nat):rlC σn σg (.ep cs o)=(.ep cs o):=rfl
@[simp] theorem zaee{σn:BId→BId}{σg:Nat→Nat}(cs:List AV)(o:Nat):rl1 σn σg (.ep cs o)=(.ep cs o):=rfl
@[simp] theorem zaef{σn:BId→BId}{σg:Nat→Nat}(cs:List AV)(o:Nat):rlA σn σg (.ep cs o)=(.ep cs o):=rfl
@[simp] theorem z2t{h:Heap}(cs:List AV)(o:Nat):refOkC h (.ep cs o)=true:=rfl
@[simp] theorem z2u{h:Heap}(cs:List AV)(o:Nat):refOk1 h (.ep cs o)=true:=rfl
@[simp] theorem z54{h:Heap}(cs:List AV)(o:Nat):refOk h (.ep cs o)=true:=rfl
@[simp] theorem z0n(cs:List AV)(o:Nat):cellsOf (.ep cs o)=some [.ep cs o]:=rfl
@[simp] theorem zaeg(n:Nat):wkA (u8 n)=u8 n:=rfl
@[simp] theorem z9u{h:Heap}(n:Nat):frz1 h (u8 n)=some (u8 n):=rfl
@[simp] theorem z9v{h:Heap}(n:Nat):frzC h (u8 n)=some (u8 n):=rfl
@[simp] theorem zaeh{h:Heap}(n:Nat):frz h (u8 n)=some (u8 n):=rfl
@[simp] theorem z0o(n:Nat):scalarC (u8 n)=true:=rfl
@[simp] theorem z0p(n:Nat):scalar1 (u8 n)=true:=rfl
@[simp] theorem z2v(n:Nat):scalar (u8 n)=true:=rfl
@[simp] theorem z55(n:Nat):pureC (u8 n)=true:=rfl
@[simp] theorem z56(n:Nat):noRef (u8 n)=true:=rfl
@[simp] theorem z9w(n:Nat):refs (u8 n)=[]:=rfl
@[simp] theorem zaei(n:Nat):rfC (u8 n)=[]:=rfl
@[simp] theorem zaej(n:Nat):rf1 (u8 n)=[]:=rfl
@[simp] theorem zaek(n:Nat):rfA (u8 n)=[]:=rfl
@[simp] theorem zael{σn:BId→BId}{σg:Nat→Nat}(n:Nat):rlC σn σg (u8 n)=(u8 n):=rfl
@[simp] theorem zaem{σn:BId→BId}{σg:Nat→Nat}(n:Nat):rl1 σn σg (u8 n)=(u8 n):=rfl
@[simp] theorem zaen{σn:BId→BId}{σg:Nat→Nat}(n:Nat):rlA σn σg (u8 n)=(u8 n):=rfl
@[simp] theorem z2w{h:Heap}(n:Nat):refOkC h (u8 n)=true:=rfl
@[simp] theorem z2x{h:Heap}(n:Nat):refOk1 h (u8 n)=true:=rfl
@[simp] theorem z57{h:Heap}(n:Nat):refOk h (u8 n)=true:=rfl
@[simp] theorem z0q(n:Nat):cellsOf (u8 n)=some [u8 n]:=rfl
@[simp] theorem z9x(n:Nat):wkA (u32 n)=u32 n:=rfl
@[simp] theorem z58{h:Heap}(n:Nat):frz1 h (u32 n)=some (u32 n):=rfl
@[simp] theorem z59{h:Heap}(n:Nat):frzC h (u32 n)=some (u32 n):=rfl
@[simp] theorem z9y{h:Heap}(n:Nat):frz h (u32 n)=some (u32 n):=rfl
@[simp] theorem zx6(n:Nat):scalarC (u32 n)=true:=rfl
@[simp] theorem zx7(n:Nat):scalar1 (u32 n)=true:=rfl
@[simp] theorem z0r(n:Nat):scalar (u32 n)=true:=rfl
@[simp] theorem z2y(n:Nat):pureC (u32 n)=true:=rfl
@[simp] theorem z2z(n:Nat):noRef (u32 n)=true:=rfl
@[simp] theorem z6a(n:Nat):refs (u32 n)=[]:=rfl
@[simp] theorem z9z(n:Nat):rfC (u32 n)=[]:=rfl
@[simp] theorem z90(n:Nat):rf1 (u32 n)=[]:=rfl
@[simp] theorem z91(n:Nat):rfA (u32 n)=[]:=rfl
@[simp] theorem z92{σn:BId→BId}{σg:Nat→Nat}(n:Nat):rlC σn σg (u32 n)=(u32 n):=rfl
@[simp] theorem z93{σn:BId→BId}{σg:Nat→Nat}(n:Nat):rl1 σn σg (u32 n)=(u32 n):=rfl
@[simp] theorem z94{σn:BId→BId}{σg:Nat→Nat}(n:Nat):rlA σn σg (u32 n)=(u32 n):=rfl
@[simp] theorem z0s{h:Heap}(n:Nat):refOkC h (u32 n)=true:=rfl
@[simp] theorem z0t{h:Heap}(n:Nat):refOk1 h (u32 n)=true:=rfl
@[simp] theorem z21{h:Heap}(n:Nat):refOk h (u32 n)=true:=rfl
@[simp] theorem zx8(n:Nat):cellsOf (u32 n)=some [u32 n]:=rfl
@[simp] theorem z95(n:Nat):wkA (u64 n)=u64 n:=rfl
@[simp] theorem z6b{h:Heap}(n:Nat):frz1 h (u64 n)=some (u64 n):=rfl
@[simp] theorem z6c{h:Heap}(n:Nat):frzC h (u64 n)=some (u64 n):=rfl
@[simp] theorem z96{h:Heap}(n:Nat):frz h (u64 n)=some (u64 n):=rfl
@[simp] theorem zx9(n:Nat):scalarC (u64 n)=true:=rfl
@[simp] theorem zya(n:Nat):scalar1 (u64 n)=true:=rfl
@[simp] theorem z0u(n:Nat):scalar (u64 n)=true:=rfl
@[simp] theorem z22(n:Nat):pureC (u64 n)=true:=rfl
@[simp] theorem z23(n:Nat):noRef (u64 n)=true:=rfl
@[simp] theorem z6d(n:Nat):refs (u64 n)=[]:=rfl
@[simp] theorem z97(n:Nat):rfC (u64 n)=[]:=rfl
@[simp] theorem z98(n:Nat):rf1 (u64 n)=[]:=rfl
@[simp] theorem z99(n:Nat):rfA (u64 n)=[]:=rfl
@[simp] theorem zaaa{σn:BId→BId}{σg:Nat→Nat}(n:Nat):rlC σn σg (u64 n)=(u64 n):=rfl
@[simp] theorem zaab{σn:BId→BId}{σg:Nat→Nat}(n:Nat):rl1 σn σg (u64 n)=(u64 n):=rfl
@[simp] theorem zaac{σn:BId→BId}{σg:Nat→Nat}(n:Nat):rlA σn σg (u64 n)=(u64 n):=rfl
@[simp] theorem z0v{h:Heap}(n:Nat):refOkC h (u64 n)=true:=rfl
@[simp] theorem z0w{h:Heap}(n:Nat):refOk1 h (u64 n)=true:=rfl
@[simp] theorem z24{h:Heap}(n:Nat):refOk h (u64 n)=true:=rfl
@[simp] theorem zyb(n:Nat):cellsOf (u64 n)=some [u64 n]:=rfl
@[simp] theorem z6e :wkA .dead=.dead:=rfl
@[simp] theorem z25{h:Heap} :frz1 h .dead=some .dead:=rfl
@[simp] theorem z26{h:Heap} :frzC h .dead=some .dead:=rfl
@[simp] theorem z6f{h:Heap} :frz h .dead=some .dead:=rfl
@[simp] theorem zw5 :scalarC .dead=false:=rfl
@[simp] theorem zw6 :scalar1 .dead=false:=rfl
@[simp] theorem zyc :scalar .dead=false:=rfl
@[simp] theorem z0x :pureC .dead=true:=rfl
@[simp] theorem z0y :noRef .dead=true:=rfl
@[simp] theorem z27 :refs .dead=[]:=rfl
@[simp] theorem z6g :rfC .dead=[]:=rfl
@[simp] theorem z6h :rf1 .dead=[]:=rfl
@[simp] theorem z6i :rfA .dead=[]:=rfl
@[simp] theorem z6j{σn:BId→BId}{σg:Nat→Nat} :rlC σn σg .dead=.dead:=rfl
@[simp] theorem z6k{σn:BId→BId}{σg:Nat→Nat} :rl1 σn σg .dead=.dead:=rfl
@[simp] theorem z6l{σn:BId→BId}{σg:Nat→Nat} :rlA σn σg .dead=.dead:=rfl
@[simp] theorem zyd{h:Heap} :refOkC h .dead=true:=rfl
@[simp] theorem zye{h:Heap} :refOk1 h .dead=true:=rfl
@[simp] theorem z0z{h:Heap} :refOk h .dead=true:=rfl
@[simp] theorem zaeo(els:List (List AV))(f:Fl):wkA (.sl els f)=.sl (wkL els) .an:=rfl
@[simp] theorem zaad(cs:List AV):wkA (.agg cs)=.agg (wkR cs):=rfl
@[simp] theorem zaae(cs:List AV):wkA (.tup cs)=.tup (wkR cs):=rfl
@[simp] theorem zaep(id:BId)(g z off n:Nat):wkA (.bs id g z off n)=.bs id g z off n:=rfl
@[simp] theorem zaaf(id:BId)(g z i o:Nat):wkA (.ptr id g z i o)=.ptr id g z i o:=rfl
@[simp] theorem zaag(f:Nat)(id:BId)(g z i o:Nat):wkA (.fnp f id g z i o)=.fnp f id g z i o:=rfl
@[simp] theorem zaah(f:Nat)(x:AV):wkA (.fnv f x)=.fnv f (wkA x):=rfl
@[simp] theorem zaai :wkR []=[]:=rfl
@[simp] theorem z6m(c:AV)(r:List AV):wkR (c::r)=wkA c::wkR r:=rfl
@[simp] theorem zaaj :wkL []=[]:=rfl
@[simp] theorem z6n(c:List AV)(r:List (List AV)):wkL (c::r)=wkR c::wkL r:=rfl
@[simp] theorem zaak{h:Heap}(id:BId)(g z off n:Nat):frzC h (.bs id g z off n)=(boxAt h id g z).bind fun bx=>if bx.kind≠.str∧off+n≤bx.els.length then some (.sl ((bx.els.drop off).take n) .an) else none:=rfl
@[simp] theorem z6o{h:Heap}(id:BId)(g z i o:Nat):frzC h (.ptr id g z i o)=some .dead:=rfl
@[simp] theorem z6p{h:Heap}(f:Nat)(id:BId)(g z i o:Nat):frzC h (.fnp f id g z i o)=some .dead:=rfl
@[simp] theorem z6q{h:Heap}(f:Nat)(x:AV):frzC h (.fnv f x)=some (.fnv f x):=rfl
@[simp] theorem zaal{h:Heap}(id:BId)(g z off n:Nat):frz1 h (.bs id g z off n)=(boxAt h id g z).bind fun bx=>if bx.kind≠.str∧off+n≤bx.els.length then some (.sl ((bx.els.drop off).take n) .an) else none:=rfl
@[simp] theorem z6r{h:Heap}(id:BId)(g z i o:Nat):frz1 h (.ptr id g z i o)=some .dead:=rfl
@[simp] theorem z6s{h:Heap}(f:Nat)(id:BId)(g z i o:Nat):frz1 h (.fnp f id g z i o)=some .dead:=rfl
@[simp] theorem z6t{h:Heap}(f:Nat)(x:AV):frz1 h (.fnv f x)=some (.fnv f x):=rfl
@[simp] theorem zaeq{h:Heap}(id:BId)(g z off n:Nat):frz h (.bs id g z off n)=(boxAt h id g z).bind fun bx=>if bx.kind≠.str∧off+n≤bx.els.length then some (.sl ((bx.els.drop off).take n) .an) else none:=rfl
@[simp] theorem zaam{h:Heap}(id:BId)(g z i o:Nat):frz h (.ptr id g z i o)=some .dead:=rfl
@[simp] theorem zaan{h:Heap}(f:Nat)(id:BId)(g z i o:Nat):frz h (.fnp f id g z i o)=some .dead:=rfl
@[simp] theorem zaao{h:Heap}(f:Nat)(x:AV):frz h (.fnv f x)=some (.fnv f x):=rfl
@[simp] theorem z6u{h:Heap}(cs:List AV):frz1 h (.agg cs)=(cs.mapM (frzC h)).map .agg:=rfl
@[simp] theorem zaap{h:Heap}(cs:List AV):frz h (.agg cs)=(cs.mapM (frzC h)).map .agg:=rfl
@[simp] theorem zaaq{h:Heap}(cs:List AV):frz h (.tup cs)=(cs.mapM (frz1 h)).map .tup:=rfl
@[simp] theorem z00(id:BId)(g z off n:Nat):scalarC (.bs id g z off n)=false:=rfl
@[simp] theorem zyf(id:BId)(g z i o:Nat):scalarC (.ptr id g z i o)=false:=rfl
@[simp] theorem zyg(f:Nat)(id:BId)(g z i o:Nat):scalarC (.fnp f id g z i o)=false:=rfl
@[simp] theorem zyh(f:Nat)(x:AV):scalarC (.fnv f x)=false:=rfl
@[simp] theorem z01(id:BId)(g z off n:Nat):scalar1 (.bs id g z off n)=false:=rfl
@[simp] theorem zyi(id:BId)(g z i o:Nat):scalar1 (.ptr id g z i o)=false:=rfl
@[simp] theorem zyj(f:Nat)(id:BId)(g z i o:Nat):scalar1 (.fnp f id g z i o)=false:=rfl
@[simp] theorem zyk(f:Nat)(x:AV):scalar1 (.fnv f x)=false:=rfl
@[simp] theorem z28(id:BId)(g z off n:Nat):scalar (.bs id g z off n)=false:=rfl
@[simp] theorem z02(id:BId)(g z i o:Nat):scalar (.ptr id g z i o)=false:=rfl
@[simp] theorem z03(f:Nat)(id:BId)(g z i o:Nat):scalar (.fnp f id g z i o)=false:=rfl
@[simp] theorem z04(f:Nat)(x:AV):scalar (.fnv f x)=false:=rfl
@[simp] theorem zyl(cs:List AV):scalar1 (.agg cs)=cs.all scalarC:=rfl
@[simp] theorem z05(cs:List AV):scalar (.agg cs)=cs.all scalarC:=rfl
@[simp] theorem z06(cs:List AV):scalar (.tup cs)=cs.all scalar1:=rfl
@[simp] theorem z6v(id:BId)(g z off n:Nat):pureC (.bs id g z off n)=false:=rfl
@[simp] theorem z29(id:BId)(g z i o:Nat):pureC (.ptr id g z i o)=false:=rfl
@[simp] theorem z3a(f:Nat)(id:BId)(g z i o:Nat):pureC (.fnp f id g z i o)=false:=rfl
@[simp] theorem z3b(f:Nat)(x:AV):pureC (.fnv f x)=true:=rfl
@[simp] theorem z3c(cs:List AV):pureC (.agg cs)=false:=rfl
@[simp] theorem z3d(cs:List AV):pureC (.tup cs)=false:=rfl
@[simp] theorem z6w(id:BId)(g z off n:Nat):noRef (.bs id g z off n)=false:=rfl
@[simp] theorem z3e(id:BId)(g z i o:Nat):noRef (.ptr id g z i o)=false:=rfl
@[simp] theorem z3f(f:Nat)(id:BId)(g z i o:Nat):noRef (.fnp f id g z i o)=false:=rfl
@[simp] theorem z3g(f:Nat)(x:AV):noRef (.fnv f x)=true:=rfl
@[simp] theorem z3h(cs:List AV):noRef (.agg cs)=cs.all pureC:=rfl
@[simp] theorem z3i(cs:List AV):noRef (.tup cs)=false:=rfl
@[simp] theorem zaar(id:BId)(g z off n:Nat):refs (.bs id g z off n)=[id]:=rfl
@[simp] theorem z6x(id:BId)(g z i o:Nat):refs (.ptr id g z i o)=[]:=rfl
@[simp] theorem z6y(f:Nat)(id:BId)(g z i o:Nat):refs (.fnp f id g z i o)=[]:=rfl
@[simp] theorem z6z(f:Nat)(x:AV):refs (.fnv f x)=[]:=rfl
@[simp] theorem zaer(id:BId)(g z off n:Nat):rfC (.bs id g z off n)=[id]:=rfl
@[simp] theorem zaas(id:BId)(g z i o:Nat):rfC (.ptr id g z i o)=[id]:=rfl
@[simp] theorem zaat(f:Nat)(id:BId)(g z i o:Nat):rfC (.fnp f id g z i o)=[id]:=rfl
@[simp] theorem zaau(f:Nat)(x:AV):rfC (.fnv f x)=[]:=rfl
@[simp] theorem zaes(id:BId)(g z off n:Nat):rf1 (.bs id g z off n)=[id]:=rfl
@[simp] theorem zaav(id:BId)(g z i o:Nat):rf1 (.ptr id g z i o)=[id]:=rfl
@[simp] theorem zaaw(f:Nat)(id:BId)(g z i o:Nat):rf1 (.fnp f id g z i o)=[id]:=rfl
@[simp] theorem zaax(f:Nat)(x:AV):rf1 (.fnv f x)=[]:=rfl
@[simp] theorem zaet(id:BId)(g z off n:Nat):rfA (.bs id g z off n)=[id]:=rfl
@[simp] theorem zaay(id:BId)(g z i o:Nat):rfA (.ptr id g z i o)=[id]:=rfl
@[simp] theorem zaaz(f:Nat)(id:BId)(g z i o:Nat):rfA (.fnp f id g z i o)=[id]:=rfl
@[simp] theorem zaa0(f:Nat)(x:AV):rfA (.fnv f x)=[]:=rfl
def rfsC:AV→List BId
 | .bs id .. => [id]
 | _=>[]
@[simp] theorem zaa1(cs:List AV):rf1 (.agg cs)=cs.flatMap rfC:=rfl
@[simp] theorem zaa2(cs:List AV):rfA (.agg cs)=cs.flatMap rfC:=rfl
@[simp] theorem zaa3(cs:List AV):rfA (.tup cs)=cs.flatMap rf1:=rfl
@[simp] theorem zaeu{σn:BId→BId}{σg:Nat→Nat}(id:BId)(g z off n:Nat):rlC σn σg (.bs id g z off n)=.bs (σn id) (σg g) z off n:=rfl
@[simp] theorem zaa4{σn:BId→BId}{σg:Nat→Nat}(id:BId)(g z i o:Nat):rlC σn σg (.ptr id g z i o)=.ptr (σn id) (σg g) z i o:=rfl
@[simp] theorem zaa5{σn:BId→BId}{σg:Nat→Nat}(f:Nat)(id:BId)(g z i o:Nat):rlC σn σg (.fnp f id g z i o)=.fnp f (σn id) (σg g) z i o:=rfl
@[simp] theorem zaa6{σn:BId→BId}{σg:Nat→Nat}(f:Nat)(x:AV):rlC σn σg (.fnv f x)=.fnv f x:=rfl
@[simp] theorem zaev{σn:BId→BId}{σg:Nat→Nat}(id:BId)(g z off n:Nat):rl1 σn σg (.bs id g z off n)=.bs (σn id) (σg g) z off n:=rfl
@[simp] theorem zaa7{σn:BId→BId}{σg:Nat→Nat}(id:BId)(g z i o:Nat):rl1 σn σg (.ptr id g z i o)=.ptr (σn id) (σg g) z i o:=rfl
@[simp] theorem zaa8{σn:BId→BId}{σg:Nat→Nat}(f:Nat)(id:BId)(g z i o:Nat):rl1 σn σg (.fnp f id g z i o)=.fnp f (σn id) (σg g) z i o:=rfl
@[simp] theorem zaa9{σn:BId→BId}{σg:Nat→Nat}(f:Nat)(x:AV):rl1 σn σg (.fnv f x)=.fnv f x:=rfl
@[simp] theorem zaew{σn:BId→BId}{σg:Nat→Nat}(id:BId)(g z off n:Nat):rlA σn σg (.bs id g z off n)=.bs (σn id) (σg g) z off n:=rfl
@[simp] theorem zaba{σn:BId→BId}{σg:Nat→Nat}(id:BId)(g z i o:Nat):rlA σn σg (.ptr id g z i o)=.ptr (σn id) (σg g) z i o:=rfl
@[simp] theorem zabb{σn:BId→BId}{σg:Nat→Nat}(f:Nat)(id:BId)(g z i o:Nat):rlA σn σg (.fnp f id g z i o)=.fnp f (σn id) (σg g) z i o:=rfl
@[simp] theorem zabc{σn:BId→BId}{σg:Nat→Nat}(f:Nat)(x:AV):rlA σn σg (.fnv f x)=.fnv f x:=rfl
@[simp] theorem zabd{σn:BId→BId}{σg:Nat→Nat}(cs:List AV):rl1 σn σg (.agg cs)=.agg (cs.map (rlC σn σg)):=rfl
@[simp] theorem zabe{σn:BId→BId}{σg:Nat→Nat}(cs:List AV):rlA σn σg (.agg cs)=.agg (cs.map (rlC σn σg)):=rfl
@[simp] theorem zabf{σn:BId→BId}{σg:Nat→Nat}(cs:List AV):rlA σn σg (.tup cs)=.tup (cs.map (rl1 σn σg)):=rfl
@[simp] theorem z3j{h:Heap}(id:BId)(g z off n:Nat):refOkC h (.bs id g z off n)=(boxAt h id g z).isSome:=rfl
@[simp] theorem z07{h:Heap}(id:BId)(g z i o:Nat):refOkC h (.ptr id g z i o)=(boxAt h id g z).isSome:=rfl
@[simp] theorem z08{h:Heap}(f:Nat)(id:BId)(g z i o:Nat):refOkC h (.fnp f id g z i o)=genAt h id g:=rfl
@[simp] theorem z09{h:Heap}(f:Nat)(x:AV):refOkC h (.fnv f x)=true:=rfl
@[simp] theorem z3k{h:Heap}(id:BId)(g z off n:Nat):refOk1 h (.bs id g z off n)=(boxAt h id g z).isSome:=rfl
@[simp] theorem z1a{h:Heap}(id:BId)(g z i o:Nat):refOk1 h (.ptr id g z i o)=(boxAt h id g z).isSome:=rfl
@[simp] theorem z1b{h:Heap}(f:Nat)(id:BId)(g z i o:Nat):refOk1 h (.fnp f id g z i o)=genAt h id g:=rfl
@[simp] theorem z1c{h:Heap}(f:Nat)(x:AV):refOk1 h (.fnv f x)=true:=rfl
@[simp] theorem z60{h:Heap}(id:BId)(g z off n:Nat):refOk h (.bs id g z off n)=(boxAt h id g z).isSome:=rfl
@[simp] theorem z3l{h:Heap}(id:BId)(g z i o:Nat):refOk h (.ptr id g z i o)=(boxAt h id g z).isSome:=rfl
@[simp] theorem z3m{h:Heap}(f:Nat)(id:BId)(g z i o:Nat):refOk h (.fnp f id g z i o)=genAt h id g:=rfl
@[simp] theorem z3n{h:Heap}(f:Nat)(x:AV):refOk h (.fnv f x)=true:=rfl
@[simp] theorem z1d{h:Heap}(cs:List AV):refOk1 h (.agg cs)=cs.all (refOkC h):=rfl
@[simp] theorem z3o{h:Heap}(cs:List AV):refOk h (.agg cs)=cs.all (refOkC h):=rfl
@[simp] theorem z3p{h:Heap}(cs:List AV):refOk h (.tup cs)=cs.all (refOk1 h):=rfl
@[simp] theorem z1e(id:BId)(g z off n:Nat):cellsOf (.bs id g z off n)=some [.bs id g z off n]:=rfl
@[simp] theorem zym(id:BId)(g z i o:Nat):cellsOf (.ptr id g z i o)=some [.ptr id g z i o]:=rfl
@[simp] theorem zyn(f:Nat)(id:BId)(g z i o:Nat):cellsOf (.fnp f id g z i o)=some [.fnp f id g z i o]:=rfl
@[simp] theorem zyo(f:Nat)(x:AV):cellsOf (.fnv f x)=some [.fnv f x]:=rfl
@[simp] theorem zyp(cs:List AV):cellsOf (.agg cs)=some cs:=rfl
@[simp] theorem zaex(k:IntKind)(n:Int):rfsC (.i k n)=[]:=rfl
@[simp] theorem zaey(t:Bool):rfsC (.b t)=[]:=rfl
@[simp] theorem zaez(l:List UInt8):rfsC (.s l)=[]:=rfl
@[simp] theorem z61(v:Value):rfsC (.raw v)=[]:=rfl
@[simp] theorem zabg(els:List (List AV))(f:Fl):rfsC (.sl els f)=[]:=rfl
@[simp] theorem zabh(cs:List AV)(o:Nat):rfsC (.ep cs o)=[]:=rfl
@[simp] theorem zabi(n:Nat):rfsC (u8 n)=[]:=rfl
@[simp] theorem z62(n:Nat):rfsC (u32 n)=[]:=rfl
@[simp] theorem z63(n:Nat):rfsC (u64 n)=[]:=rfl
@[simp] theorem z3q :rfsC .dead=[]:=rfl
@[simp] theorem zabj(id:BId)(g z off n:Nat):rfsC (.bs id g z off n)=[id]:=rfl
@[simp] theorem z64(id:BId)(g z i o:Nat):rfsC (.ptr id g z i o)=[]:=rfl
@[simp] theorem z65(f:Nat)(id:BId)(g z i o:Nat):rfsC (.fnp f id g z i o)=[]:=rfl
@[simp] theorem z66(f:Nat)(x:AV):rfsC (.fnv f x)=[]:=rfl
@[simp] theorem z67(cs:List AV):refs (.agg cs)=cs.flatMap rfsC:=rfl
@[simp] theorem zw7:refs (.tup [])=[]:=rfl
@[simp] theorem z68(h:Heap)(id:BId)(g z:Nat):boxAt h id g z=(match h.lookup id with | some bx=>if bx.gen=g∧bx.z=z∧bx.kind≠.mp then some bx else none | none=>none):=rfl
@[simp] theorem z3r(x:AV):wkIf true x=x:=rfl
@[simp] theorem z1f(x:AV):wkIf false x=wkA x:=rfl
theorem zda(n:Nat):IntKind.wrap .u32 (n:Int)=((n%4294967296:Nat):Int):=by
 simp[IntKind.wrap,IntKind.signed,IntKind.bits]
theorem zdz(n:Nat):IntKind.wrap .u64 (n:Int)=((n%18446744073709551616:Nat):Int):=by
 simp[IntKind.wrap,IntKind.signed,IntKind.bits]
theorem wrap_u8(n:Nat):IntKind.wrap .u8 (n:Int)=((n%256:Nat):Int):=by
 simp[IntKind.wrap,IntKind.signed,IntKind.bits]
def bX(o:Option (Ex×St))(f:St→Option (Ex×St)):Option (Ex×St):=o.bind fun r=>match r.1 with | .n=>f r.2 | _=>some r
def blkX(id:Nat)(o:Option (Ex×St)):Option (Ex×St):=o.bind fun r=>match r.1 with | .x j=>if j=id then some (.n,r.2) else some r | _=>some r
def stX(o:Option St):Option (Ex×St):=o.map fun s=>(.n,s)
def bS(o:Option St)(f:St→Option St):Option St:=o.bind f
def cnX(v:AV)(x y:Option (Ex×St)):Option (Ex×St):=match v with | .b t=>if t then x else y | _=>none
def pS(o:Option AV)(d:Option Nat)(st:St):Option St:=o.map fun x=>⟨putE st.env d x,st.heap,st.clk⟩
def pW(o:Option (AV×Heap×Nat))(d:Option Nat)(st:St):Option St:=o.map fun q=>⟨putE st.env d q.1,q.2.1,q.2.2⟩
def pB(o:Option (AV×Heap))(d:Option Nat)(st:St):Option St:=o.map fun q=>⟨putE st.env d q.1,q.2,st.clk⟩
def retF(res:List RV)(ex:Bool)(o:Option (Ex×St)):Option AV:=
 o.bind fun r=>match r.1 with | .x _=>none | .g _=>none | _=>(resAV r.2 res).bind fun x=>(frz r.2.heap x).map (wkIf ex)
def retH(res:List RV)(ex:Bool)(k:Nat)(o:Option (Ex×St)):Option (AV×Heap):=
 o.bind fun r=>match r.1 with | .x _=>none | .g _=>none | _=>(resAV r.2 res).map fun x=>let s:=normS ex k [0] ⟨[(0,x)],r.2.heap,r.2.clk⟩;(s.env.get 0,s.heap)
section
variable{o o':Option (Ex×St)}{f:St→Option (Ex×St)}{s:St}
@[congr] theorem z69(h:o=o'):bX o f=bX o' f:=by rw[h]
@[congr] theorem z7a{o o':Option St}{f:St→Option St}(h:o=o'):bS o f=bS o' f:=by rw[h]
@[congr] theorem z3s{v v':AV}{x y:Option (Ex×St)}(h:v=v'):cnX v x y=cnX v' x y:=by rw[h]
@[simp] theorem bX_n:bX (some (.n,s)) f=f s:=rfl
@[simp] theorem bX_x(id:Nat):bX (some (.x id,s)) f=some (.x id,s):=rfl
@[simp] theorem bX_r:bX (some (.r,s)) f=some (.r,s):=rfl
@[simp] theorem zabk:bX none f=none:=rfl
@[simp] theorem zae0{c:Prop}[Decidable c]{a b:Option (Ex×St)}:bX (if c then a else b) f=if c then bX a f else bX b f:=by split<;>rfl
@[simp] theorem z7b(id:Nat){c:Prop}[Decidable c]{a b:Option (Ex×St)}:blkX id (if c then a else b)=if c then blkX id a else blkX id b:=by split<;>rfl
@[simp] theorem z7c{res:List RV}{ex:Bool}{c:Prop}[Decidable c]{a b:Option (Ex×St)}:retF res ex (if c then a else b)=if c then retF res ex a else retF res ex b:=by split<;>rfl
@[simp] theorem z7d{res:List RV}{ex:Bool}{k:Nat}{c:Prop}[Decidable c]{a b:Option (Ex×St)}:retH res ex k (if c then a else b)=if c then retH res ex k a else retH res ex k b:=by split<;>rfl
@[simp] theorem zae1(id:Nat):blkX id (some (.n,s))=some (.n,s):=rfl
@[simp] theorem z3t(id j:Nat):blkX id (some (.x j,s))=if j=id then some (.n,s) else some (.x j,s):=rfl
@[simp] theorem zae2(id:Nat):blkX id (some (.r,s))=some (.r,s):=rfl
@[simp] theorem z3u(id:Nat):blkX id none=none:=rfl
@[simp] theorem z7e:stX (some s)=some (.n,s):=rfl
@[simp] theorem z7f:stX none=none:=rfl
@[simp] theorem zabl{f:St→Option St}:bS (some s) f=f s:=rfl
@[simp] theorem zabm{f:St→Option St}:bS none f=none:=rfl
@[simp] theorem zag3{t:Bool}{x y:Option (Ex×St)}:cnX (.b t) x y=if t then x else y:=rfl
@[simp] theorem zabn{x:AV}{d:Option Nat}:pS (some x) d s=some ⟨putE s.env d x,s.heap,s.clk⟩:=rfl
@[simp] theorem zabo{d:Option Nat}:pS none d s=none:=rfl
@[simp] theorem zabp{x:AV}{h:Heap}{c:Nat}{d:Option Nat}:pW (some (x,h,c)) d s=some ⟨putE s.env d x,h,c⟩:=rfl
@[simp] theorem zabq{d:Option Nat}:pW none d s=none:=rfl
@[simp] theorem zabr{x:AV}{h:Heap}{d:Option Nat}:pB (some (x,h)) d s=some ⟨putE s.env d x,h,s.clk⟩:=rfl
@[simp] theorem zabs{d:Option Nat}:pB none d s=none:=rfl
@[simp] theorem zae3{res:List RV}{ex:Bool}:retF res ex (some (.r,s))=(resAV s res).bind fun x=>(frz s.heap x).map (wkIf ex):=rfl
@[simp] theorem zae4{res:List RV}{ex:Bool}:retF res ex (some (.n,s))=(resAV s res).bind fun x=>(frz s.heap x).map (wkIf ex):=rfl
@[simp] theorem zae5{res:List RV}{ex:Bool}{k:Nat}:retH res ex k (some (.r,s))=(resAV s res).map fun x=>((normS ex k [0] ⟨[(0,x)],s.heap,s.clk⟩).env.get 0,(normS ex k [0] ⟨[(0,x)],s.heap,s.clk⟩).heap):=rfl
@[simp] theorem zae6{res:List RV}{ex:Bool}{k:Nat}:retH res ex k (some (.n,s))=(resAV s res).map fun x=>((normS ex k [0] ⟨[(0,x)],s.heap,s.clk⟩).env.get 0,(normS ex k [0] ⟨[(0,x)],s.heap,s.clk⟩).heap):=rfl
end
section
variable{T:Tbl}{k:Nat}{st:St}{d:Option Nat}
noncomputable abbrev X(T:Tbl)(k:Nat)(c:AX)(st:St):Option (Ex×St):=evX (orc T) T k c st
noncomputable abbrev R(T:Tbl)(l:List AO)(st:St):Option St:=runX (orc T) T l st
@[congr] theorem z3v{O:Orc}{c:AX}{st st':St}(h:st=st'):evX O T k c st=evX O T k c st':=by rw[h]
@[congr] theorem z3w{O:Orc}{op:AOp}{d:Option Nat}{st st':St}(h:st=st'):opX O T op d st=opX O T op d st':=by rw[h]
@[simp] theorem zae7:evX (orc T) T k .skip st=some (.n,st):=rfl
@[simp] theorem zag4{l:List AO}:evX (orc T) T k (.reg l) st=stX (runX (orc T) T l st):=rfl
@[simp] theorem zae8{l:List DO}:evX (orc T) T k (.draw l) st=stX (drawX (orc T) T l st.env st.heap st.clk [] []):=rfl
@[simp] theorem zag5{a b:AX}:evX (orc T) T k (.seq a b) st=bX (evX (orc T) T k a st) fun s=>evX (orc T) T k b s:=rfl
@[simp] theorem zae9{c:Opd}{x y:AX}:evX (orc T) T k (.cond c x y) st=cnX (ev st.env.get c) (evX (orc T) T k x st) (evX (orc T) T k y st):=rfl
@[simp] theorem zabt{id:Nat}{c:AX}:evX (orc T) T k (.block id c) st=blkX id (evX (orc T) T k c st):=rfl
@[simp] theorem zafa{c:AX}:evX (orc T) T k (.loop c) st=loopX T k c st:=rfl
def scX(o:Option (Ex×St)):Option (Ex×St):=o.bind fun r=>match r.1 with | .g _=>none | _=>some r
@[congr] theorem z3x{o o':Option (Ex×St)}(h:o=o'):scX o=scX o':=by rw[h]
@[simp] theorem zag6{s:St}:scX (some (.n,s))=some (.n,s):=rfl
@[simp] theorem zag7{j:Nat}{s:St}:scX (some (.x j,s))=some (.x j,s):=rfl
@[simp] theorem zag8{s:St}:scX (some (.r,s))=some (.r,s):=rfl
@[simp] theorem zabu{c:Prop}[Decidable c]{a b:Option (Ex×St)}:scX (if c then a else b)=if c then scX a else scX b:=by split<;>rfl
@[simp] theorem zabv{c:AX}:evX (orc T) T k (.scope c) st=scX (evX (orc T) T k c st):=rfl
@[simp] theorem zabw{l:Nat}:evX (orc T) T k (.label l) st=some (.n,st):=rfl
@[simp] theorem zafb{l:Nat}:evX (orc T) T k (.goto l) st=some (.g l,st):=rfl
@[simp] theorem bX_g{l:Nat}{s:St}{f:St→Option (Ex×St)}:bX (some (.g l,s)) f=some (.g l,s):=rfl
@[simp] theorem zafc{id l:Nat}{s:St}:blkX id (some (.g l,s))=some (.g l,s):=rfl
@[simp] theorem zafd{id:Nat}:evX (orc T) T k (.exit id) st=some (.x id,st):=rfl
@[simp] theorem zag9:evX (orc T) T k .ret st=some (.r,st):=rfl
@[simp] theorem zafe{c:AX}{g:Gh}:evX (orc T) T k (.note c g) st=bX (evX (orc T) T k c st) fun s=>stX (ghS k g s):=rfl
def prX(o:Option St)(f:St→Option (Ex×St)):Option (Ex×St):=o.bind f
@[simp] theorem z7g{s:St}{f:St→Option (Ex×St)}:prX (some s) f=f s:=rfl
@[simp] theorem zaha{c:AX}{g:Gh}:evX (orc T) T k (.pre g c) st=prX (ghS k g st) fun s=>evX (orc T) T k c s:=rfl
noncomputable def finX(k id:Nat)(g2:Gh)(o:Option (Ex×St)):Option (Ex×St):=bX (blkX id o) fun s=>stX (ghS k g2 s)
noncomputable def loopN(T:Tbl)(k id:Nat)(g2:Gh)(c:AX)(st:St):Option (Ex×St):=finX k id g2 (loopX T k c st)
@[congr] theorem zyq{id:Nat}{g2:Gh}{c:AX}{st st':St}(h:st=st'):loopN T k id g2 c st=loopN T k id g2 c st':=by rw[h]
@[congr] theorem z1g{id:Nat}{g2:Gh}{o o':Option (Ex×St)}(h:o=o'):finX k id g2 o=finX k id g2 o':=by rw[h]
@[simp] theorem zaff{id j:Nat}{g2:Gh}{s:St}:finX k id g2 (some (.x j,s))=if j=id then stX (ghS k g2 s) else some (.x j,s):=by
 unfold finX
 rw[z3t]
 split<;>simp
@[simp] theorem zafg{id:Nat}{g2:Gh}{s:St}:finX k id g2 (some (.r,s))=some (.r,s):=rfl
@[simp] theorem X_lp{id:Nat}{g g2:Gh}{c:AX}:evX (orc T) T k (.lp id g c g2) st=prX (ghS k g st) fun s=>loopN T k id g2 c s:=by
 simp only[evX,prX,loopN,finX,bX,blkX,stX,loopX]
 cases ghS k g st with
 | none=>rfl
 | some s=>
  simp only[Option.bind_some]
  cases (orc T).loop k c s with
  | none=>rfl
  | some r=>
   obtain⟨e,s'⟩:=r
   cases e with
   | n=>rfl
   | r=>rfl
   | g l=>rfl
   | x j=>
    simp only[Option.bind_some]
    split<;>rfl
def isEx:Option (Ex×St)→Bool
 | some (.x _,_)=>true
 | some (.r,_)=>true
 | _=>false
@[simp] theorem zafh{j:Nat}{s:St}:isEx (some (.x j,s))=true:=rfl
@[simp] theorem zafi{s:St}:isEx (some (.r,s))=true:=rfl
@[simp] theorem z7h{c:Prop}[Decidable c]{a b:Option (Ex×St)}:isEx (if c then a else b)=if c then isEx a else isEx b:=by split<;>rfl
@[congr] theorem z1h{o o':Option (Ex×St)}(h:o=o'):isEx o=isEx o':=by rw[h]
theorem zot{c:AX}:loopX T k c st=bX (evX (orc T) T k c st) fun s=>loopX T k c s:=zvs T k c st
theorem zas{α:Type}{id:Nat}{g2:Gh}{c:AX}(F:α→St)(I:α→Prop)(μ:α→Nat)(Q:Ex×St→Prop)
  (step:∀x,I x→(∃y,I y∧μ y<μ x∧evX (orc T) T k c (F x)=some (.n,F y))∨(∃r,Q r∧isEx (evX (orc T) T k c (F x))=true∧finX k id g2 (evX (orc T) T k c (F x))=some r)) :
  ∀x,I x→∃r,Q r∧loopN T k id g2 c (F x)=some r:=by
 have key:∀n x,μ x=n→I x→∃r,Q r∧loopN T k id g2 c (F x)=some r:=by
  intro n
  induction n using Nat.strongRecOn with
  | _ n ih=>
   intro x hn hI
   unfold loopN
   rw[zot]
   rcases step x hI with ⟨y,h1,h2,h3⟩ | ⟨r,h1,h2,h3⟩
   ·rw[h3,bX_n]
    exact ih (μ y) (hn▸h2) y rfl h1
   ·refine⟨r,h1,?_⟩
    rw[←h3]
    generalize evX (orc T) T k c (F x)=o at h2 ⊢
    cases o with
    | none=>cases h2
    | some q=>
     obtain⟨e,s⟩:=q
     cases e
     ·cases h2
     ·rfl
     ·rfl
     ·cases h2
 exact fun x hI=>key _ x rfl hI
theorem zaw{α:Type}{id:Nat}{g2:Gh}{c:AX}(F:α→St)(I:α→Prop)(μ:α→Nat)(G:α→Option (Ex×St))
  (step:∀x,I x→(∃y,I y∧μ y<μ x∧evX (orc T) T k c (F x)=some (.n,F y)∧G y=G x)∨(isEx (evX (orc T) T k c (F x))=true∧finX k id g2 (evX (orc T) T k c (F x))=G x)) :
  ∀x,I x→loopN T k id g2 c (F x)=G x:=by
 have key:∀n x,μ x=n→I x→loopN T k id g2 c (F x)=G x:=by
  intro n
  induction n using Nat.strongRecOn with
  | _ n ih=>
   intro x hn hI
   unfold loopN
   rw[zot]
   rcases step x hI with ⟨y,h1,h2,h3,h4⟩ | ⟨h2,h3⟩
   ·rw[h3,bX_n,←h4]
    exact ih (μ y) (hn▸h2) y rfl h1
   ·rw[←h3]
    generalize evX (orc T) T k c (F x)=o at h2 ⊢
    cases o with
    | none=>cases h2
    | some q=>
     obtain⟨e,s⟩:=q
     cases e
     ·cases h2
     ·rfl
     ·rfl
     ·cases h2
 exact fun x hI=>key _ x rfl hI
@[simp] theorem zahb:runX (orc T) T [] st=some st:=rfl
@[simp] theorem zafj{d:Option Nat}{op:AOp}{l:List AO}:runX (orc T) T (⟨d,none,op⟩::l) st=bS (opX (orc T) T op d st) fun s=>runX (orc T) T l s:=rfl
noncomputable def gS(T:Tbl)(x:AV)(want:Bool)(op:AOp)(d:Option Nat)(st:St):Option St:=gX (orc T) T x want op d st
@[congr] theorem z7i{x x':AV}{want:Bool}{op:AOp}(h:x=x'):gS T x want op d st=gS T x' want op d st:=by rw[h]
@[simp] theorem zabx{d:Option Nat}{op:AOp}{l:List AO}{t:Nat}{w:Bool}:runX (orc T) T (⟨d,some (t,w),op⟩::l) st=bS (gS T (st.env.get t) w op d st) fun s=>runX (orc T) T l s:=rfl
@[simp] theorem gS_b{v want:Bool}{op:AOp}:gS T (.b v) want op d st=if v=want then opX (orc T) T op d st else some ⟨putE st.env d (.tup []),st.heap,st.clk⟩:=rfl
@[simp] theorem zafk{vs:List AV}{want:Bool}{op:AOp}:gS T (.tup vs) want op d st=some ⟨putE st.env d (.tup []),st.heap,st.clk⟩:=rfl
@[simp] theorem zahc{x}:opX (orc T) T (.mov x) d st=some ⟨putE st.env d (ev st.env.get x),st.heap,st.clk⟩:=rfl
@[simp] theorem zafl{c a b}:opX (orc T) T (.pick c a b) d st=pS (pickAV (ev st.env.get c) (ev st.env.get a) (ev st.env.get b)) d st:=rfl
@[simp] theorem zaby{zs ps}:opX (orc T) T (.build zs ps) d st=pS ((fillL zs (ps.map fun p=>(p.1,p.2.1,ev st.env.get p.2.2))).map .agg) d st:=rfl
@[simp] theorem zafm{n x}:opX (orc T) T (.load n x) d st=pS (loadAV n st.heap (ev st.env.get x)) d st:=rfl
@[simp] theorem zahd{o x y}:opX (orc T) T (.bin o x y) d st=pS (binV o (ev st.env.get x) (ev st.env.get y)) d st:=rfl
@[simp] theorem zahe{g ls x y}:opX (orc T) T (.eqs g ls x y) d st=pS (eqsAV g ls (ev st.env.get x) (ev st.env.get y)) d st:=rfl
@[simp] theorem zabz{g x}:opX (orc T) T (.eqnil g x) d st=pS (eqnilAV g (ev st.env.get x)) d st:=rfl
@[simp] theorem zahf{g x y}:opX (orc T) T (.eqb g x y) d st=pS (eqbAV g (ev st.env.get x) (ev st.env.get y)) d st:=rfl
@[simp] theorem O_un{o x}:opX (orc T) T (.un o x) d st=pS (unAV o (ev st.env.get x)) d st:=rfl
@[simp] theorem zafn{n x}:opX (orc T) T (.conv n x) d st=pS (convAV n (ev st.env.get x)) d st:=rfl
@[simp] theorem zahg{z x lo hi mx}:opX (orc T) T (.slc z x lo hi mx) d st=pS (slcAV z st.heap (ev st.env.get x) (evO st.env.get lo) (evO st.env.get hi) (evO st.env.get mx)) d st:=rfl
@[simp] theorem zab0{x lo hi}:opX (orc T) T (.slstr x lo hi) d st=pS (slstrAV (ev st.env.get x) (evO st.env.get lo) (evO st.env.get hi)) d st:=rfl
@[simp] theorem zahh{o x}:opX (orc T) T (.fad o x) d st=pS (fadAV o st.heap (ev st.env.get x)) d st:=rfl
@[simp] theorem zahi{o n x}:opX (orc T) T (.fld o n x) d st=pS (fldAV o n (ev st.env.get x)) d st:=rfl
@[simp] theorem zahj{z x i}:opX (orc T) T (.iad z x i) d st=pS (iadAV z st.heap (ev st.env.get x) (ev st.env.get i)) d st:=rfl
@[simp] theorem zahk{z n x i}:opX (orc T) T (.iaa z n x i) d st=pS (iaaAV z n st.heap (ev st.env.get x) (ev st.env.get i)) d st:=rfl
@[simp] theorem zahl{x i}:opX (orc T) T (.ixs x i) d st=pS (ixsAV (ev st.env.get x) (ev st.env.get i)) d st:=rfl
@[simp] theorem zahm{z l n x i}:opX (orc T) T (.ixa z l n x i) d st=pS (ixaAV z l n (ev st.env.get x) (ev st.env.get i)) d st:=rfl
@[simp] theorem zahn{x}:opX (orc T) T (.len x) d st=pS (lenAV st.heap (ev st.env.get x)) d st:=rfl
@[simp] theorem zafo{x}:opX (orc T) T (.lens x) d st=pS (lensAV (ev st.env.get x)) d st:=rfl
@[simp] theorem zafp{n}:opX (orc T) T (.lenc n) d st=some ⟨putE st.env d (.i .i64 n),st.heap,st.clk⟩:=rfl
@[simp] theorem O_mm{m xs}:opX (orc T) T (.mm m xs) d st=pS (mmAV m (xs.map (ev st.env.get))) d st:=rfl
@[simp] theorem zaho{x n}:opX (orc T) T (.ext x n) d st=pS (extAV n (ev st.env.get x)) d st:=rfl
@[simp] theorem zafq{x}:opX (orc T) T (.nilc x) d st=pS (nilcAV st.heap (ev st.env.get x)) d st:=rfl
@[simp] theorem zab1{zs}:opX (orc T) T (.alloc zs) d st=pW (allocAV zs d st.heap st.clk) d st:=rfl
@[simp] theorem zab2{n x v}:opX (orc T) T (.store n x v) d st=pW ((storeAV n st.heap (ev st.env.get x) (ev st.env.get v)).map fun h'=>(.tup [],h',st.clk)) d st:=rfl
@[simp] theorem zahp{z zs l c}:opX (orc T) T (.mks z zs l c) d st=pW (mksAV z zs d st.heap st.clk (ev st.env.get l) (ev st.env.get c)) d st:=rfl
@[simp] theorem zahq{z x y}:opX (orc T) T (.app z x y) d st=pW (appAV z d st.heap st.clk (ev st.env.get x) (ev st.env.get y)) d st:=rfl
@[simp] theorem zafr{n xs}:opX (orc T) T (.xop (.box n) xs) d st=pW (stepXV (.box n) (xs.map (ev st.env.get)) d st.heap st.clk) d st:=rfl
@[simp] theorem zafs{xs}:opX (orc T) T (.xop .cpy xs) d st=pW (stepXV .cpy (xs.map (ev st.env.get)) d st.heap st.clk) d st:=rfl
@[simp] theorem zab3{xs}:opX (orc T) T (.xop .bstr xs) d st=pW (stepXV .bstr (xs.map (ev st.env.get)) d st.heap st.clk) d st:=rfl
@[simp] theorem zab4{n xs}:opX (orc T) T (.xop (.arsl n) xs) d st=pW (stepXV (.arsl n) (xs.map (ev st.env.get)) d st.heap st.clk) d st:=rfl
@[simp] theorem zab5{xs}:opX (orc T) T (.xop .apps xs) d st=pW (stepXV .apps (xs.map (ev st.env.get)) d st.heap st.clk) d st:=rfl
@[simp] theorem zaft{xs}:opX (orc T) T (.xop .bad xs) d st=pW (stepXV .bad (xs.map (ev st.env.get)) d st.heap st.clk) d st:=rfl
@[simp] theorem zahr{n xs}:opX (orc T) T (.xop (.mkf n) xs) d st=pW (stepXV (.mkf (tyNum T n)) (xs.map (ev st.env.get)) d st.heap st.clk) d st:=rfl
@[simp] theorem zafu{k zv ok x i}:opX (orc T) T (.look k zv ok x i) d st=pS (lookAV k zv ok st.heap (ev st.env.get x) (ev st.env.get i)) d st:=rfl
@[simp] theorem zafv{xs}:opX (orc T) T (.xop .mmap xs) d st=pW (stepXV .mmap (xs.map (ev st.env.get)) d st.heap st.clk) d st:=rfl
@[simp] theorem zafw{k xs}:opX (orc T) T (.xop (.mupd k) xs) d st=pW (stepXV (.mupd k) (xs.map (ev st.env.get)) d st.heap st.clk) d st:=rfl
@[simp] theorem zyr{dd:Option Nat}{h:Heap}{clk:Nat}:stepXV .mmap [] dd h clk=mmapXV dd h clk:=rfl
@[simp] theorem zys{n:Nat}{h:Heap}{clk:Nat}:mmapXV (some n) h clk=some (.fnp 0 (.loc n) clk 2 0 0,(.loc n,⟨clk,.mp,2,[]⟩)::h,clk+1):=rfl
@[simp] theorem z7j(h:Heap)(id:BId)(g:Nat):mapAt h id g=(match h.lookup id with | some bx=>if bx.gen=g∧bx.z=2∧bx.kind=.mp then some bx else none | none=>none):=rfl
@[simp] theorem z1i{k:KTy}{zv:AV}{ok:Bool}{h:Heap}{id:BId}{g:Nat}{i:AV}:lookAV k zv ok h (.fnp 0 id g 2 0 0) i=(mapAt h id g).bind fun bx=>if (keyEq k i i).isSome&&noRef i then (findE k i bx.els).map fun r=>
   if ok then .tup [r.getD zv,.b r.isSome] else r.getD zv else none:=rfl
@[simp] theorem z3y{k k':IntKind}{a b:Int}:keyEq .int (.i k a) (.i k' b)=if k=k' then some (a == b) else none:=rfl
@[simp] theorem z7k{ls:List (Nat×Leaf)}{xs ys:List AV}:keyEq (.fs ls) (.agg xs) (.agg ys)=eqL ls xs ys:=rfl
@[simp] theorem z1j:isNew (some none)=true:=rfl
@[simp] theorem z3z{k:KTy}{x:AV}:findE k x []=some none:=rfl
@[simp] theorem zyt{k:KTy}{id:BId}{g:Nat}{i y:AV}{dd:Option Nat}{h:Heap}{clk:Nat}:stepXV (.mupd k) [.fnp 0 id g 2 0 0,i,y] dd h clk =
  (mapAt h id g).bind fun bx=>if (keyEq k i i).isSome&&noRef i&&noRef y&&isNew (findE k i bx.els) then some (.dead,(id,⟨g,.mp,2,bx.els++[[i,y]]⟩)::h,clk) else none:=rfl
@[simp] theorem zahs{n xs}:opX (orc T) T (.xop (.mkv n) xs) d st=pW (stepXV (.mkv (tyNum T n)) (xs.map (ev st.env.get)) d st.heap st.clk) d st:=rfl
@[simp] theorem z1k{f:Nat}{x:AV}{dd:Option Nat}{h:Heap}{clk:Nat}:stepXV (.mkv f) [x] dd h clk=if noRef x=true then some (.fnv f x,h,clk) else none:=rfl
@[simp] theorem zaht{z zs n ps}:opX (orc T) T (.bsl z zs n ps) d st=pB (bslAV z zs n st.heap (ps.map fun p=>(p.1,ev st.env.get p.2))) d st:=rfl
@[simp] theorem zafx{u args}:opX (orc T) T (.call u args) d st=callX (orc T) T u (args.map (ev st.env.get)) d st:=rfl
def cR(r:Option AV)(xs:List AV)(d:Option Nat)(st:St):Option St:=
 r.map fun r=>⟨putE st.env d r,if scalar r then st.heap else shareIds (xs.flatMap refs) st.heap,st.clk⟩
@[congr] theorem z7l{r r':Option AV}{xs:List AV}(h:r=r'):cR r xs d st=cR r' xs d st:=by rw[h]
@[simp] theorem zab6{r:AV}{xs:List AV}:cR (some r) xs d st=some ⟨putE st.env d r,if scalar r then st.heap else shareIds (xs.flatMap refs) st.heap,st.clk⟩:=rfl
def bL(o:Option (List AV))(f:List AV→Option St):Option St:=o.bind f
@[congr] theorem z7m{o o':Option (List AV)}{f:List AV→Option St}(h:o=o'):bL o f=bL o' f:=by rw[h]
@[simp] theorem zab7{xs:List AV}{f:List AV→Option St}:bL (some xs) f=f xs:=rfl
def frzL(h:Heap):List AV→Option (List AV)
 | []=>some []
 | x::l=>(frz1 h x).bind fun y=>(frzL h l).map fun ys=>y::ys
theorem zs4(h:Heap):∀l:List AV,l.mapM (frz1 h)=frzL h l
 | []=>rfl
 | x::l=>by simp only[List.mapM_cons,frzL,zs4 h l,Option.bind_eq_bind,Option.pure_def,Option.map_eq_bind,Function.comp_def]
attribute [simp] frzL frzM refsM rootsM
theorem zaa{u:Nat}{xs:List AV}{np nt:Nat}{res:List RV}{b:AX}{ex:Bool}(hT:T u=some ⟨np,nt,res,b,none,ex⟩) :
  callX (orc T) T u xs d st=bL (frzL st.heap xs) fun ys=>cR (callF T u (ys.map (wkIf ex))) xs d st:=by
 unfold callX bL cR callF
 rw[hT]
 simp only[zs4]
 congr 1
 funext ys
 cases (orc T).call u (ys.map (wkIf ex)) []<;>rfl
theorem zac{u:Nat}{xs:List AV}{np nt:Nat}{res:List RV}{b:AX}{ex:Bool}(hT:T u=some ⟨np,nt,res,b,none,ex⟩)(hn:xs.length=np)(hp:b.isPrim=none:=by rfl) :
  callF T u xs=retF res ex (evX (orc T) T 0 b ⟨argEnv xs,[],1⟩):=by
 unfold callF retF
 rw[zji]
 simp only[nextO,hT,hp]
 rw[if_pos ⟨hn,by simp⟩]
 simp only[List.length_nil,Nat.zero_add]
 cases evX (orc T) T 0 b ⟨argEnv xs,[],1⟩ with
 | none=>rfl
 | some r=>
  obtain⟨e,s⟩:=r
  cases e<;>simp only[Option.bind_some,endX,Option.map_none]<;>(cases resAV s res<;>simp only[Option.bind_none,Option.map_none,Option.bind_some]<;>cases frz s.heap _<;>rfl)
theorem zij{u:Nat}{xs:List AV}{np nt:Nat}{res:List RV}{f:List AV→Option AV}{ex:Bool}(hT:T u=some ⟨np,nt,res,.prim f,none,ex⟩):callF T u xs=f xs:=by
 unfold callF
 rw[zji]
 simp only[nextO,hT,AX.isPrim]
 cases f xs<;>simp
theorem zax{u:Nat}{xs:List AV}{hb:Heap}{np nt:Nat}{res:List RV}{b:AX}{ms:List Bool}{ex:Bool}(hT:T u=some ⟨np,nt,res,b,some ms,ex⟩)(hn:xs.length=np)(hp:b.isPrim=none:=by rfl) :
  callH T u xs hb=retH res ex hb.length (evX (orc T) T hb.length b ⟨argEnv xs,hb,hb.length+1⟩):=by
 unfold callH retH
 rw[zji]
 simp only[nextO,hT,hp]
 rw[if_pos ⟨hn,by simp⟩]
 cases evX (orc T) T hb.length b ⟨argEnv xs,hb,hb.length+1⟩ with
 | none=>rfl
 | some r=>
  obtain⟨e,s⟩:=r
  cases e<;>simp only[Option.bind_some,endX]<;>(cases resAV s res<;>rfl)
def outX(l:List BId)(hp h1:Heap)(r:Option (AV×Heap))(d:Option Nat)(st:St):Option St:=
 r.bind fun r=>
  let hb':=r.2.map fun p=>(outN l (d.getD 0) p.1,rlBox true (outN l (d.getD 0)) (outG hp st.clk) p.2)
  let r':=rlA (outN l (d.getD 0)) (outG hp st.clk) r.1
  if (hb'.map (·.1)).Nodup&&refOk hb' r'&&heapOk hb' then
   some ⟨putE st.env d r',hb'++(h1.filter fun p=>!(l.contains p.1 || (hb'.map (·.1)).contains p.1)),st.clk+r.2.length+2⟩
  else none
@[congr] theorem z1l{l:List BId}{hp h1:Heap}{r r':Option (AV×Heap)}(h:r=r'):outX l hp h1 r d st=outX l hp h1 r' d st:=by rw[h]
noncomputable def lentX(ys:List AV)(h1:Heap)(l:List BId)(T:Tbl)(u:Nat)(ex:Bool)(d:Option Nat)(st:St):Option St:=
 if (pickH h1 l).map (·.1)=l∧l.Nodup then
  outX l (pickH h1 l) h1 (callH T u (ys.map fun y=>rlA (inN l) (inG (pickH h1 l)) (wkIf ex y)) ((pickH h1 l).map fun p=>(inN l p.1,rlBox ex (inN l) (inG (pickH h1 l)) p.2))) d st
 else none
@[simp] theorem z30{l:List BId}{hp h1:Heap}{r:AV}{h2:Heap}:outX l hp h1 (some (r,h2)) d st =
  (if ((h2.map fun p=>(outN l (d.getD 0) p.1,rlBox true (outN l (d.getD 0)) (outG hp st.clk) p.2)).map (·.1)).Nodup&&refOk (h2.map fun p=>(outN l (d.getD 0) p.1,rlBox true (outN l (d.getD 0)) (outG hp st.clk) p.2)) (rlA (outN l (d.getD 0)) (outG hp st.clk) r)&&heapOk (h2.map fun p=>(outN l (d.getD 0) p.1,rlBox true (outN l (d.getD 0)) (outG hp st.clk) p.2)) then
   some ⟨putE st.env d (rlA (outN l (d.getD 0)) (outG hp st.clk) r),(h2.map fun p=>(outN l (d.getD 0) p.1,rlBox true (outN l (d.getD 0)) (outG hp st.clk) p.2))++(h1.filter fun p=>!(l.contains p.1 || ((h2.map fun p=>(outN l (d.getD 0) p.1,rlBox true (outN l (d.getD 0)) (outG hp st.clk) p.2)).map (·.1)).contains p.1)),st.clk+h2.length+2⟩
  else none):=rfl
attribute [simp] lentX outN outG inN inG nameIx heapOk
theorem zap{u:Nat}{xs:List AV}{np nt:Nat}{res:List RV}{b:AX}{ms:List Bool}{ex:Bool}(hT:T u=some ⟨np,nt,res,b,some ms,ex⟩) :
  callX (orc T) T u xs d st=bL (frzM st.heap ms xs) fun ys=>lentX ys (shareIds (refsM ms xs) st.heap) (reach (shareIds (refsM ms xs) st.heap) 40 (rootsM ms xs) []) T u ex d st:=by
 unfold callX bL lentX outX callH
 rw[hT]
def bD(o:Option (AV×Bool))(f:AV×Bool→Option St):Option St:=o.bind f
@[congr] theorem z7n{o o':Option (AV×Bool)}{f:AV×Bool→Option St}(h:o=o'):bD o f=bD o' f:=by rw[h]
@[simp] theorem zab8{e:AV×Bool}{f:AV×Bool→Option St}:bD (some e) f=f e:=rfl
def bWr(o:Option (AV×Heap×Nat))(f:AV×Heap×Nat→Option St):Option St:=o.bind f
@[congr] theorem z32{o o':Option (AV×Heap×Nat)}{f:AV×Heap×Nat→Option St}(h:o=o'):bWr o f=bWr o' f:=by rw[h]
@[simp] theorem z7o{q:AV×Heap×Nat}{f:AV×Heap×Nat→Option St}:bWr (some q) f=f q:=rfl
def iP(b:Bool)(x:Option St):Option St:=if b then x else none
@[congr] theorem z7p{b b':Bool}{x:Option St}(h:b=b'):iP b x=iP b' x:=by rw[h]
@[simp] theorem zab9{x:Option St}:iP true x=x:=rfl
@[simp] theorem z1m{h:Heap}:pendOk [] h=true:=by
 classical
 unfold pendOk
 exact decide_eq_true fun p hp=>by cases hp
@[simp] theorem zyu{q:AOp×Env×AV}{l:PendX}{h:Heap}:pendOk ((0,q)::l) h=pendOk l h:=by
 classical
 unfold pendOk
 refine decide_eq_decide.2 ⟨fun h1 p hp=>h1 p (List.mem_cons_of_mem _ hp),fun h1 p hp h0=>?_⟩
 rcases List.mem_cons.1 hp with rfl | hp
 ·cases h0
 ·exact h1 p hp h0
@[simp] theorem zyv{n:Nat}{op:AOp}{e:Env}{x:AV}{l:PendX}{h:Heap}(hs:stepP op e.get h=some x):pendOk ((n,op,e,x)::l) h=pendOk l h:=by
 classical
 unfold pendOk
 refine decide_eq_decide.2 ⟨fun h1 p hp=>h1 p (List.mem_cons_of_mem _ hp),fun h1 p hp h0=>?_⟩
 rcases List.mem_cons.1 hp with rfl | hp
 ·exact hs
 ·exact h1 p hp h0
theorem zp1{op:AOp}{e:Env}{older:List Heap}{x:AV}(hf:op.free=true):keepD op e older x=true:=by unfold keepD;rw[hf];rfl
theorem zs5{op:AOp}{e:Env}{x:AV}:keepD op e [] x=true:=by
 classical
 unfold keepD
 rw[Bool.or_eq_true]
 exact .inr (decide_eq_true fun h' hh=>by cases hh)
noncomputable def rD(T:Tbl)(q:Option (Nat×List AV))(o:DO)(r:List DO)(e:Env)(h:Heap)(clk:Nat)(older:List Heap)(pend:PendX):Option St:=
 match q with
 | none=>bD (qX (orc T) T o.ao e h (older.take (older.length-o.lo))) fun x=>drawX (orc T) T r (putE e o.ao.dst x.1) h clk older (pendAdd o older.length e x pend)
 | some p=>(callR (orc T) T p.1 p.2).bind fun x=>drawX (orc T) T r (putE e o.ao.dst x) h clk older (if older.length<o.hi then (o.hi-older.length,o.ao.op,e,.tup p.2)::pend else pend)
@[simp] theorem zaca{o:DO}{r:List DO}{e:Env}{h:Heap}{clk:Nat}{older:List Heap}{pend:PendX}:rD T none o r e h clk older pend=bD (qX (orc T) T o.ao e h (older.take (older.length-o.lo))) fun x=>drawX (orc T) T r (putE e o.ao.dst x.1) h clk older (pendAdd o older.length e x pend):=rfl
noncomputable def bAV(o:Option AV)(f:AV→Option St):Option St:=o.bind f
@[simp] theorem z7q{x:AV}{f:AV→Option St}:bAV (some x) f=f x:=rfl
@[simp] theorem zacb{u:Nat}{ys:List AV}{o:DO}{r:List DO}{e:Env}{h:Heap}{clk:Nat}{older:List Heap}{pend:PendX}:rD T (some (u,ys)) o r e h clk older pend=bAV (callR (orc T) T u ys) fun x=>drawX (orc T) T r (putE e o.ao.dst x) h clk older (if older.length<o.hi then (o.hi-older.length,o.ao.op,e,.tup ys)::pend else pend):=rfl
open Classical in
noncomputable def rK(u:Nat)(xs ys:List AV)(older:List Heap):Option (Nat×List AV):=if decide (∀h'∈older,frzRL h' xs=some ys)=true then some (u,ys) else none
@[simp] theorem zacc{g:Option (Nat×Bool)}{e:Env}{h:Heap}{older:List Heap}:rowQ g none e h older=none:=by cases g<;>rfl
@[simp] theorem zacd{g:Nat×Bool}{c:Option (Nat×List Opd)}{e:Env}{h:Heap}{older:List Heap}:rowQ (some g) c e h older=none:=by cases c<;>rfl
noncomputable def rC(c:Bool)(u:Nat)(xs:List AV)(h:Heap)(older:List Heap):Option (Nat×List AV):=
 match c with
 | true=>none
 | false=>(frzRL h xs).bind fun ys=>rK u xs ys older
@[simp] theorem zace{u:Nat}{xs:List AV}{h:Heap}{older:List Heap}:rC true u xs h older=none:=rfl
@[simp] theorem z7r{u:Nat}{xs:List AV}{h:Heap}{older:List Heap}:rC false u xs h older=(frzRL h xs).bind fun ys=>rK u xs ys older:=rfl
@[simp] theorem z33{q:Nat×List Opd}{e:Env}{h:Heap}{older:List Heap}:rowQ none (some q) e h older=rC ((q.2.map (ev e.get)).all noRef) q.1 (q.2.map (ev e.get)) h older:=by
 classical
 unfold rowQ rowQ1 rC
 cases hc:(q.2.map (ev e.get)).all noRef with
 | true=>simp only[hc,if_true,Option.map_none]
 | false=>
  simp only[hc,Bool.false_eq_true,if_false]
  cases frzRL h (q.2.map (ev e.get)) with
  | none=>rfl
  | some ys=>
   simp only[Option.bind_some,rK]
   split<;>rfl
noncomputable def dX(T:Tbl)(wr:Bool)(o:DO)(r:List DO)(e:Env)(h:Heap)(clk:Nat)(older:List Heap)(pend:PendX):Option St:=
 match wr with
 | true=>if o.ao.guard.isNone then bWr (stepW o.ao.op o.ao.dst e.get h clk) fun q=>iP (pendOk pend q.2.1) (drawX (orc T) T r (putE e o.ao.dst q.1) q.2.1 q.2.2 (h::older) (pend.map fun p=>(p.1-1,p.2))) else none
 | false=>rD T (rowQ o.ao.guard o.ao.op.callN e h (older.take (older.length-o.lo))) o r e h clk older pend
@[congr] theorem zyw{l:List DO}{e e':Env}{h h':Heap}{clk clk':Nat}{older older':List Heap}{pend pend':PendX}(h1:e=e')(h2:h=h')(h3:clk=clk')(h4:older=older')(h5:pend=pend'):drawX (orc T) T l e h clk older pend=drawX (orc T) T l e' h' clk' older' pend':=by rw[h1,h2,h3,h4,h5]
@[simp] theorem z34{e:Env}{h:Heap}{clk:Nat}{older:List Heap}{pend:PendX}:drawX (orc T) T [] e h clk older pend=some ⟨e,h,clk⟩:=rfl
@[simp] theorem z1n{o:DO}{r:List DO}{e:Env}{h:Heap}{clk:Nat}{older:List Heap}{pend:PendX}:drawX (orc T) T (o::r) e h clk older pend=dX T o.ao.op.writes o r e h clk older pend:=by
 unfold dX
 rw[drawX]
 cases o.ao.op.writes with
 | true=>rfl
 | false=>
  unfold rD
  simp only
  cases rowQ o.ao.guard o.ao.op.callN e h (older.take (older.length-o.lo))<;>rfl
@[simp] theorem zacf{o:DO}{r:List DO}{e:Env}{h:Heap}{clk:Nat}{older:List Heap}{pend:PendX}:dX T true o r e h clk older pend=if o.ao.guard.isNone then bWr (stepW o.ao.op o.ao.dst e.get h clk) fun q=>iP (pendOk pend q.2.1) (drawX (orc T) T r (putE e o.ao.dst q.1) q.2.1 q.2.2 (h::older) (pend.map fun p=>(p.1-1,p.2))) else none:=rfl
@[simp] theorem z7s{o:DO}{r:List DO}{e:Env}{h:Heap}{clk:Nat}{older:List Heap}{pend:PendX}:dX T false o r e h clk older pend=rD T (rowQ o.ao.guard o.ao.op.callN e h (older.take (older.length-o.lo))) o r e h clk older pend:=rfl
def dV(o:Option AV):Option (AV×Bool):=o.map fun x=>(x,true)
@[simp] theorem zacg{x:AV}:dV (some x)=some (x,true):=rfl
@[simp] theorem zach:dV none=none:=rfl
@[simp] theorem zaci{op:AOp}{e:Env}{h:Heap}{older:List Heap}:qX (orc T) T ⟨d,none,op⟩ e h older=dV (opD (orc T) T op e h older):=rfl
noncomputable def gD(T:Tbl)(x:AV)(want:Bool)(op:AOp)(e:Env)(h:Heap)(older:List Heap):Option (AV×Bool):=
 match x with
 | .b v=>if v=want then dV (opD (orc T) T op e h older) else some (.tup [],false)
 | .tup []=>some (.tup [],false)
 | _=>none
@[congr] theorem z7t{x x':AV}{want:Bool}{op:AOp}{e:Env}{h:Heap}{older:List Heap}(h1:x=x'):gD T x want op e h older=gD T x' want op e h older:=by rw[h1]
@[simp] theorem zacj{t:Nat}{want:Bool}{op:AOp}{e:Env}{h:Heap}{older:List Heap}:qX (orc T) T ⟨d,some (t,want),op⟩ e h older=gD T (e.get t) want op e h older:=rfl
@[simp] theorem gD_b{v want:Bool}{op:AOp}{e:Env}{h:Heap}{older:List Heap}:gD T (.b v) want op e h older=if v=want then dV (opD (orc T) T op e h older) else some (.tup [],false):=rfl
@[simp] theorem zafy{want:Bool}{op:AOp}{e:Env}{h:Heap}{older:List Heap}:gD T (.tup []) want op e h older=some (.tup [],false):=rfl
noncomputable def dC(o:Option AV)(op:AOp)(older:List Heap)(e:Env):Option AV:=o.bind fun x=>if keepD op e older x then some x else none
@[congr] theorem z7u{o o':Option AV}{op:AOp}{older:List Heap}{e:Env}(h1:o=o'):dC o op older e=dC o' op older e:=by rw[h1]
@[simp] theorem zafz{x:AV}{op:AOp}{e:Env}:dC (some x) op [] e=some x:=by
 unfold dC
 rw[Option.bind_some,zs5]
 rfl
theorem zbc{op:AOp}{h:Heap}{older:List Heap}{e:Env}(hf:op.free=true):((stepQ op e.get h).bind fun x=>if keepD op e older x then some x else none)=stepQ op e.get h:=by
 cases stepQ op e.get h with
 | none=>rfl
 | some x=>rw[Option.bind_some,zp1 hf];rfl
@[simp] theorem zahu{x}{e:Env}{h:Heap}{older:List Heap}:opD (orc T) T (.mov x) e h older=some (ev e.get x):=zbc (op:=.mov x) (h:=h) (older:=older) (e:=e) rfl
@[simp] theorem zahv{z y}{e:Env}{h:Heap}{older:List Heap}:opD (orc T) T (.app z (.c (.sl [] .nl)) y) e h older=cpnAV z (ev e.get y):=rfl
@[simp] theorem z7v{z:Nat}{els:List (List AV)}{f:Fl}:cpnAV z (.sl els f)=if (els.head?.all fun r=>r.length=z)∧els.length≤4294967296 then some (.sl els .an) else none:=rfl
@[simp] theorem zw8{z n y}:(AOp.app z (.t n) y).writes=true:=rfl
@[simp] theorem z1o{z n y}:(AOp.app z (.t n) y).free=false:=rfl
@[simp] theorem zyx{z n y}:(AOp.app z (.t n) y).maker=true:=rfl
@[simp] theorem z1p{z y}:(AOp.app z (.c (.sl [] .nl)) y).writes=false:=rfl
@[simp] theorem z7w{z y}:(AOp.app z (.c (.sl [] .nl)) y).free=true:=rfl
@[simp] theorem z35{z y}:(AOp.app z (.c (.sl [] .nl)) y).maker=false:=rfl
@[simp] theorem zaf0{c a b}{e:Env}{h:Heap}{older:List Heap}:opD (orc T) T (.pick c a b) e h older=pickAV (ev e.get c) (ev e.get a) (ev e.get b):=zbc (op:=.pick c a b) (h:=h) (older:=older) (e:=e) rfl
@[simp] theorem zack{zs ps}{e:Env}{h:Heap}{older:List Heap}:opD (orc T) T (.build zs ps) e h older=(fillL zs (ps.map fun p=>(p.1,p.2.1,ev e.get p.2.2))).map .agg:=zbc (op:=.build zs ps) (h:=h) (older:=older) (e:=e) rfl
@[simp] theorem zahw{o x y}{e:Env}{h:Heap}{older:List Heap}:opD (orc T) T (.bin o x y) e h older=binV o (ev e.get x) (ev e.get y):=zbc (op:=.bin o x y) (h:=h) (older:=older) (e:=e) rfl
@[simp] theorem zahx{g ls x y}{e:Env}{h:Heap}{older:List Heap}:opD (orc T) T (.eqs g ls x y) e h older=eqsAV g ls (ev e.get x) (ev e.get y):=zbc (op:=.eqs g ls x y) (h:=h) (older:=older) (e:=e) rfl
@[simp] theorem zacl{g x}{e:Env}{h:Heap}{older:List Heap}:opD (orc T) T (.eqnil g x) e h older=eqnilAV g (ev e.get x):=zbc (op:=.eqnil g x) (h:=h) (older:=older) (e:=e) rfl
@[simp] theorem zahy{g x y}{e:Env}{h:Heap}{older:List Heap}:opD (orc T) T (.eqb g x y) e h older=eqbAV g (ev e.get x) (ev e.get y):=zbc (op:=.eqb g x y) (h:=h) (older:=older) (e:=e) rfl
@[simp] theorem D_un{o x}{e:Env}{h:Heap}{older:List Heap}:opD (orc T) T (.un o x) e h older=unAV o (ev e.get x):=zbc (op:=.un o x) (h:=h) (older:=older) (e:=e) rfl
@[simp] theorem zaf1{k x}{e:Env}{h:Heap}{older:List Heap}:opD (orc T) T (.conv k x) e h older=convAV k (ev e.get x):=zbc (op:=.conv k x) (h:=h) (older:=older) (e:=e) rfl
@[simp] theorem zacm{x lo hi}{e:Env}{h:Heap}{older:List Heap}:opD (orc T) T (.slstr x lo hi) e h older=slstrAV (ev e.get x) (evO e.get lo) (evO e.get hi):=zbc (op:=.slstr x lo hi) (h:=h) (older:=older) (e:=e) rfl
@[simp] theorem zahz{o n x}{e:Env}{h:Heap}{older:List Heap}:opD (orc T) T (.fld o n x) e h older=fldAV o n (ev e.get x):=zbc (op:=.fld o n x) (h:=h) (older:=older) (e:=e) rfl
@[simp] theorem zah0{x i}{e:Env}{h:Heap}{older:List Heap}:opD (orc T) T (.ixs x i) e h older=ixsAV (ev e.get x) (ev e.get i):=zbc (op:=.ixs x i) (h:=h) (older:=older) (e:=e) rfl
@[simp] theorem zah1{z l n x i}{e:Env}{h:Heap}{older:List Heap}:opD (orc T) T (.ixa z l n x i) e h older=ixaAV z l n (ev e.get x) (ev e.get i):=zbc (op:=.ixa z l n x i) (h:=h) (older:=older) (e:=e) rfl
@[simp] theorem zaf2{x}{e:Env}{h:Heap}{older:List Heap}:opD (orc T) T (.lens x) e h older=lensAV (ev e.get x):=zbc (op:=.lens x) (h:=h) (older:=older) (e:=e) rfl
@[simp] theorem zaf3{n}{e:Env}{h:Heap}{older:List Heap}:opD (orc T) T (.lenc n) e h older=some (.i .i64 n):=zbc (op:=.lenc n) (h:=h) (older:=older) (e:=e) rfl
@[simp] theorem D_mm{m xs}{e:Env}{h:Heap}{older:List Heap}:opD (orc T) T (.mm m xs) e h older=mmAV m (xs.map (ev e.get)):=zbc (op:=.mm m xs) (h:=h) (older:=older) (e:=e) rfl
@[simp] theorem zah2{x n}{e:Env}{h:Heap}{older:List Heap}:opD (orc T) T (.ext x n) e h older=extAV n (ev e.get x):=zbc (op:=.ext x n) (h:=h) (older:=older) (e:=e) rfl
@[simp] theorem zaf4{n x}{e:Env}{h:Heap}{older:List Heap}:opD (orc T) T (.load n x) e h older=dC (loadAV n h (ev e.get x)) (.load n x) older e:=rfl
@[simp] theorem zah3{z x lo hi mx}{e:Env}{h:Heap}{older:List Heap}:opD (orc T) T (.slc z x lo hi mx) e h older=dC (slcAV z h (ev e.get x) (evO e.get lo) (evO e.get hi) (evO e.get mx)) (.slc z x lo hi mx) older e:=rfl
@[simp] theorem zah4{o x}{e:Env}{h:Heap}{older:List Heap}:opD (orc T) T (.fad o x) e h older=dC (fadAV o h (ev e.get x)) (.fad o x) older e:=rfl
@[simp] theorem zah5{z x i}{e:Env}{h:Heap}{older:List Heap}:opD (orc T) T (.iad z x i) e h older=dC (iadAV z h (ev e.get x) (ev e.get i)) (.iad z x i) older e:=rfl
@[simp] theorem zah6{z n x i}{e:Env}{h:Heap}{older:List Heap}:opD (orc T) T (.iaa z n x i) e h older=dC (iaaAV z n h (ev e.get x) (ev e.get i)) (.iaa z n x i) older e:=rfl
@[simp] theorem zah7{x}{e:Env}{h:Heap}{older:List Heap}:opD (orc T) T (.len x) e h older=dC (lenAV h (ev e.get x)) (.len x) older e:=rfl
@[simp] theorem zaf5{k zv ok x i}{e:Env}{h:Heap}{older:List Heap}:opD (orc T) T (.look k zv ok x i) e h older=dC (lookAV k zv ok h (ev e.get x) (ev e.get i)) (.look k zv ok x i) older e:=rfl
@[simp] theorem zaf6{x}{e:Env}{h:Heap}{older:List Heap}:opD (orc T) T (.nilc x) e h older=dC (nilcAV h (ev e.get x)) (.nilc x) older e:=rfl
def dR(r:Option AV)(xs:List AV):Option AV:=if xs.all noRef then r else none
@[congr] theorem z7x{r r':Option AV}{xs:List AV}(h1:r=r'):dR r xs=dR r' xs:=by rw[h1]
@[simp] theorem zacn{r:AV}{xs:List AV}:dR (some r) xs=if xs.all noRef then some r else none:=rfl
theorem zce{u:Nat}{args:List Opd}{np nt:Nat}{res:List RV}{b:AX}{ex:Bool}{e:Env}{h:Heap}{older:List Heap}(hT:T u=some ⟨np,nt,res,b,none,ex⟩) :
  opD (orc T) T (.call u args) e h older=dR (callF T u ((args.map (ev e.get)).map (wkIf ex))) (args.map (ev e.get)):=by
 unfold dR callF
 simp only[opD,hT,Option.isNone_none,Bool.true_and]
@[simp] theorem zah8{z zs n ps}{e:Env}{h:Heap}{older:List Heap}:opD (orc T) T (.bsl z zs n ps) e h older=if (ps.map fun p=>(p.1,ev e.get p.2)).all (fun p=>noRef p.2) then (bslAV z zs n [] (ps.map fun p=>(p.1,ev e.get p.2))).map (·.1) else none:=rfl
@[congr] theorem zyy{tl l:List AO}{e e':Env}{h h':Heap}{clk clk':Nat}(h1:e=e')(h2:h=h')(h3:clk=clk'):headX (orc T) T tl l e h clk=headX (orc T) T tl l e' h' clk':=by rw[h1,h2,h3]
@[simp] theorem z36{tl:List AO}{e:Env}{h:Heap}{clk:Nat}:headX (orc T) T tl [] e h clk=runX (orc T) T tl ⟨e,h,clk⟩:=rfl
@[simp] theorem z1q{tl r:List AO}{o:AO}{e:Env}{h:Heap}{clk:Nat}:headX (orc T) T tl (o::r) e h clk=bD (qX (orc T) T o e h []) fun x=>headX (orc T) T tl r (putE e o.dst x.1) h clk:=rfl
@[congr] theorem zyz{tl l:List AO}{h0:Heap}{c0:Nat}{X:Heap}{e e':Env}{h h':Heap}{clk clk':Nat}(h1:e=e')(h2:h=h')(h3:clk=clk'):headM (orc T) T tl h0 c0 X l e h clk=headM (orc T) T tl h0 c0 X l e' h' clk':=by rw[h1,h2,h3]
@[simp] theorem z37{tl:List AO}{h0:Heap}{c0:Nat}{X:Heap}{e:Env}{h:Heap}{clk:Nat}:headM (orc T) T tl h0 c0 X [] e h clk=runX (orc T) T tl ⟨e,h,clk⟩:=rfl
noncomputable def kM(T:Tbl)(tl:List AO)(h0:Heap)(c0:Nat)(X:Heap)(op:AOp)(d:Nat)(r:List AO)(e:Env)(h:Heap)(q:Option (AV×Heap×Nat)):Option St:=
 q.bind fun q=>if ((h.lookup (.loc d)).isNone&&boxB c0 op e q.2.1)=true then headM (orc T) T tl h0 c0 X r (putE e (some d) q.1) (q.2.1++h) q.2.2 else none
@[simp] theorem zaco{tl:List AO}{h0:Heap}{c0:Nat}{X:Heap}{op:AOp}{d:Nat}{r:List AO}{e:Env}{h:Heap}{q:AV×Heap×Nat}:kM T tl h0 c0 X op d r e h (some q)=if ((h.lookup (.loc d)).isNone&&boxB c0 op e q.2.1)=true then headM (orc T) T tl h0 c0 X r (putE e (some d) q.1) (q.2.1++h) q.2.2 else none:=rfl
noncomputable def kN(T:Tbl)(tl:List AO)(h0:Heap)(c0:Nat)(X:Heap)(op:AOp)(d:Nat)(r:List AO)(e:Env)(h:Heap)(q:Option (AV×Heap×Nat)):Option St:=
 q.bind fun q=>if boxB c0 op e (q.2.1.take 1)=true then headM (orc T) T tl h0 c0 X r (putE e (some d) q.1) (q.2.1.take 1++h) q.2.2 else none
@[simp] theorem zacp{tl:List AO}{h0:Heap}{c0:Nat}{X:Heap}{op:AOp}{d:Nat}{r:List AO}{e:Env}{h:Heap}{q:AV×Heap×Nat}:kN T tl h0 c0 X op d r e h (some q)=if boxB c0 op e (q.2.1.take 1)=true then headM (orc T) T tl h0 c0 X r (putE e (some d) q.1) (q.2.1.take 1++h) q.2.2 else none:=rfl
noncomputable def uX(T:Tbl)(w:Option (BId×Box))(tl:List AO)(h0:Heap)(c0:Nat)(X:Heap)(op:AOp)(d:Nat)(r:List AO)(e:Env)(h:Heap)(clk:Nat):Option St:=
 match w with
 | none=>kM T tl h0 c0 X op d r e h (stepW op (some d) e.get [] clk)
 | some p=>kN T tl h0 c0 X op d r e h (stepW op (some d) e.get [p] clk)
@[congr] theorem z7y{w w':Option (BId×Box)}{tl:List AO}{h0:Heap}{c0:Nat}{X:Heap}{op:AOp}{d:Nat}{r:List AO}{e:Env}{h:Heap}{clk:Nat}(h1:w=w'):uX T w tl h0 c0 X op d r e h clk=uX T w' tl h0 c0 X op d r e h clk:=by rw[h1]
@[simp] theorem zacq{tl:List AO}{h0:Heap}{c0:Nat}{X:Heap}{op:AOp}{d:Nat}{r:List AO}{e:Env}{h:Heap}{clk:Nat}:uX T none tl h0 c0 X op d r e h clk=kM T tl h0 c0 X op d r e h (stepW op (some d) e.get [] clk):=rfl
@[simp] theorem zacr{tl:List AO}{h0:Heap}{c0:Nat}{X:Heap}{op:AOp}{d:Nat}{r:List AO}{e:Env}{h:Heap}{clk:Nat}{p:BId×Box}:uX T (some p) tl h0 c0 X op d r e h clk=kN T tl h0 c0 X op d r e h (stepW op (some d) e.get [p] clk):=rfl
@[simp] theorem z1r{c0:Nat}{h0 X h:Heap}{zs:List AV}{e:Env}:ownO c0 h0 X h (.alloc zs) e=none:=rfl
@[simp] theorem z7z{c0:Nat}{h0 X h:Heap}{z:Nat}{zs:List AV}{l c:Opd}{e:Env}:ownO c0 h0 X h (.mks z zs l c) e=none:=rfl
@[simp] theorem z38{c0:Nat}{h0 X h:Heap}{k:KTy}{zv:AV}{ok:Bool}{x i:Opd}{e:Env}:ownO c0 h0 X h (.look k zv ok x i) e=none:=rfl
@[simp] theorem z70{c0:Nat}{h0 X h:Heap}{k:XOp}{xs:List Opd}{e:Env}:ownO c0 h0 X h (.xop k xs) e=none:=rfl
@[simp] theorem z71{c0:Nat}{h0 X h:Heap}{z:Nat}{x y:Opd}{e:Env}:ownO c0 h0 X h (.app z x y) e=ownA c0 h0 X h (ev e.get x):=rfl
@[simp] theorem zacs{c0:Nat}{h0 X h:Heap}{l:List (List AV)}{f:Fl}:ownA c0 h0 X h (.sl l f)=none:=rfl
@[simp] theorem zact{c0:Nat}{h0 X h:Heap}{b:BId}{g z o n:Nat}:ownA c0 h0 X h (.bs b g z o n)=ownL c0 (h0.lookup b) (X.lookup b) b (h.lookup b):=rfl
@[simp] theorem z39{c0:Nat}{b:BId}{x o:Box}:ownL c0 none (some x) b (some o)=if o.gen<c0 then some (b,o) else none:=rfl
attribute [simp] idOf
@[simp] theorem z4a{e:Env}:consD [] e=[]:=rfl
@[simp] theorem z1s{o:AO}{r:List AO}{e:Env}:consD (o::r) e=match o.op with | .mov x=>consD r (putE e o.dst (ev e.get x)) | .app _ x _=>idOf (ev e.get x)++consD r (putE e o.dst .dead) | _=>consD r (putE e o.dst .dead):=rfl
@[simp] theorem zy0{h:Heap}:dropIds [] h=h:=rfl
@[simp] theorem zw9{b:BId}{ids:List BId}{h:Heap}:dropIds (b::ids) h=h.filter fun p=>!(b::ids).contains p.1:=rfl
noncomputable def kB(T:Tbl)(tl:List AO)(h0:Heap)(c0:Nat)(X:Heap)(d:Nat)(r:List AO)(e:Env)(h:Heap)(q:Option (AV×Heap×Nat)):Option St:=
 q.bind fun q=>if q.2.1.all (fun p=>(h.lookup p.1).isNone)=true then headM (orc T) T tl h0 c0 X r (putE e (some d) q.1) (q.2.1++h) q.2.2 else none
@[simp] theorem zacu{tl:List AO}{h0:Heap}{c0:Nat}{X:Heap}{d:Nat}{r:List AO}{e:Env}{h:Heap}{q:AV×Heap×Nat}:kB T tl h0 c0 X d r e h (some q)=if q.2.1.all (fun p=>(h.lookup p.1).isNone)=true then headM (orc T) T tl h0 c0 X r (putE e (some d) q.1) (q.2.1++h) q.2.2 else none:=rfl
noncomputable def lX(T:Tbl)(b:Option (Nat×List Opd))(tl:List AO)(h0:Heap)(c0:Nat)(X:Heap)(o:AO)(r:List AO)(e:Env)(h:Heap)(clk:Nat):Option St:=
 match b with
 | some ua=>
  match o.guard,o.dst with
  | none,some d=>kB T tl h0 c0 X d r e h (callM (orc T) T ua.1 (ua.2.map (ev e.get)) d clk)
  | _,_=>none
 | none=>bD (qX (orc T) T o e h0 []) fun x=>if contB c0 o.op e (gnA x.1)=true then headM (orc T) T tl h0 c0 X r (putE e o.dst x.1) h clk else none
@[simp] theorem zacv{tl r:List AO}{h0:Heap}{c0:Nat}{X:Heap}{op:AOp}{dd u:Nat}{args:List Opd}{e:Env}{h:Heap}{clk:Nat}:lX T (some (u,args)) tl h0 c0 X ⟨some dd,none,op⟩ r e h clk=kB T tl h0 c0 X dd r e h (callM (orc T) T u (args.map (ev e.get)) dd clk):=rfl
@[simp] theorem zacw{tl r:List AO}{h0:Heap}{c0:Nat}{X:Heap}{o:AO}{e:Env}{h:Heap}{clk:Nat}:lX T none tl h0 c0 X o r e h clk=bD (qX (orc T) T o e h0 []) fun x=>if contB c0 o.op e (gnA x.1)=true then headM (orc T) T tl h0 c0 X r (putE e o.dst x.1) h clk else none:=rfl
noncomputable def tX(T:Tbl)(tl:List AO)(h0:Heap)(c0:Nat)(X:Heap)(r:List AO)(b:Bool)(e:Env)(q:Option Heap)(clk:Nat):Option St:=
 q.bind fun h=>if b=true then headM (orc T) T tl h0 c0 X r e h clk else none
@[simp] theorem zacx{tl:List AO}{h0:Heap}{c0:Nat}{X:Heap}{r:List AO}{e:Env}{h:Heap}{clk:Nat}:tX T tl h0 c0 X r true e (some h) clk=headM (orc T) T tl h0 c0 X r e h clk:=rfl
noncomputable def sX(T:Tbl)(b:Bool)(tl:List AO)(h0:Heap)(c0:Nat)(X:Heap)(o:AO)(r:List AO)(e:Env)(h:Heap)(clk:Nat):Option St:=
 match b with
 | true=>
  match o.guard,o.dst with
  | none,none=>(stepW o.op none e.get h clk).bind fun q=>if freshS X o.op e=true then headM (orc T) T tl h0 c0 X r e q.2.1 q.2.2 else none
  | _,_=>none
 | false=>lX T o.op.lentN tl h0 c0 X o r e h clk
@[simp] theorem zacy{tl r:List AO}{h0:Heap}{c0:Nat}{X:Heap}{n:Nat}{x v:Opd}{e:Env}{h:Heap}{clk:Nat}:sX T true tl h0 c0 X ⟨none,none,.store n x v⟩ r e h clk=tX T tl h0 c0 X r (freshS X (.store n x v) e) e (storeAV n h (ev e.get x) (ev e.get v)) clk:=by
 unfold sX tX
 simp only[stepW]
 cases storeAV n h (ev e.get x) (ev e.get v)<;>rfl
@[simp] theorem z72{tl r:List AO}{h0:Heap}{c0:Nat}{X:Heap}{o:AO}{e:Env}{h:Heap}{clk:Nat}:sX T false tl h0 c0 X o r e h clk=lX T o.op.lentN tl h0 c0 X o r e h clk:=rfl
noncomputable def callMr(r:Option (AV×Heap))(d clk:Nat):Option (AV×Heap×Nat):=
 r.bind fun r=>
  let hb':=r.2.map fun p=>(outN [] d p.1,rlBox true (outN [] d) (outG [] clk) p.2)
  let r':=rlA (outN [] d) (outG [] clk) r.1
  if (hb'.map (·.1)).Nodup∧geB clk (gnA r')=true∧geH clk hb'=true then some (r',hb',clk+(r.2.length+2)) else none
@[simp] theorem zy1{r:AV×Heap}{dd clk:Nat}:callMr (some r) dd clk=if ((r.2.map fun p=>(outN [] dd p.1,rlBox true (outN [] dd) (outG [] clk) p.2)).map (·.1)).Nodup∧geB clk (gnA (rlA (outN [] dd) (outG [] clk) r.1))=true∧geH clk (r.2.map fun p=>(outN [] dd p.1,rlBox true (outN [] dd) (outG [] clk) p.2))=true then some (rlA (outN [] dd) (outG [] clk) r.1,r.2.map fun p=>(outN [] dd p.1,rlBox true (outN [] dd) (outG [] clk) p.2),clk+(r.2.length+2)) else none:=rfl
noncomputable def mX(T:Tbl)(b:Bool)(tl:List AO)(h0:Heap)(c0:Nat)(X:Heap)(o:AO)(r:List AO)(e:Env)(h:Heap)(clk:Nat):Option St:=
 match b with
 | true=>
  match o.guard,o.dst with
  | none,some d=>uX T (ownO c0 h0 X h o.op e) tl h0 c0 X o.op d r e h clk
  | _,_=>none
 | false=>sX T o.op.isStore tl h0 c0 X o r e h clk
@[simp] theorem z1t{tl r:List AO}{h0:Heap}{c0:Nat}{X:Heap}{o:AO}{e:Env}{h:Heap}{clk:Nat}:headM (orc T) T tl h0 c0 X (o::r) e h clk=mX T (AOp.maker o.op) tl h0 c0 X o r e h clk:=by
 unfold mX
 simp only[headM]
 cases AOp.maker o.op with
 | false=>
  unfold sX
  simp only
  cases AOp.isStore o.op with
  | true=>
   obtain⟨dd,g,op⟩:=o
   cases g<;>cases dd<;>rfl
  | false=>
   unfold lX
   simp only
   cases AOp.lentN o.op with
   | none=>rfl
   | some ua=>
    obtain⟨dd,g,op⟩:=o
    cases g<;>cases dd<;>rfl
 | true=>
  obtain⟨dd,g,op⟩:=o
  cases g<;>cases dd<;>rfl
@[simp] theorem zacz{tl r:List AO}{h0:Heap}{c0:Nat}{X:Heap}{op:AOp}{dd:Nat}{e:Env}{h:Heap}{clk:Nat}:mX T true tl h0 c0 X ⟨some dd,none,op⟩ r e h clk=uX T (ownO c0 h0 X h op e) tl h0 c0 X op dd r e h clk:=rfl
@[simp] theorem z73{tl r:List AO}{h0:Heap}{c0:Nat}{X:Heap}{o:AO}{e:Env}{h:Heap}{clk:Nat}:mX T false tl h0 c0 X o r e h clk=sX T o.op.isStore tl h0 c0 X o r e h clk:=rfl
@[simp] theorem zac0{hd tl:List AO}:evX (orc T) T k (.drawM hd tl) st=stX (headM (orc T) T tl (dropIds (consD hd st.env) st.heap) st.clk st.heap hd st.env st.heap st.clk):=rfl
noncomputable def pX(T:Tbl)(w:Bool)(K:Env→PendX→Option St)(h:Heap)(o:DO)(r:List DO)(e:Env)(pend:PendX):Option St:=
 match w with
 | true=>none
 | false=>bD (qX (orc T) T o.ao e h []) fun x=>preC (orc T) T K h r (putE e o.ao.dst x.1) (pendAdd o 0 e x pend)
@[simp] theorem z74{K:Env→PendX→Option St}{h:Heap}{o:DO}{r:List DO}{e:Env}{pend:PendX}:pX T false K h o r e pend=bD (qX (orc T) T o.ao e h []) fun x=>preC (orc T) T K h r (putE e o.ao.dst x.1) (pendAdd o 0 e x pend):=rfl
@[simp] theorem z77{K:Env→PendX→Option St}{h:Heap}{e:Env}{pend:PendX}:preC (orc T) T K h [] e pend=K e pend:=rfl
@[simp] theorem z4b{K:Env→PendX→Option St}{h:Heap}{o:DO}{r:List DO}{e:Env}{pend:PendX}:preC (orc T) T K h (o::r) e pend=pX T o.ao.op.writes K h o r e pend:=by
 unfold pX
 rw[preC]
 cases o.ao.op.writes<;>rfl
noncomputable def qpX(T:Tbl)(w:Bool)(K:Env→Option St)(h0 h1:Heap)(o:AO)(r:List AO)(e:Env):Option St:=
 match w with
 | true=>none
 | false=>bD (qX (orc T) T o e h1 [h0]) fun x=>postC (orc T) T K h0 h1 r (putE e o.dst x.1)
@[simp] theorem z4c{K:Env→Option St}{h0 h1:Heap}{o:AO}{r:List AO}{e:Env}:qpX T false K h0 h1 o r e=bD (qX (orc T) T o e h1 [h0]) fun x=>postC (orc T) T K h0 h1 r (putE e o.dst x.1):=rfl
@[congr] theorem zy2{K:Env→Option St}{h0 h1:Heap}{l:List AO}{e e':Env}(h2:e=e'):postC (orc T) T K h0 h1 l e=postC (orc T) T K h0 h1 l e':=by rw[h2]
@[simp] theorem z4d{K:Env→Option St}{h0 h1:Heap}{e:Env}:postC (orc T) T K h0 h1 [] e=K e:=rfl
@[simp] theorem z1u{K:Env→Option St}{h0 h1:Heap}{o:AO}{r:List AO}{e:Env}:postC (orc T) T K h0 h1 (o::r) e=qpX T o.op.writes K h0 h1 o r e:=by
 unfold qpX
 rw[postC]
 cases o.op.writes<;>rfl
@[simp] theorem zac1{l1 l2 tl:List AO}{dd u:Nat}{args:List Opd}:evX (orc T) T k (.drawC l1 ⟨some dd,none,.call u args⟩ l2 tl) st =
  stX (preC (orc T) T (fun e pend=>bS (callX (orc T) T u (args.map (ev e.get)) (some dd) ⟨e,st.heap,st.clk⟩) fun s=>iP (pendOk pend s.heap) (postC (orc T) T (fun e2=>runX (orc T) T tl ⟨e2,s.heap,s.clk⟩) st.heap s.heap l2 s.env)) st.heap (l1.map fun o=>⟨o,0,1⟩) st.env []):=rfl
@[simp] theorem zac2{l1 l2:List DO}{dd u:Nat}{args:List Opd}:evX (orc T) T k (.drawN l1 ⟨some dd,none,.call u args⟩ l2) st =
  stX (preC (orc T) T (fun e pend=>bS (callX (orc T) T u (args.map (ev e.get)) (some dd) ⟨e,st.heap,st.clk⟩) fun s=>iP (pendOk pend s.heap) (drawX (orc T) T (l2.map (adjD 0)) s.env s.heap s.clk [st.heap] (pend.map fun p=>(p.1-1,p.2)))) st.heap (l1.map (adjD 0)) st.env []):=rfl
attribute [simp] adjD
@[simp] theorem zah9{n x}:opX (orc T) T (.ifc n x) d st=some ⟨putE st.env d (.ifc (tyNum T n) (ev st.env.get x)),st.heap,st.clk⟩:=rfl
noncomputable def iS(T:Tbl)(x:AV)(nm:String)(n u:Nat)(args:List AV)(d:Option Nat)(st:St):Option St:=
 match x with
 | .ifc t y=>if t=tyNum T n∧(nm,u)∈methsT T n then callX (orc T) T u (y::args) d st else none
 | .fnv f x=>if nm="()"∧f=tyNum T n∧funT T n=some u then callX (orc T) T u (x::args) d st else none
 | .fnp f id g z i o=>if nm="()"∧f=tyNum T n∧funT T n=some u then callX (orc T) T u (args++[.ptr id g z i o]) d st else none
 | _=>none
@[simp] theorem zaia{nm n u r args}:opX (orc T) T (.inv nm n u r args) d st=iS T (ev st.env.get r) nm n u (args.map (ev st.env.get)) d st:=by
 simp only[opX]
 cases ev st.env.get r<;>rfl
@[simp] theorem zaib{n x}{e:Env}{h:Heap}{older:List Heap}:opD (orc T) T (.ifc n x) e h older=some (.ifc (tyNum T n) (ev e.get x)):=rfl
noncomputable def dI(T:Tbl)(u:Nat)(xs:List AV):Option AV:=
 match T u with
 | none=>none
 | some af=>if (af.lent.isNone&&xs.all noRef)=true then ((orc T).call u (xs.map (wkIf af.exact)) []).map (·.1) else none
noncomputable def iD(T:Tbl)(x:AV)(nm:String)(n u:Nat)(args:List AV):Option AV:=
 match x with
 | .ifc t y=>if t=tyNum T n∧(nm,u)∈methsT T n then dI T u (drp1 y::args) else none
 | _=>none
@[simp] theorem zaic{nm n u r args}{e:Env}{h:Heap}{older:List Heap}:opD (orc T) T (.inv nm n u r args) e h older=iD T (ev e.get r) nm n u (args.map (ev e.get)):=by
 simp only[opD]
 cases ev e.get r<;>rfl
@[simp] theorem zac3{hd tl:List AO}:evX (orc T) T k (.drawT hd tl) st=stX (headX (orc T) T tl hd st.env st.heap st.clk):=rfl
attribute [simp] pendAdd stepXV boxXV cpyXV bstrXV arslXV appsXV ghS normS reach bors pickH sigG genIx kids rlBox
attribute [simp] gnA gnR contB boxB slotsM slotOf AOp.maker drp1 drpC AOp.lentN AOp.isStore freshS geB geH
attribute [simp] AOp.writes AOp.free slcAV bndO liveP storeAV allocAV mksAV
attribute [simp] AOp.callN stepP frzRL frzR shR
end
end
section
open Go.RowKit
def sub32(a b:Nat):Nat:=(((a:Int)-b)%4294967296).toNat
def sub64(a b:Nat):Nat:=(((a:Int)-b)%18446744073709551616).toNat
def sub8(a b:Nat):Nat:=(((a:Int)-b)%256).toNat
theorem zft{a b:Nat}(h:b≤a)(h2:a<18446744073709551616):sub64 a b=a-b:=by unfold sub64;omega
theorem zs6(n:Int):IntKind.wrap .u32 n=(((n%4294967296).toNat:Nat):Int):=by
 grind[IntKind.wrap,IntKind.signed,IntKind.bits]
theorem zs7(n:Int):IntKind.wrap .u64 n=(((n%18446744073709551616).toNat:Nat):Int):=by
 grind[IntKind.wrap,IntKind.signed,IntKind.bits]
@[simp] theorem z4e(n:Int)(h1:-9223372036854775808≤n)(h2:n<9223372036854775808):IntKind.wrap .i64 n=n:=zab n ⟨h1,h2⟩
@[simp] theorem z1v(a b:Nat):((a:Int)+(b:Int)).toNat=a+b:=by omega
@[simp] theorem zy3(a b:Nat):(0:Int)≤(a:Int)+(b:Int):=by omega
@[simp] theorem zy4(a:Nat):(0:Int)≤(a:Int)+1:=by omega
@[simp] theorem zy5(a b:Nat):((a:Int)+(b:Int)+1).toNat=a+b+1:=by omega
@[simp] theorem zxa(a b:Nat):(0:Int)≤(a:Int)+(b:Int)+1:=by omega
section
variable(a b:Nat)(k:IntKind)(n:Int)
@[simp] theorem zaid:binV .add (u32 a) (u32 b)=some (u32 ((a+b)%4294967296)):=by
 simp only[u32,zn8,←Int.natCast_add,zda]
@[simp] theorem zaie:binV .add (u64 a) (u64 b)=some (u64 ((a+b)%18446744073709551616)):=by
 simp only[u64,zn8,←Int.natCast_add,zdz]
@[simp] theorem zaif:binV .mul (u32 a) (u32 b)=some (u32 ((a*b)%4294967296)):=by
 simp only[u32,zoa,←Int.natCast_mul,zda]
@[simp] theorem zaig:binV .mul (u64 a) (u64 b)=some (u64 ((a*b)%18446744073709551616)):=by
 simp only[u64,zoa,←Int.natCast_mul,zdz]
@[simp] theorem zaf7:binV .sub (u32 a) (u32 b)=some (u32 (sub32 a b)):=by
 simp only[u32,zn9,zs6,sub32]
@[simp] theorem zaf8:binV .sub (u64 a) (u64 b)=some (u64 (sub64 a b)):=by
 simp only[u64,zn9,zs7,sub64]
theorem zou:((a:Int).tdiv (b:Int))=((a/b:Nat):Int):=by rw[Int.ofNat_tdiv]
theorem zov:((a:Int).tmod (b:Int))=((a%b:Nat):Int):=by rw[Int.ofNat_tmod]
@[simp] theorem zaih:binV .quo (u32 a) (u32 b)=if b=0 then none else some (u32 (a/b%4294967296)):=by
 simp only[u32,zob,zou,zda,Int.natCast_eq_zero]
@[simp] theorem zaii:binV .quo (u64 a) (u64 b)=if b=0 then none else some (u64 (a/b%18446744073709551616)):=by
 simp only[u64,zob,zou,zdz,Int.natCast_eq_zero]
@[simp] theorem zaij:binV .rem (u32 a) (u32 b)=if b=0 then none else some (u32 (a%b)):=by
 simp only[u32,zoc,zov,Int.natCast_eq_zero]
@[simp] theorem zaik:binV .rem (u64 a) (u64 b)=if b=0 then none else some (u64 (a%b)):=by
 simp only[u64,zoc,zov,Int.natCast_eq_zero]
theorem bvn(w:Nat):(BitVec.ofInt w (a:Int)).toNat=a%2^w:=by simp
@[simp] theorem or32:binV .or (u32 a) (u32 b)=some (u32 ((a ||| b)%4294967296)):=by
 have h:=Nat.or_mod_two_pow (a:=a) (b:=b) (n:=32)
 have e:((BitVec.ofInt 32 (a:Int) ||| BitVec.ofInt 32 (b:Int)).toNat)=(a ||| b)%2^32:=by rw[BitVec.toNat_or,bvn,bvn,←h]
 show some (AV.i .u32 (IntKind.wrap .u32 (((BitVec.ofInt 32 (a:Int) ||| BitVec.ofInt 32 (b:Int)).toNat:Nat):Int)))=_
 rw[e,zda]
 simp[u32]
@[simp] theorem or64:binV .or (u64 a) (u64 b)=some (u64 ((a ||| b)%18446744073709551616)):=by
 have h:=Nat.or_mod_two_pow (a:=a) (b:=b) (n:=64)
 have e:((BitVec.ofInt 64 (a:Int) ||| BitVec.ofInt 64 (b:Int)).toNat)=(a ||| b)%2^64:=by rw[BitVec.toNat_or,bvn,bvn,←h]
 show some (AV.i .u64 (IntKind.wrap .u64 (((BitVec.ofInt 64 (a:Int) ||| BitVec.ofInt 64 (b:Int)).toNat:Nat):Int)))=_
 rw[e,zdz]
 simp[u64]
theorem zld(m:Nat):((a:Int)*2^m)=((a*2^m:Nat):Int):=by simp
theorem zik(m:Nat):((a:Int).fdiv (2^m))=((a/2^m:Nat):Int):=by
 grind
@[simp] theorem zail:binV .shl (u32 a) (.i k n)=if n<0 then none else some (u32 (a*2^(min n.toNat 32)%4294967296)):=by
 simp only[u32,binV,IntKind.bits,zld,zda]
@[simp] theorem zac4:binV .shl (u64 a) (.i k n)=if n<0 then none else some (u64 (a*2^(min n.toNat 64)%18446744073709551616)):=by
 simp only[u64,binV,IntKind.bits,zld,zdz]
@[simp] theorem zaim:binV .shr (u32 a) (.i k n)=if n<0 then none else some (u32 (a/2^(min n.toNat 32))):=by
 simp only[u32,binV,IntKind.bits,zik]
@[simp] theorem zac5:binV .shr (u64 a) (.i k n)=if n<0 then none else some (u64 (a/2^(min n.toNat 64))):=by
 simp only[u64,binV,IntKind.bits,zik]
@[simp] theorem zxb:¬ ((b:Int)<0):=by omega
@[simp] theorem zaf9:binV .shl (u64 a) (u64 b)=some (u64 (a*2^(min b 64)%18446744073709551616)):=by
 rw[show u64 b=.i .u64 (b:Int) from rfl,zac4,if_neg (zxb b),Int.toNat_natCast]
@[simp] theorem zaga:binV .shr (u64 a) (u64 b)=some (u64 (a/2^(min b 64))):=by
 rw[show u64 b=.i .u64 (b:Int) from rfl,zac5,if_neg (zxb b),Int.toNat_natCast]
@[simp] theorem zain:binV .eql (u32 a) (u32 b)=some (.b (decide (a=b))):=by
 simp only[u32,zod,Option.some.injEq,AV.b.injEq];rw[Bool.eq_iff_iff];simp[Int.natCast_inj]
@[simp] theorem zaio:binV .neq (u32 a) (u32 b)=some (.b (!decide (a=b))):=by
 simp only[u32,zoe,Option.some.injEq,AV.b.injEq];rw[Bool.eq_iff_iff];simp[Int.natCast_inj]
@[simp] theorem zaip:binV .lss (u32 a) (u32 b)=some (.b (decide (a<b))):=by simp[u32,zi7]
@[simp] theorem zaiq:binV .leq (u32 a) (u32 b)=some (.b (decide (a≤b))):=by simp[u32,zof]
@[simp] theorem zair:binV .gtr (u32 a) (u32 b)=some (.b (decide (b<a))):=by simp[u32,zvj]
@[simp] theorem zais:binV .geq (u32 a) (u32 b)=some (.b (decide (b≤a))):=by simp[u32,zog]
@[simp] theorem zait:binV .neq (u64 a) (u64 b)=some (.b (!decide (a=b))):=by
 simp only[u64,zoe,Option.some.injEq,AV.b.injEq];rw[Bool.eq_iff_iff];simp[Int.natCast_inj]
@[simp] theorem zaiu:binV .lss (u64 a) (u64 b)=some (.b (decide (a<b))):=by simp[u64,zi7]
@[simp] theorem eql8:binV .eql (u8 a) (u8 b)=some (.b (decide (a=b))):=by
 simp only[u8,zod,Option.some.injEq,AV.b.injEq];rw[Bool.eq_iff_iff];simp[Int.natCast_inj]
@[simp] theorem lss8:binV .lss (u8 a) (u8 b)=some (.b (decide (a<b))):=by simp[u8,zi7]
@[simp] theorem leq8:binV .leq (u8 a) (u8 b)=some (.b (decide (a≤b))):=by simp[u8,zof]
@[simp] theorem geq8:binV .geq (u8 a) (u8 b)=some (.b (decide (b≤a))):=by simp[u8,zog]
@[simp] theorem z1w:convAV .u64 (u32 a)=some (u64 (a%18446744073709551616)):=by simp only[u32,u64,convAV,zdz]
@[simp] theorem z1x:convAV .u32 (u64 a)=some (u32 (a%4294967296)):=by simp only[u32,u64,convAV,zda]
@[simp] theorem z4f:convAV .u8 (u32 a)=some (u8 (a%256)):=by simp only[u32,u8,convAV,wrap_u8]
@[simp] theorem z4g:convAV .i64 (u32 a)=some (.i .i64 (IntKind.wrap .i64 a)):=rfl
@[simp] theorem z4h:convAV .i64 (u64 a)=some (.i .i64 (IntKind.wrap .i64 a)):=rfl
@[simp] theorem z78:convAV .i64 (u8 a)=some (.i .i64 (IntKind.wrap .i64 a)):=rfl
@[simp] theorem z79:convAV .i64 (.i .i64 n)=some (.i .i64 (IntKind.wrap .i64 n)):=rfl
@[simp] theorem zaiv:unAV .neg (.i .i64 n)=some (.i .i64 (IntKind.wrap .i64 (0-n))):=rfl
@[simp] theorem zaiw(t:Bool):unAV .not (.b t)=some (.b (!t)):=rfl
@[simp] theorem zagb(m:Nat)(y:Int):bnd (u8 m) y=if 0≤(m:Int)∧(m:Int)≤y then some m else none:=rfl
@[simp] theorem zac6(m:Nat)(y:Int):bnd (u32 m) y=if 0≤(m:Int)∧(m:Int)≤y then some m else none:=rfl
@[simp] theorem zac7(m:Nat)(y:Int):bnd (u64 m) y=if 0≤(m:Int)∧(m:Int)≤y then some m else none:=rfl
attribute [simp] slstrAV iaaAV ixaAV
@[simp] theorem zagc(l:List UInt8):ixsAV (.s l) (.i k n)=if 0≤n∧n<l.length then (l[n.toNat]?).map fun b=>u8 b.toNat else none:=rfl
@[simp] theorem z8a(k':IntKind)(x y:Int):leafEq .int (.i k x) (.i k' y)=if k=k' then some (x == y) else none:=rfl
end
@[simp] theorem zac8(a b:Nat):u32 a=u32 b↔a=b:=by simp[u32,Int.natCast_inj]
@[simp] theorem zac9(a b:Nat):u64 a=u64 b↔a=b:=by simp[u64,Int.natCast_inj]
theorem zan(x:UInt32):x.toNat<4294967296:=x.toNat_lt
@[simp] theorem zada(x:UInt32):x.toNat<4294967296:=x.toNat_lt
def w32(n:Nat):UInt32:=UInt32.ofNat n
theorem zbf(n:Nat):(w32 n).toNat=n%4294967296:=UInt32.toNat_ofNat' ..
theorem zad{n:Nat}(h:n<4294967296):(w32 n).toNat=n:=by rw[zbf,Nat.mod_eq_of_lt h]
@[simp] theorem z1y(x:UInt32):w32 x.toNat=x:=UInt32.ofNat_toNat
def u32s(l:List UInt32):List (List AV):=l.map fun x=>[u32 x.toNat]
def ints(l:List Int):List (List AV):=l.map fun x=>[.i .i64 x]
def u8s(l:List UInt8):List (List AV):=l.map fun x=>[u8 x.toNat]
section
variable(l m:List UInt32)(x:UInt32)
@[simp] theorem zvt:u32s []=[]:=rfl
@[simp] theorem zgy:(u32s l).length=l.length:=by simp[u32s]
@[simp] theorem zadb:wkL (u32s l)=u32s l:=by
 rw[zcb];simp[u32s,wkR]
@[simp] theorem z4i(n:Nat):(u32s l).take n=u32s (l.take n):=by simp[u32s]
@[simp] theorem z4j(n:Nat):(u32s l).drop n=u32s (l.drop n):=by simp[u32s]
@[simp] theorem zy6:u32s l++u32s m=u32s (l++m):=by simp[u32s]
@[simp] theorem z4k(n:Nat)(h:n<4294967296):u32s l++[[u32 n]]=u32s (l++[w32 n]):=by simp[u32s,zad h]
@[simp] theorem u32s_getElem?(i:Nat):(u32s l)[i]? = (l[i]?).map fun x=>[u32 x.toNat]:=by simp[u32s]
@[simp] theorem zxc(i:Nat)(h:i<(u32s l).length):(u32s l)[i]=[u32 (l[i]'(by simpa using h)).toNat]:=by simp[u32s]
theorem zbj(i:Nat)(n:Nat)(h:n<4294967296):(u32s l).set i [u32 n]=u32s (l.set i (w32 n)):=by simp[u32s,List.map_set,zad h]
@[simp] theorem z4l(i n:Nat):(u32s l).set i [u32 (n%4294967296)]=u32s (l.set i (w32 n)):=by simp[u32s,List.map_set,zbf]
@[simp] theorem z8b(n:Nat):List.replicate n [u32 0]=u32s (List.replicate n 0):=by simp[u32s]
@[simp] theorem z4m(z:Nat):((u32s l).head?.all fun r=>decide (r.length=z))=(l.isEmpty || decide (z=1)):=by
 cases l<;>simp[u32s,eq_comm]
end
end
section
open Go.RowKit
abbrev mv(d s:Nat):AO:=⟨some d,none,.mov (.t s)⟩
abbrev rg(d:Nat)(op:AOp):AO:=⟨some d,none,op⟩
abbrev gd(d t:Nat)(b:Bool)(op:AOp):AO:=⟨some d,some (t,b),op⟩
abbrev so(op:AOp):AO:=⟨none,none,op⟩
section
variable(T:Tbl)(u:Nat)(ex:Bool)(ms:List Bool)(xs:List AV)(d:Option Nat)(st:St)(ps:List Opd)(e:Env)
@[simp] noncomputable def cP:Option St:=bL (frzL st.heap xs) fun ys=>cR (callF T u (ys.map (wkIf ex))) xs d st
@[simp] noncomputable def cL:Option St:=bL (frzM st.heap ms xs) fun ys=>lentX ys (shareIds (refsM ms xs) st.heap) (reach (shareIds (refsM ms xs) st.heap) 40 (rootsM ms xs) []) T u ex d st
@[simp] noncomputable def dP:Option AV:=dR (callF T u ((ps.map (ev e.get)).map (wkIf ex))) (ps.map (ev e.get))
end
section
variable{T:Tbl}{k:Nat}
theorem zaq{id:Nat}{g2:Gh}{c:AX}(S:Nat→St)(n:Nat)(G:Option (Ex×St))(step:∀i,i<n→evX (orc T) T k c (S i)=some (.n,S (i+1)))
  (fin:isEx (evX (orc T) T k c (S n))=true∧finX k id g2 (evX (orc T) T k c (S n))=G):loopN T k id g2 c (S 0)=G:=
 zaw S (fun i=>i≤n) (fun i=>n-i) (fun _=>G) (by
  intro i hi
  by_cases h:i<n
  ·exact .inl ⟨i+1,h,by show n-(i+1)<n-i;omega,step i h,rfl⟩
  ·have:i=n:=by omega
   subst this
   exact .inr fin) 0 (Nat.zero_le _)
theorem zbx{id:Nat}{g2:Gh}{c:AX}(S:Nat→St)(n:Nat)(G:Nat→Option (Ex×St))
  (step:∀i,i<n→(evX (orc T) T k c (S i)=some (.n,S (i+1))∧G (i+1)=G i)∨(isEx (evX (orc T) T k c (S i))=true∧finX k id g2 (evX (orc T) T k c (S i))=G i))
  (fin:isEx (evX (orc T) T k c (S n))=true∧finX k id g2 (evX (orc T) T k c (S n))=G n):loopN T k id g2 c (S 0)=G 0:=
 zaw S (fun i=>i≤n) (fun i=>n-i) G (by
  intro i hi
  by_cases h:i<n
  ·rcases step i h with ⟨h1,h2⟩ | h1
   ·exact .inl ⟨i+1,h,by show n-(i+1)<n-i;omega,h1,h2⟩
   ·exact .inr h1
  ·have:i=n:=by omega
   subst this
   exact .inr fin) 0 (Nat.zero_le _)
end
theorem zbg{i n:Nat}(h:i<n)(hn:n≤4294967296):IntKind.wrap .i64 ((i:Int)+1)=((i+1:Nat):Int):=zab _ (by omega)
end
def b115:AX:=
 (.seq
 (.reg [rg 6 (.mov (.c (u32 0))),rg 7 (.mov (.c (u32 0)))])
 (.seq
 (.reg [mv 8 0,mv 9 1,rg 10 (.bin .add (.t 8) (.t 9)),mv 6 10])
 (.seq
 (.seq
 (.reg [mv 11 6,mv 12 0,rg 13 (.bin .lss (.t 11) (.t 12))])
 (.cond (.t 13)
 (.reg [mv 14 7,rg 15 (.bin .add (.t 14) (.c (u32 1))),mv 7 15])
 .skip))
 (.seq
 (.reg [mv 16 6,mv 17 2,rg 18 (.bin .add (.t 16) (.t 17)),mv 6 18])
 (.seq
 (.seq
 (.reg [mv 19 6,mv 20 2,rg 21 (.bin .lss (.t 19) (.t 20))])
 (.cond (.t 21)
 (.reg [mv 22 7,rg 23 (.bin .add (.t 22) (.c (u32 1))),mv 7 23])
 .skip))
 (.seq
 (.reg [mv 24 6,mv 25 7,mv 6 24,mv 7 25])
 (.pre (.norm false [6,7]) .ret)))))))
def b116:AX:=
 (.seq
 (.reg [rg 6 (.mov (.c (u32 0))),rg 7 (.mov (.c (u32 0)))])
 (.seq
 (.reg [mv 8 0,mv 9 1,rg 10 (.bin .sub (.t 8) (.t 9)),mv 6 10])
 (.seq
 (.seq
 (.reg [mv 11 0,mv 12 1,rg 13 (.bin .lss (.t 11) (.t 12))])
 (.cond (.t 13)
 (.reg [mv 14 7,rg 15 (.bin .add (.t 14) (.c (u32 1))),mv 7 15])
 .skip))
 (.seq
 (.seq
 (.reg [mv 16 6,mv 17 2,rg 18 (.bin .lss (.t 16) (.t 17))])
 (.cond (.t 18)
 (.reg [mv 19 7,rg 20 (.bin .add (.t 19) (.c (u32 1))),mv 7 20])
 .skip))
 (.seq
 (.reg [mv 21 6,mv 22 2,rg 23 (.bin .sub (.t 21) (.t 22)),mv 24 7,mv 6 23,mv 7 24])
 (.pre (.norm false [6,7]) .ret))))))
def b117:AX:=
 (.seq
 (.reg [rg 8 (.mov (.c (u32 0))),rg 9 (.mov (.c (u32 0)))])
 (.seq
 (.reg [mv 11 0,rg 12 (.conv .u64 (.t 11)),mv 13 1,rg 14 (.conv .u64 (.t 13)),rg 15 (.bin .mul (.t 12) (.t 14)),mv 16 2,rg 17 (.conv .u64 (.t 16)),rg 18 (.bin .add (.t 15) (.t 17)),mv 19 3,rg 20 (.conv .u64 (.t 19)),rg 21 (.bin .add (.t 18) (.t 20)),mv 10 21])
 (.seq
 (.reg [mv 22 10,rg 23 (.bin .shr (.t 22) (.c (u64 32))),rg 24 (.conv .u32 (.t 23)),mv 25 10,rg 26 (.conv .u32 (.t 25)),mv 8 24,mv 9 26])
 (.pre (.norm false [8,9]) .ret))))
def b118:AX:=
 (.seq
 (.reg [rg 6 (.mov (.c (u32 0))),rg 7 (.mov (.c (u32 0))),rg 8 (.mov (.c (.b false)))])
 (.seq
 (.seq
 (.reg [mv 10 0,mv 11 2,rg 12 (.bin .geq (.t 10) (.t 11))])
 (.cond (.t 12)
 (.seq
 (.reg [rg 6 (.mov (.c (u32 0))),rg 7 (.mov (.c (u32 0))),rg 8 (.mov (.c (.b false)))])
 (.pre (.norm false [6,7,8]) .ret))
 .skip))
 (.seq
 (.reg [mv 13 0,rg 14 (.conv .u64 (.t 13)),rg 15 (.bin .shl (.t 14) (.c (u64 32))),mv 16 1,rg 17 (.conv .u64 (.t 16)),rg 18 (.bin .or (.t 15) (.t 17)),mv 9 18])
 (.seq
 (.drawT [mv 19 9,mv 20 2,rg 21 (.conv .u64 (.t 20)),rg 22 (.bin .quo (.t 19) (.t 21)),rg 23 (.conv .u32 (.t 22)),mv 24 9,mv 25 2,rg 26 (.conv .u64 (.t 25)),rg 27 (.bin .rem (.t 24) (.t 26)),rg 28 (.conv .u32 (.t 27)),mv 6 23]
 [mv 7 28,rg 8 (.mov (.c (.b true)))])
 (.pre (.norm false [6,7,8]) .ret)))))
def l91_0:AX:=
 (.note
 (.seq
 (.seq
 (.reg [mv 5 4,rg 6 (.bin .gtr (.t 5) (.c (.i .i64 0)))])
 (.cond (.t 6)
 .skip
 (.exit 0)))
 (.seq
 (.block 1
 (.seq
 (.reg [mv 9 0,mv 10 4,rg 11 (.bin .shr (.t 9) (.t 10)),rg 12 (.bin .neq (.t 11) (.c (u32 0)))])
 (.cond (.t 12)
 (.seq
 (.reg [mv 13 0,mv 14 4,rg 15 (.bin .shr (.t 13) (.t 14)),mv 0 15])
 (.reg [mv 16 3,mv 17 4,rg 18 (.bin .add (.t 16) (.t 17)),mv 3 18]))
 .skip)))
 (.reg [mv 7 4,rg 8 (.bin .quo (.t 7) (.c (.i .i64 2))),mv 4 8])))
 (.norm false [0,3,4]))
def b91:AX:=
 (.seq
 (.reg [rg 2 (.mov (.c (.i .i64 0)))])
 (.seq
 (.reg [rg 3 (.mov (.c (.i .i64 0)))])
 (.seq
 (.seq
 (.reg [rg 4 (.mov (.c (.i .i64 16)))])
 (.lp 0 (.norm false [0,3,4]) l91_0 (.norm false [0,3])))
 (.seq
 (.reg [mv 19 3,mv 20 0,rg 21 (.conv .i64 (.t 20)),rg 22 (.bin .add (.t 19) (.t 21)),mv 2 22])
 (.pre (.norm false [2]) .ret)))))
class CLimb (T:Tbl):Prop where
 h115:T 115=some ⟨3,26,[.t 6,.t 7],b115,none,false⟩
 h116:T 116=some ⟨3,25,[.t 6,.t 7],b116,none,false⟩
 h117:T 117=some ⟨4,27,[.t 8,.t 9],b117,none,false⟩
 h118:T 118=some ⟨3,29,[.t 6,.t 7,.t 8],b118,none,false⟩
 h91:T 91=some ⟨1,23,[.t 2],b91,none,false⟩
section
variable{T:Tbl}[CLimb T]{d:Option Nat}{st:St}
@[simp] theorem x115(xs:List AV):callX (orc T) T 115 xs d st=cP T 115 false xs d st:=zaa CLimb.h115
theorem f115(xs:List AV)(hn:xs.length=3):callF T 115 xs=retF [.t 6,.t 7] false (evX (orc T) T 0 b115 ⟨argEnv xs,[],1⟩):=zac CLimb.h115 hn
@[simp] theorem x116(xs:List AV):callX (orc T) T 116 xs d st=cP T 116 false xs d st:=zaa CLimb.h116
theorem f116(xs:List AV)(hn:xs.length=3):callF T 116 xs=retF [.t 6,.t 7] false (evX (orc T) T 0 b116 ⟨argEnv xs,[],1⟩):=zac CLimb.h116 hn
@[simp] theorem x117(xs:List AV):callX (orc T) T 117 xs d st=cP T 117 false xs d st:=zaa CLimb.h117
theorem f117(xs:List AV)(hn:xs.length=4):callF T 117 xs=retF [.t 8,.t 9] false (evX (orc T) T 0 b117 ⟨argEnv xs,[],1⟩):=zac CLimb.h117 hn
@[simp] theorem x118(xs:List AV):callX (orc T) T 118 xs d st=cP T 118 false xs d st:=zaa CLimb.h118
theorem f118(xs:List AV)(hn:xs.length=3):callF T 118 xs=retF [.t 6,.t 7,.t 8] false (evX (orc T) T 0 b118 ⟨argEnv xs,[],1⟩):=zac CLimb.h118 hn
@[simp] theorem x91(xs:List AV):callX (orc T) T 91 xs d st=cP T 91 false xs d st:=zaa CLimb.h91
theorem f91(xs:List AV)(hn:xs.length=1):callF T 91 xs=retF [.t 2] false (evX (orc T) T 0 b91 ⟨argEnv xs,[],1⟩):=zac CLimb.h91 hn
end
section
variable{T:Tbl}[CLimb T]
theorem zv5(x y c:UInt32):callF T 115 [u32 x.toNat,u32 y.toNat,u32 c.toNat] =
  some (.tup [u32 (w32 (x.toNat+y.toNat+c.toNat)).toNat,u32 (w32 ((x.toNat+y.toNat+c.toNat)/4294967296)).toNat]):=by
 have hx:=zan x
 have hy:=zan y
 have hc:=zan c
 rw[f115 _ rfl,b115]
 simp[zbf]
 repeat' split
 all_goals simp
 all_goals omega
theorem zv6(x y b:UInt32):callF T 116 [u32 x.toNat,u32 y.toNat,u32 b.toNat] =
  some (.tup [u32 (w32 (x.toNat+8589934592-(y.toNat+b.toNat))).toNat,u32 (w32 (2-(x.toNat+8589934592-(y.toNat+b.toNat))/4294967296)).toNat]):=by
 have hx:=zan x
 have hy:=zan y
 have hb:=zan b
 rw[f116 _ rfl,b116]
 by_cases h1:x.toNat<y.toNat <;>
 by_cases h2:sub32 x.toNat y.toNat<b.toNat <;>
 ·simp[h1,h2,zbf]
  unfold sub32 at *
  omega
theorem ziq{a b:Nat}(ha:a<4294967296)(hb:b<4294967296):a*b≤18446744065119617025:=by
 have:a*b≤4294967295*4294967295:=Nat.mul_le_mul (by omega) (by omega)
 omega
theorem zv7(x y c d:UInt32):callF T 117 [u32 x.toNat,u32 y.toNat,u32 c.toNat,u32 d.toNat] =
  some (.tup [u32 (w32 ((x.toNat*y.toNat+c.toNat+d.toNat)/4294967296)).toNat,u32 (w32 (x.toNat*y.toNat+c.toNat+d.toNat)).toNat]):=by
 have hx:=zan x
 have hy:=zan y
 have hc:=zan c
 have hd:=zan d
 have hm:=ziq hx hy
 rw[f117 _ rfl,b117]
 simp[zbf]
 generalize x.toNat*y.toNat=m at *
 omega
theorem zoz(hi lo y:UInt32):callF T 118 [u32 hi.toNat,u32 lo.toNat,u32 y.toNat] =
  some (if y.toNat≤hi.toNat then .tup [u32 0,u32 0,.b false]
   else .tup [u32 (w32 ((hi.toNat*4294967296+lo.toNat)/y.toNat)).toNat,u32 (w32 ((hi.toNat*4294967296+lo.toNat)%y.toNat)).toNat,.b true]):=by
 have hx:=zan hi
 have hy:=zan y
 have hl:=zan lo
 rw[f118 _ rfl,b118]
 by_cases h1:y.toNat≤hi.toNat
 ·simp[h1]
 ·have h2:¬ y.toNat=0:=by omega
  simp[h1,h2,zbf]
  have e:hi.toNat*4294967296%18446744073709551616=hi.toNat*4294967296:=Nat.mod_eq_of_lt (by omega)
  have e2:(hi.toNat*4294967296) ||| lo.toNat=hi.toNat*4294967296+lo.toNat:=by
   have:=Nat.two_pow_add_eq_or_of_lt (i:=32) hl hi.toNat
   rw[Nat.mul_comm hi.toNat,show (4294967296:Nat)=2^32 from rfl,this]
  have h3:(hi.toNat*4294967296+lo.toNat)/y.toNat<4294967296:=by
   rw[Nat.div_lt_iff_lt_mul (by omega)]
   have:=Nat.mul_le_mul_left 4294967296 (show hi.toNat+1≤y.toNat by omega)
   omega
  rw[e,e2,Nat.mod_eq_of_lt (show hi.toNat*4294967296+lo.toNat<18446744073709551616 by omega)]
  exact⟨rfl,rfl⟩
theorem zg4(x y c:Nat)(hx:x<4294967296)(hy:y<4294967296)(hc:c<4294967296):callF T 115 [u32 x,u32 y,u32 c]=some (.tup [u32 ((x+y+c)%4294967296),u32 ((x+y+c)/4294967296)]):=by
 have:=zv5 (T:=T) (w32 x) (w32 y) (w32 c)
 rw[zad hx,zad hy,zad hc,zbf,zad (by omega)]at this
 exact this
theorem zll(x y b:Nat)(hx:x<4294967296)(hy:y<4294967296)(hb:b<4294967296):callF T 116 [u32 x,u32 y,u32 b] =
  some (.tup [u32 ((x+8589934592-(y+b))%4294967296),u32 (2-(x+8589934592-(y+b))/4294967296)]):=by
 have:=zv6 (T:=T) (w32 x) (w32 y) (w32 b)
 rw[zad hx,zad hy,zad hb,zbf,zad (by omega)]at this
 exact this
theorem zlm(x y c d:Nat)(hx:x<4294967296)(hy:y<4294967296)(hc:c<4294967296)(hd:d<4294967296):callF T 117 [u32 x,u32 y,u32 c,u32 d] =
  some (.tup [u32 ((x*y+c+d)/4294967296),u32 ((x*y+c+d)%4294967296)]):=by
 have:=zv7 (T:=T) (w32 x) (w32 y) (w32 c) (w32 d)
 have hm:=ziq hx hy
 rw[zad hx,zad hy,zad hc,zad hd,zbf (x*y+c+d),zad (by omega)]at this
 exact this
theorem zxe{hi lo y:Nat}(h:hi<y)(hl:lo<4294967296):(hi*4294967296+lo)/y<4294967296:=by
 rw[Nat.div_lt_iff_lt_mul (by omega)]
 have:=Nat.mul_le_mul_left 4294967296 (show hi+1≤y by omega)
 omega
theorem zln(hi lo y:Nat)(hx:hi<y)(hl:lo<4294967296)(hy:y<4294967296):callF T 118 [u32 hi,u32 lo,u32 y] =
  some (.tup [u32 ((hi*4294967296+lo)/y),u32 ((hi*4294967296+lo)%y),.b true]):=by
 have:=zoz (T:=T) (w32 hi) (w32 lo) (w32 y)
 rw[zad (show hi<4294967296 by omega),zad hl,zad hy,zad (zxe hx hl),zad (by have:=Nat.mod_lt (hi*4294967296+lo) (show 0<y by omega);omega),if_neg (by omega)]at this
 exact this
theorem zqe(hi lo y:Nat)(hx:y≤hi)(hh:hi<4294967296)(hl:lo<4294967296):callF T 118 [u32 hi,u32 lo,u32 y]=some (.tup [u32 0,u32 0,.b false]):=by
 have:=zoz (T:=T) (w32 hi) (w32 lo) (w32 y)
 rw[zad hh,zad hl,zad (show y<4294967296 by omega),if_pos hx]at this
 exact this
def blen(n:Nat):Nat:=if n=0 then 0 else n.log2+1
theorem zqf{n s:Nat}(h:n/2^s≠0):blen n=s+blen (n/2^s):=by
 have hn:n≠0:=by rintro rfl;simp at h
 have hlog:(n/2^s).log2+s=n.log2:=by
  have h1:=Nat.log2_self_le h
  have h2:=Nat.lt_log2_self (n:=n/2^s)
  have h3:=Nat.log2_self_le hn
  have h4:=Nat.lt_log2_self (n:=n)
  have hp:0<2^s:=Nat.pow_pos (by decide)
  have a1:2^((n/2^s).log2+s)≤n:=by
   rw[Nat.pow_add]
   exact(Nat.le_div_iff_mul_le hp).1 h1
  have a2:n<2^((n/2^s).log2+1+s):=by
   rw[Nat.pow_add]
   exact(Nat.div_lt_iff_lt_mul hp).1 h2
  have b1:=(Nat.le_log2 hn).2 a1
  have b2:=(Nat.log2_lt hn).2 a2
  omega
 unfold blen
 rw[if_neg h,if_neg hn]
 omega
theorem zqg{x:Nat}(h:x<2):blen x=x:=by
 rcases(show x=0∨x=1 by omega) with rfl | rfl<;>decide
def stLen(y:Nat×Nat×Nat):St:=⟨[(0,u32 y.1),(3,.i .i64 y.2.1),(4,.i .i64 y.2.2)],[],2⟩
end
section
variable{T:Tbl}
theorem zjq(N:Nat):∀y:Nat×Nat×Nat,((y.2.2=16∨y.2.2=8∨y.2.2=4∨y.2.2=2∨y.2.2=1∨y.2.2=0)∧y.1<2^(2*y.2.2)*(if y.2.2=0 then 2 else 1)∧y.2.1+blen y.1=N∧y.2.1+2*y.2.2≤32) →
  ∃r,(∃(x n:Nat),r=(Ex.n,(⟨[(0,u32 x),(3,.i .i64 (n:Int))],[],2⟩:St))∧x<2∧n+blen x=N∧n≤32)∧loopN T 0 0 (.norm false [0,3]) l91_0 (stLen y)=some r:=by
 refine zas _ _ (fun y=>y.2.2) _ ?_
 rintro⟨x,n,s⟩ ⟨hs,hx,hN,hn⟩
 simp only at hs hx hN hn
 by_cases h0:s=0
 ·right
  subst h0
  refine⟨_,⟨x,n,rfl,by simpa using hx,hN,by omega⟩,?_,?_⟩<;>simp[l91_0,stLen]
 ·left
  by_cases h1:x/2^s=0
  ·refine⟨(x,n,s/2),⟨?_,?_,hN,by simp only;omega⟩,by simp only;omega,?_⟩
   ·rcases hs with rfl | rfl | rfl | rfl | rfl | rfl<;>simp
   ·have h2:x<2^s:=by
     rcases Nat.lt_or_ge x (2^s) with h | h
     ·exact h
     ·have:=Nat.div_pos h (Nat.pow_pos (by decide))
      omega
    rcases hs with rfl | rfl | rfl | rfl | rfl | rfl<;>simp at h2 ⊢<;>omega
   ·rcases hs with rfl | rfl | rfl | rfl | rfl | rfl<;>simp at h1<;>simp[l91_0,stLen,h1]at h0 ⊢
  ·refine⟨(x/2^s,n+s,s/2),⟨?_,?_,?_,by simp only;omega⟩,by simp only;omega,?_⟩
   ·rcases hs with rfl | rfl | rfl | rfl | rfl | rfl<;>simp
   ·rcases hs with rfl | rfl | rfl | rfl | rfl | rfl<;>simp at hx h0 ⊢<;>omega
   ·have:=zqf h1
    simp only
    omega
   ·have hw:IntKind.wrap .i64 ((n:Int)+s)=((n+s:Nat):Int):=zab _ (by omega)
    rcases hs with rfl | rfl | rfl | rfl | rfl | rfl<;>simp at h1 hw<;>simp[l91_0,stLen,h1,hw]at h0 ⊢
end
section
variable{T:Tbl}[CLimb T]
theorem zv8(x:UInt32):callF T 91 [u32 x.toNat]=some (.i .i64 (blen x.toNat)):=by
 have hx:=zan x
 obtain⟨_,⟨y,n,rfl,h1,h2,h3⟩,hl⟩:=zjq (T:=T) (blen x.toNat) (x.toNat,0,16) ⟨.inl rfl,by simp,by simp,by simp⟩
 have hw:IntKind.wrap .i64 (y:Int)=y:=zab _ (by omega)
 have hw2:IntKind.wrap .i64 ((n:Int)+y)=((n+y:Nat):Int):=zab _ (by omega)
 have h4:=zqg h1
 rw[f91 _ rfl,b91]
 simp
 unfold stLen at hl
 simp at hl
 rw[hl]
 simp[hw,hw2]
 omega
end
def l86_0:AX:=
 (.note
 (.seq
 (.seq
 (.reg [mv 6 3,rg 7 (.bin .gtr (.t 6) (.c (.i .i64 0))),mv 8 7,gd 9 8 true (.mov (.t 0)),gd 10 8 true (.mov (.t 3)),gd 11 8 true (.bin .sub (.t 10) (.c (.i .i64 1))),gd 12 8 true (.iad 1 (.t 9) (.t 11)),gd 13 8 true (.load none (.t 12)),gd 14 8 true (.bin .eql (.t 13) (.c (u32 0))),rg 15 (.pick (.t 8) (.t 14) (.c (.b false)))])
 (.cond (.t 15)
 .skip
 (.exit 0)))
 (.block 1
 (.reg [mv 16 3,rg 17 (.bin .sub (.t 16) (.c (.i .i64 1))),mv 3 17])))
 (.norm false [0,3]))
def b86:AX:=
 (.seq
 (.reg [rg 2 (.mov (.c (.sl [] .nl)))])
 (.seq
 (.reg [mv 4 0,rg 5 (.len (.t 4)),mv 3 5])
 (.seq
 (.lp 0 (.norm false [0,3]) l86_0 (.norm false [0,3]))
 (.seq
 (.reg [mv 18 0,mv 19 3,rg 20 (.slc 1 (.t 18) none (some (.t 19)) none),mv 2 20])
 (.pre (.norm false [2]) .ret)))))
def b106:AX:=
 (.seq
 (.reg [rg 4 (.mov (.c (.sl [] .nl)))])
 (.seq
 (.reg [mv 6 0,rg 7 (.len (.t 6)),mv 8 1,rg 9 (.bin .add (.t 7) (.t 8)),rg 10 (.mks 1 [(u32 0)] (.t 9) (.t 9)),mv 5 10])
 (.seq
 (.reg [mv 11 5,mv 12 0,rg 13 (.xop .cpy [(.t 11),(.t 12)])])
 (.seq
 (.reg [mv 14 5,mv 4 14])
 (.pre (.norm false [4]) .ret)))))
def b71:AX:=
 (.seq
 (.reg [rg 2 (.mov (.c (.sl [] .nl)))])
 (.seq
 (.reg [mv 3 0,rg 4 (.call 86 [(.t 3)]),rg 5 (.call 106 [(.t 4),(.c (.i .i64 0))]),mv 2 5])
 (.pre (.norm false [2]) .ret)))
def b72:AX:=
 (.seq
 (.reg [rg 2 (.mov (.c (.sl [] .nl)))])
 (.seq
 (.reg [mv 3 0,rg 4 (.conv .u32 (.t 3)),mv 5 0,rg 6 (.bin .shr (.t 5) (.c (u64 32))),rg 7 (.conv .u32 (.t 6)),rg 8 (.bsl 1 [(u32 0)] 2 [(0,(.t 4)),(1,(.t 7))]),rg 9 (.call 86 [(.t 8)]),mv 2 9])
 (.pre (.norm false [2]) .ret)))
def l73_0:AX:=
 (.note
 (.seq
 (.reg [rg 15 (.bin .lss (.t 14) (.t 13))])
 (.seq
 (.cond (.t 15)
 .skip
 (.exit 0))
 (.seq
 (.block 1
 (.seq
 (.reg [mv 16 14,rg 17 (.iad 1 (.t 12) (.t 14)),rg 18 (.load none (.t 17)),mv 5 16,mv 6 18])
 (.reg [mv 19 4,mv 20 6,rg 21 (.conv .u64 (.t 20)),mv 22 5,rg 23 (.bin .mul (.c (.i .i64 32)) (.t 22)),rg 24 (.bin .shl (.t 21) (.t 23)),rg 25 (.bin .or (.t 19) (.t 24)),mv 4 25])))
 (.reg [rg 26 (.bin .add (.t 14) (.c (.i .i64 1))),mv 14 26]))))
 (.norm false [4,12,13,14]))
def b73:AX:=
 (.seq
 (.reg [rg 2 (.mov (.c (u64 0))),rg 3 (.mov (.c (.b false)))])
 (.seq
 (.reg [mv 7 0,rg 8 (.call 86 [(.t 7)]),mv 0 8])
 (.seq
 (.seq
 (.reg [mv 9 0,rg 10 (.len (.t 9)),rg 11 (.bin .gtr (.t 10) (.c (.i .i64 2)))])
 (.cond (.t 11)
 (.seq
 (.reg [rg 2 (.mov (.c (u64 0))),rg 3 (.mov (.c (.b false)))])
 (.pre (.norm false [2,3]) .ret))
 .skip))
 (.seq
 (.reg [rg 4 (.mov (.c (u64 0)))])
 (.seq
 (.seq
 (.reg [mv 12 0,rg 13 (.len (.t 12)),rg 14 (.mov (.c (.i .i64 0)))])
 (.lp 0 (.norm false [4,12,13,14]) l73_0 (.norm false [4])))
 (.seq
 (.reg [mv 27 4,mv 2 27,rg 3 (.mov (.c (.b true)))])
 (.pre (.norm false [2,3]) .ret)))))))
def b70:AX:=
 (.seq
 (.reg [rg 2 (.mov (.c (.b false)))])
 (.seq
 (.reg [mv 3 0,rg 4 (.call 86 [(.t 3)]),rg 5 (.len (.t 4)),rg 6 (.bin .eql (.t 5) (.c (.i .i64 0))),mv 2 6])
 (.pre (.norm false [2]) .ret)))
def l87_0:AX:=
 (.note
 (.seq
 (.seq
 (.reg [mv 25 5,rg 26 (.bin .geq (.t 25) (.c (.i .i64 0)))])
 (.cond (.t 26)
 .skip
 (.exit 1)))
 (.seq
 (.block 2
 (.block 3
 (.seq
 (.drawT [mv 30 0,mv 31 5,rg 32 (.iad 1 (.t 30) (.t 31)),rg 33 (.load none (.t 32)),mv 34 1,mv 35 5,rg 36 (.iad 1 (.t 34) (.t 35)),rg 37 (.load none (.t 36))]
 [rg 38 (.bin .lss (.t 33) (.t 37)),mv 29 38])
 (.cond (.t 29)
 (.seq
 (.reg [rg 4 (.mov (.c (.i .i64 (-1))))])
 (.pre (.norm false [4]) .ret))
 (.seq
 (.drawT [mv 40 0,mv 41 5,rg 42 (.iad 1 (.t 40) (.t 41)),rg 43 (.load none (.t 42)),mv 44 1,mv 45 5,rg 46 (.iad 1 (.t 44) (.t 45)),rg 47 (.load none (.t 46))]
 [rg 48 (.bin .gtr (.t 43) (.t 47)),mv 39 48])
 (.cond (.t 39)
 (.seq
 (.reg [rg 4 (.mov (.c (.i .i64 1)))])
 (.pre (.norm false [4]) .ret))
 .skip))))))
 (.reg [mv 27 5,rg 28 (.bin .sub (.t 27) (.c (.i .i64 1))),mv 5 28])))
 (.norm false [0,1,5]))
def b87:AX:=
 (.seq
 (.reg [rg 4 (.mov (.c (.i .i64 0)))])
 (.seq
 (.reg [mv 6 0,rg 7 (.call 86 [(.t 6)]),mv 8 1,rg 9 (.call 86 [(.t 8)]),mv 0 7,mv 1 9])
 (.seq
 (.block 0
 (.seq
 (.reg [mv 11 0,rg 12 (.len (.t 11)),mv 13 1,rg 14 (.len (.t 13)),rg 15 (.bin .lss (.t 12) (.t 14)),mv 10 15])
 (.cond (.t 10)
 (.seq
 (.reg [rg 4 (.mov (.c (.i .i64 (-1))))])
 (.pre (.norm false [4]) .ret))
 (.seq
 (.reg [mv 17 0,rg 18 (.len (.t 17)),mv 19 1,rg 20 (.len (.t 19)),rg 21 (.bin .gtr (.t 18) (.t 20)),mv 16 21])
 (.cond (.t 16)
 (.seq
 (.reg [rg 4 (.mov (.c (.i .i64 1)))])
 (.pre (.norm false [4]) .ret))
 .skip)))))
 (.seq
 (.seq
 (.reg [mv 22 0,rg 23 (.len (.t 22)),rg 24 (.bin .sub (.t 23) (.c (.i .i64 1))),mv 5 24])
 (.lp 1 (.norm false [0,1,5]) l87_0 (.norm false [])))
 (.seq
 (.reg [rg 4 (.mov (.c (.i .i64 0)))])
 (.pre (.norm false [4]) .ret))))))
def l85_0:AX:=
 (.note
 (.seq
 (.reg [rg 21 (.bin .lss (.t 20) (.t 19))])
 (.seq
 (.cond (.t 21)
 .skip
 (.exit 0))
 (.seq
 (.block 1
 (.seq
 (.reg [mv 22 20,mv 7 22])
 (.seq
 (.reg [rg 8 (.mov (.c (u32 0)))])
 (.seq
 (.seq
 (.reg [mv 23 7,mv 24 1,rg 25 (.len (.t 24)),rg 26 (.bin .lss (.t 23) (.t 25))])
 (.cond (.t 26)
 (.reg [mv 27 1,mv 28 7,rg 29 (.iad 1 (.t 27) (.t 28)),rg 30 (.load none (.t 29)),mv 8 30])
 .skip))
 (.reg [mv 32 5,mv 33 7,mv 34 0,mv 35 7,rg 36 (.iad 1 (.t 34) (.t 35)),rg 37 (.load none (.t 36)),mv 38 8,mv 39 6,rg 40 (.call 115 [(.t 37),(.t 38),(.t 39)]),mv 31 40,rg 41 (.ext (.t 31) 0),rg 42 (.ext (.t 31) 1),rg 43 (.iad 1 (.t 32) (.t 33)),so (.store 1 (.t 43) (.t 41)),mv 6 42])))))
 (.reg [rg 44 (.bin .add (.t 20) (.c (.i .i64 1))),mv 20 44]))))
 (.norm false [0,1,5,6,19,20]))
def b85:AX:=
 (.seq
 (.reg [rg 4 (.mov (.c (.sl [] .nl)))])
 (.seq
 (.seq
 (.reg [mv 9 0,rg 10 (.len (.t 9)),mv 11 1,rg 12 (.len (.t 11)),rg 13 (.bin .lss (.t 10) (.t 12))])
 (.cond (.t 13)
 (.reg [mv 14 1,mv 15 0,mv 0 14,mv 1 15])
 .skip))
 (.seq
 (.reg [mv 16 0,rg 17 (.call 2106 [(.t 16),(.c (.i .i64 1))]),mv 5 17])
 (.seq
 (.reg [rg 6 (.mov (.c (u32 0)))])
 (.seq
 (.seq
 (.reg [mv 18 0,rg 19 (.len (.t 18)),rg 20 (.mov (.c (.i .i64 0)))])
 (.lp 0 (.norm false [0,1,5,6,19,20]) l85_0 (.norm false [0,5,6])))
 (.seq
 (.reg [mv 45 5,mv 46 0,rg 47 (.len (.t 46)),mv 48 6,rg 49 (.iad 1 (.t 45) (.t 47)),so (.store 1 (.t 49) (.t 48))])
 (.seq
 (.reg [mv 50 5,rg 51 (.call 86 [(.t 50)]),mv 4 51])
 (.pre (.norm false [4]) .ret))))))))
def l56_0:AX:=
 (.note
 (.seq
 (.reg [rg 9 (.bin .lss (.t 8) (.t 7))])
 (.seq
 (.cond (.t 9)
 .skip
 (.exit 0))
 (.seq
 (.block 1
 (.seq
 (.reg [rg 10 (.iad 1 (.t 6) (.t 8)),rg 11 (.load none (.t 10)),mv 5 11])
 (.reg [mv 12 3,mv 13 5,rg 14 (.call 86 [(.t 13)]),rg 15 (.call 85 [(.t 12),(.t 14)]),mv 3 15])))
 (.reg [rg 16 (.bin .add (.t 8) (.c (.i .i64 1))),mv 8 16]))))
 (.norm false [3,6,7,8]))
def b56:AX:=
 (.seq
 (.reg [rg 2 (.mov (.c (.sl [] .nl)))])
 (.seq
 (.reg [rg 3 (.mov (.c (.sl [] .nl)))])
 (.seq
 (.seq
 (.reg [mv 6 0,rg 7 (.len (.t 6)),rg 8 (.mov (.c (.i .i64 0)))])
 (.lp 0 (.norm false [3,6,7,8]) l56_0 (.norm false [3])))
 (.seq
 (.reg [mv 17 3,mv 2 17])
 (.pre (.norm false [2]) .ret)))))
def l88_0:AX:=
 (.note
 (.seq
 (.reg [rg 23 (.bin .lss (.t 22) (.t 21))])
 (.seq
 (.cond (.t 23)
 .skip
 (.exit 0))
 (.seq
 (.block 1
 (.seq
 (.reg [mv 24 22,mv 8 24])
 (.seq
 (.reg [rg 9 (.mov (.c (u32 0)))])
 (.seq
 (.seq
 (.reg [mv 25 8,mv 26 1,rg 27 (.len (.t 26)),rg 28 (.bin .lss (.t 25) (.t 27))])
 (.cond (.t 28)
 (.reg [mv 29 1,mv 30 8,rg 31 (.iad 1 (.t 29) (.t 30)),rg 32 (.load none (.t 31)),mv 9 32])
 .skip))
 (.reg [mv 34 6,mv 35 8,mv 36 0,mv 37 8,rg 38 (.iad 1 (.t 36) (.t 37)),rg 39 (.load none (.t 38)),mv 40 9,mv 41 7,rg 42 (.call 116 [(.t 39),(.t 40),(.t 41)]),mv 33 42,rg 43 (.ext (.t 33) 0),rg 44 (.ext (.t 33) 1),rg 45 (.iad 1 (.t 34) (.t 35)),so (.store 1 (.t 45) (.t 43)),mv 7 44])))))
 (.reg [rg 46 (.bin .add (.t 22) (.c (.i .i64 1))),mv 22 46]))))
 (.norm false [0,1,6,7,21,22]))
def b88:AX:=
 (.seq
 (.reg [rg 4 (.mov (.c (.sl [] .nl))),rg 5 (.mov (.c (.b false)))])
 (.seq
 (.reg [mv 10 0,rg 11 (.call 86 [(.t 10)]),mv 12 1,rg 13 (.call 86 [(.t 12)]),mv 0 11,mv 1 13])
 (.seq
 (.seq
 (.reg [mv 14 0,mv 15 1,rg 16 (.call 87 [(.t 14),(.t 15)]),rg 17 (.bin .lss (.t 16) (.c (.i .i64 0)))])
 (.cond (.t 17)
 (.seq
 (.reg [rg 4 (.mov (.c (.sl [] .nl))),rg 5 (.mov (.c (.b false)))])
 (.pre (.norm false [4,5]) .ret))
 .skip))
 (.seq
 (.reg [mv 18 0,rg 19 (.call 2106 [(.t 18),(.c (.i .i64 0))]),mv 6 19])
 (.seq
 (.reg [rg 7 (.mov (.c (u32 0)))])
 (.seq
 (.seq
 (.reg [mv 20 0,rg 21 (.len (.t 20)),rg 22 (.mov (.c (.i .i64 0)))])
 (.lp 0 (.norm false [0,1,6,7,21,22]) l88_0 (.norm false [6])))
 (.seq
 (.reg [mv 47 6,rg 48 (.call 86 [(.t 47)]),mv 4 48,rg 5 (.mov (.c (.b true)))])
 (.pre (.norm false [4,5]) .ret))))))))
def b57:AX:=
 (.seq
 (.reg [rg 4 (.mov (.c (.sl [] .nl))),rg 5 (.mov (.c (.i .i64 0)))])
 (.seq
 (.reg [mv 9 0,mv 10 1,rg 11 (.call 87 [(.t 9),(.t 10)]),mv 6 11])
 (.seq
 (.seq
 (.reg [mv 12 6,rg 13 (.bin .lss (.t 12) (.c (.i .i64 0)))])
 (.cond (.t 13)
 (.reg [mv 14 1,mv 15 0,mv 0 14,mv 1 15])
 .skip))
 (.seq
 (.reg [mv 17 0,mv 18 1,rg 19 (.call 88 [(.t 17),(.t 18)]),mv 16 19,rg 20 (.ext (.t 16) 0),rg 21 (.ext (.t 16) 1),mv 7 20,mv 8 21])
 (.seq
 (.reg [mv 22 7,mv 23 6,mv 4 22,mv 5 23])
 (.pre (.norm false [4,5]) .ret))))))
def b2106:AX:=
 (.seq
 (.reg [rg 4 (.mov (.c (.sl [] .nl)))])
 (.seq
 (.reg [mv 6 0,rg 7 (.len (.t 6)),mv 8 1,rg 9 (.bin .add (.t 7) (.t 8)),rg 10 (.mks 1 [(u32 0)] (.t 9) (.t 9)),mv 5 10])
 (.seq
 (.reg [mv 11 5,mv 12 0,rg 13 (.xop .cpy [(.t 11),(.t 12)])])
 (.seq
 (.reg [mv 14 5,mv 4 14])
 (.pre (.norm false [4]) .ret)))))
class CNat (T:Tbl):Prop extends CLimb T where
 h86:T 86=some ⟨1,21,[.t 2],b86,none,false⟩
 h106:T 106=some ⟨2,15,[.t 4],b106,none,false⟩
 h71:T 71=some ⟨1,6,[.t 2],b71,none,false⟩
 h72:T 72=some ⟨1,10,[.t 2],b72,none,false⟩
 h73:T 73=some ⟨1,28,[.t 2,.t 3],b73,none,false⟩
 h70:T 70=some ⟨1,7,[.t 2],b70,none,false⟩
 h87:T 87=some ⟨2,49,[.t 4],b87,none,false⟩
 h85:T 85=some ⟨2,52,[.t 4],b85,none,false⟩
 h56:T 56=some ⟨1,18,[.t 2],b56,none,false⟩
 h88:T 88=some ⟨2,49,[.t 4,.t 5],b88,none,false⟩
 h57:T 57=some ⟨2,24,[.t 4,.t 5],b57,none,false⟩
 h2106:T 2106=some ⟨2,15,[.t 4],b2106,(some [false,false]),false⟩
section
variable{T:Tbl}[CNat T]{d:Option Nat}{st:St}
@[simp] theorem x86(xs:List AV):callX (orc T) T 86 xs d st=cP T 86 false xs d st:=zaa CNat.h86
theorem f86(xs:List AV)(hn:xs.length=1):callF T 86 xs=retF [.t 2] false (evX (orc T) T 0 b86 ⟨argEnv xs,[],1⟩):=zac CNat.h86 hn
@[simp] theorem x106(xs:List AV):callX (orc T) T 106 xs d st=cP T 106 false xs d st:=zaa CNat.h106
theorem f106(xs:List AV)(hn:xs.length=2):callF T 106 xs=retF [.t 4] false (evX (orc T) T 0 b106 ⟨argEnv xs,[],1⟩):=zac CNat.h106 hn
@[simp] theorem x71(xs:List AV):callX (orc T) T 71 xs d st=cP T 71 false xs d st:=zaa CNat.h71
@[simp] theorem y71{e:Env}{h:Heap}{older:List Heap}(args:List Opd):opD (orc T) T (.call 71 args) e h older=dR (callF T 71 ((args.map (ev e.get)).map (wkIf false))) (args.map (ev e.get)):=zce CNat.h71
theorem f71(xs:List AV)(hn:xs.length=1):callF T 71 xs=retF [.t 2] false (evX (orc T) T 0 b71 ⟨argEnv xs,[],1⟩):=zac CNat.h71 hn
@[simp] theorem x72(xs:List AV):callX (orc T) T 72 xs d st=cP T 72 false xs d st:=zaa CNat.h72
theorem f72(xs:List AV)(hn:xs.length=1):callF T 72 xs=retF [.t 2] false (evX (orc T) T 0 b72 ⟨argEnv xs,[],1⟩):=zac CNat.h72 hn
@[simp] theorem x73(xs:List AV):callX (orc T) T 73 xs d st=cP T 73 false xs d st:=zaa CNat.h73
theorem f73(xs:List AV)(hn:xs.length=1):callF T 73 xs=retF [.t 2,.t 3] false (evX (orc T) T 0 b73 ⟨argEnv xs,[],1⟩):=zac CNat.h73 hn
@[simp] theorem x70(xs:List AV):callX (orc T) T 70 xs d st=cP T 70 false xs d st:=zaa CNat.h70
theorem f70(xs:List AV)(hn:xs.length=1):callF T 70 xs=retF [.t 2] false (evX (orc T) T 0 b70 ⟨argEnv xs,[],1⟩):=zac CNat.h70 hn
@[simp] theorem x87(xs:List AV):callX (orc T) T 87 xs d st=cP T 87 false xs d st:=zaa CNat.h87
theorem f87(xs:List AV)(hn:xs.length=2):callF T 87 xs=retF [.t 4] false (evX (orc T) T 0 b87 ⟨argEnv xs,[],1⟩):=zac CNat.h87 hn
@[simp] theorem x2106(xs:List AV):callX (orc T) T 2106 xs d st=bL (frzM st.heap [false,false] xs) fun ys=>lentX ys (shareIds (refsM [false,false] xs) st.heap) (reach (shareIds (refsM [false,false] xs) st.heap) 40 (rootsM [false,false] xs) []) T 2106 false d st:=zap CNat.h2106
theorem f2106(xs:List AV)(hb:Heap)(hn:xs.length=2):callH T 2106 xs hb=retH [.t 4] false hb.length (evX (orc T) T hb.length b2106 ⟨argEnv xs,hb,hb.length+1⟩):=zax CNat.h2106 hn
end
def val:List UInt32→Nat
 | []=>0
 | x::l=>x.toNat+4294967296*val l
def ofN(n:Nat):List UInt32:=if n=0 then [] else w32 n::ofN (n/4294967296)
termination_by n
decreasing_by omega
def Right(l:List UInt32):Prop:=∀x,l.getLast? = some x→x.toNat≠0
@[simp] theorem za0:val []=0:=rfl
@[simp] theorem zai(x:UInt32)(l:List UInt32):val (x::l)=x.toNat+4294967296*val l:=rfl
@[simp] theorem zjz:ofN 0=[]:=by rw[ofN];rfl
theorem zfc{n:Nat}(h:n≠0):ofN n=w32 n::ofN (n/4294967296):=by rw[ofN,if_neg h]
theorem zdt(n:Nat):(w32 n).toNat=n%4294967296:=zbf n
theorem zxi{x:UInt32}{n:Nat}(h:n%4294967296=x.toNat):w32 n=x:=by
 rw[←UInt32.toNat_inj,zdt,h]
theorem zag(n:Nat):val (ofN n)=n:=by
 induction n using Nat.strongRecOn with
 | _ n ih=>
  by_cases h:n=0
  ·subst h;simp
  ·rw[zfc h,zai,ih (n/4294967296) (by omega),zdt]
   omega
theorem zaj(l m:List UInt32):val (l++m)=val l+4294967296^l.length*val m:=by
 induction l with
 | nil=>simp
 | cons x l ih=>
  simp only[List.cons_append,zai,ih,List.length_cons,Nat.pow_succ,Nat.mul_add,Nat.add_assoc]
  congr 2
  rw[←Nat.mul_assoc,Nat.mul_comm 4294967296 (4294967296^l.length)]
theorem za2(l:List UInt32):val l<4294967296^l.length:=by
 induction l with
 | nil=>simp
 | cons x l ih=>
  have:=zan x
  simp only[zai,List.length_cons,Nat.pow_succ]
  omega
theorem ziw{x:UInt32}{l:List UInt32}(h:Right (x::l)):Right l:=by
 intro y hy
 apply h
 cases l with
 | nil=>simp at hy
 | cons z l=>rw[List.getLast?_cons_cons];exact hy
theorem zwp{l:List UInt32}(h:Right l):val l=0↔l=[]:=by
 constructor
 ·intro h0
  induction l with
  | nil=>rfl
  | cons x l ih=>
   exfalso
   simp only[zai]at h0
   have h1:=ih (ziw h) (by omega)
   subst h1
   exact h x (by simp) (by omega)
 ·rintro rfl;rfl
theorem zzw{l:List UInt32}(h:Right l):ofN (val l)=l:=by
 induction l with
 | nil=>simp
 | cons x l ih=>
  have hx:=zan x
  have hne:val (x::l)≠0:=fun h0=>by have:=(zwp h).1 h0;cases this
  rw[zfc hne]
  congr 1
  ·exact zxi (by simp only[zai];omega)
  ·rw[show val (x::l)/4294967296=val l by simp only[zai];omega]
   exact ih (ziw h)
theorem zau{n:Nat}:ofN n=[]↔n=0:=⟨fun h=>by rw[←zag n,h];rfl,fun h=>by rw[h];simp⟩
theorem zq4{a:List UInt32}{n:Nat}(hn:n≤a.length)(h0:∀(i:Nat) (x:UInt32),n≤i→a[i]? = some x→x.toNat=0)(h1:∀x:UInt32,0<n→a[n-1]? = some x→x.toNat≠0):a.take n=ofN (val a):=by
 have hr:Right (a.take n):=by
  intro x hx
  have hn0:0<n:=by
   rcases Nat.eq_zero_or_pos n with h | h
   ·subst h;simp at hx
   ·exact h
  apply h1 x hn0
  rw[List.getLast?_eq_getElem?,List.length_take,Nat.min_eq_left hn,List.getElem?_take,if_pos (by omega)]at hx
  exact hx
 have hz:∀l:List UInt32,(∀(i:Nat) (x:UInt32),l[i]? = some x→x.toNat=0)→val l=0:=by
  intro l
  induction l with
  | nil=>intro _;rfl
  | cons x l ih=>
   intro h
   have h2:=h 0 x rfl
   have h3:=ih fun i y hy=>h (i+1) y (by simpa using hy)
   simp only[zai,h2,h3]
 have hv:val a=val (a.take n):=by
  have e:=zaj (a.take n) (a.drop n)
  rw[List.take_append_drop,hz (a.drop n) (fun i x hx=>h0 (n+i) x (by omega) (by rw[List.getElem?_drop]at hx;exact hx))]at e
  omega
 rw[hv,zzw hr]
theorem zd1(a:List UInt32):∃n,n≤a.length∧a.take n=ofN (val a)∧(∀(i:Nat) (x:UInt32),n≤i→a[i]? = some x→x.toNat=0)∧(∀x:UInt32,0<n→a[n-1]? = some x→x.toNat≠0):=by
 have key:∀k,k≤a.length→(∀(i:Nat) (x:UInt32),k≤i→a[i]? = some x→x.toNat=0)→∃n,n≤k∧(∀(i:Nat) (x:UInt32),n≤i→a[i]? = some x→x.toNat=0)∧(∀x:UInt32,0<n→a[n-1]? = some x→x.toNat≠0):=by
  intro k
  induction k with
  | zero=>intro _ h;exact⟨0,Nat.le_refl _,h,fun x hx=>by omega⟩
  | succ k ih=>
   intro hk h
   by_cases hz:(a[k]'(by omega)).toNat=0
   ·obtain⟨n,h1,h2,h3⟩:=ih (by omega) fun i x hi hx=>by
     rcases Nat.lt_or_ge k i with h4 | h4
     ·exact h i x h4 hx
     ·have:i=k:=by omega
      subst this
      rw[List.getElem?_eq_getElem (by omega)]at hx
      cases hx
      exact hz
    exact⟨n,by omega,h2,h3⟩
   ·refine⟨k+1,Nat.le_refl _,h,fun x _ hx=>?_⟩
    rw[Nat.add_sub_cancel,List.getElem?_eq_getElem (by omega)]at hx
    cases hx
    exact hz
 obtain⟨n,h1,h2,h3⟩:=key a.length (Nat.le_refl _) fun i x hi hx=>by rw[List.getElem?_eq_none hi]at hx;cases hx
 exact⟨n,h1,zq4 h1 h2 h3,h2,h3⟩
theorem zae(a:List UInt32):(ofN (val a)).length≤a.length:=by
 obtain⟨n,h1,h2,_⟩:=zd1 a
 rw[←h2,List.length_take]
 omega
theorem zbh{n k:Nat}(h:n<4294967296^k):(ofN n).length≤k:=by
 induction k generalizing n with
 | zero=>
  have:n=0:=by simp at h;omega
  subst this
  simp
 | succ k ih=>
  by_cases h0:n=0
  ·subst h0;simp
  ·rw[zfc h0,List.length_cons]
   have:=ih (n:=n/4294967296) (by rw[Nat.pow_succ]at h;omega)
   omega
theorem zaf{a:List UInt32}{i:Nat}{x:UInt32}(h:a[i]? = some x):val (a.take (i+1))=val (a.take i)+4294967296^i*x.toNat:=by
 have hi:i<a.length:=by
  rcases Nat.lt_or_ge i a.length with h1 | h1
  ·exact h1
  ·rw[List.getElem?_eq_none h1]at h;cases h
 rw[List.take_add_one,h,zaj]
 simp only[Option.toList_some,zai,za0,Nat.mul_zero,Nat.add_zero,List.length_take]
 rw[Nat.min_eq_left (by omega)]
theorem zcv{a:List UInt32}{i:Nat}(h:a.length≤i):val (a.take i)=val a:=by rw[List.take_of_length_le h]
theorem zbr(n:Nat):val (List.replicate n 0)=0:=by
 induction n with
 | zero=>rfl
 | succ n ih=>simp[List.replicate_succ,ih]
theorem zfd{m n:Nat}(h:(ofN m).length<(ofN n).length):m<n:=by
 rcases Nat.lt_or_ge m n with h1 | h1
 ·exact h1
 ·exfalso
  have h2:=za2 (ofN m)
  rw[zag]at h2
  have:=zbh (show n<4294967296^(ofN m).length by omega)
  omega
theorem zar{m n:Nat}(h:m≤n):(ofN m).length≤(ofN n).length:=by
 rcases Nat.lt_or_ge (ofN n).length (ofN m).length with h1 | h1
 ·have:=zfd h1;omega
 ·exact h1
def cmpN(x y:Nat):Int:=if x<y then -1 else if y<x then 1 else 0
theorem zul{a b:List UInt32}{i:Nat}{x y:UInt32}(hx:a[i]? = some x)(hy:b[i]? = some y)(h:x.toNat<y.toNat):val (a.take (i+1))<val (b.take (i+1)):=by
 rw[zaf hx,zaf hy]
 have h1:=za2 (a.take i)
 have h2:4294967296^(a.take i).length≤4294967296^i:=Nat.pow_le_pow_right (by decide) (by simp;omega)
 have h3:=Nat.mul_le_mul_left (4294967296^i) (show x.toNat+1≤y.toNat from h)
 rw[Nat.mul_add]at h3
 omega
def lls(l:List (List UInt32)):List (List AV):=l.map fun a=>[.sl (u32s a) .an]
section
variable{T:Tbl}
theorem ztv(a:List UInt32)(hl:a.length<9223372036854775808){n:Nat}(hn:n≤a.length)(h0:∀(i:Nat) (x:UInt32),n≤i→a[i]? = some x→x.toNat=0)(h1:∀x:UInt32,0<n→a[n-1]? = some x→x.toNat≠0) :
  ∀m:Nat,(n≤m∧m≤a.length)→loopN T 0 0 (.norm false [0,3]) l86_0 ⟨[(0,.sl (u32s a) .an),(3,.i .i64 (m:Int))],[],2⟩=some (.n,⟨[(0,.sl (u32s a) .an),(3,.i .i64 (n:Int))],[],2⟩):=by
 refine zaw (fun m:Nat=>⟨[(0,.sl (u32s a) .an),(3,.i .i64 (m:Int))],[],2⟩) _ (fun m=>m) _ ?_
 rintro m ⟨hm,hma⟩
 by_cases h2:m=0
 ·right
  subst h2
  have:n=0:=by omega
  subst this
  constructor<;>simp[l86_0]
 ·have hw:IntKind.wrap .i64 ((m:Int)-1)=((m-1:Nat):Int):=by rw[zab _ (by omega)];omega
  have hm1:m-1<a.length:=by omega
  have hg:a[m-1]? = some (a[m-1]'hm1):=List.getElem?_eq_getElem hm1
  have hpos:0<m:=by omega
  by_cases h3:m=n
  ·right
   subst h3
   have hx:=h1 _ hpos hg
   constructor<;>simp[l86_0,hpos,hw,hm1,hx]
  ·left
   refine⟨m-1,⟨by omega,by omega⟩,by show m-1<m;omega,?_,rfl⟩
   have hx:=h0 (m-1) _ (by omega) hg
   simp[l86_0,hpos,hw,hm1,hx]
end
section
variable{T:Tbl}[CNat T]
theorem zdb(a:List UInt32)(hl:a.length≤4294967296):callF T 86 [.sl (u32s a) .an]=some (.sl (u32s (ofN (val a))) .an):=by
 obtain⟨n,h1,h2,h3,h4⟩:=zd1 a
 have hr:=ztv (T:=T) a (by omega) h1 h3 h4 a.length ⟨h1,Nat.le_refl _⟩
 rw[f86 _ rfl,b86]
 simp[hr,h1,h2]
theorem ztw(a:List UInt32)(m:Nat)(hl:a.length+m≤4294967296):callF T 106 [.sl (u32s a) .an,.i .i64 (m:Int)]=some (.sl (u32s (a++List.replicate m 0)) .an):=by
 have hw:IntKind.wrap .i64 ((a.length:Int)+m)=((a.length+m:Nat):Int):=zab _ (by omega)
 have h0:(0:Int)≤(a.length:Int)+m:=by omega
 have h2:(a.length:Int)+m≤4294967296:=by omega
 have h3:((a.length:Int)+m).toNat=a.length+m:=by omega
 rw[f106 _ rfl,b106]
 simp[hw,h0,h2,h3,List.take_of_length_le]
theorem zjs(a:List UInt32)(m:Nat)(hl:a.length+m≤4294967296):callH T 2106 [.sl (u32s a) .an,.i .i64 (m:Int)] [] =
  some (.bs (.loc 10) 1 1 0 (a.length+m),[(.loc 10,⟨1,.own,1,u32s (a++List.replicate m 0)⟩)]):=by
 have hw:IntKind.wrap .i64 ((a.length:Int)+m)=((a.length+m:Nat):Int):=zab _ (by omega)
 have h0:(0:Int)≤(a.length:Int)+m:=by omega
 have h2:(a.length:Int)+m≤4294967296:=by omega
 have h3:((a.length:Int)+m).toNat=a.length+m:=by omega
 rw[f2106 _ _ rfl,b2106]
 simp[hw,h0,h2,h3]
theorem zbq(a:List UInt32)(hl:a.length≤4294967296):callF T 71 [.sl (u32s a) .an]=some (.sl (u32s (ofN (val a))) .an):=by
 have h1:=zae a
 have h2:=ztw (T:=T) (ofN (val a)) 0 (by omega)
 simp only[Int.natCast_zero]at h2
 rw[f71 _ rfl,b71]
 simp[zdb a hl,h2]
theorem zxf(n:Nat)(h:n<18446744073709551616):callF T 72 [u64 n]=some (.sl (u32s (ofN n)) .an):=by
 have e2:val [w32 n,w32 (n/4294967296)]=n:=by simp[zdt];omega
 have h2:=zdb (T:=T) [w32 n,w32 (n/4294967296)] (by simp)
 rw[e2]at h2
 have h3:n/4294967296%4294967296=n/4294967296:=Nat.mod_eq_of_lt (by omega)
 rw[f72 _ rfl,b72]
 simp[h3,zbj _ _ _ (show n/4294967296<4294967296 by omega),h2]
theorem zfu(a:List UInt32)(hl:a.length≤4294967296):callF T 70 [.sl (u32s a) .an]=some (.b (decide (val a=0))):=by
 rw[f70 _ rfl,b70]
 have:((((ofN (val a)).length:Int) == 0))=decide (val a=0):=by
  rw[Bool.eq_iff_iff]
  simp[zau]
 simp[zdb a hl,this]
def stPlus(a b:List UInt32)(y:Nat×Nat×List UInt32):St:=
 ⟨[(0,.sl (u32s a) .an),(1,.sl (u32s b) .an),(5,.bs (.fld (.loc 17) 10) 1 1 0 (a.length+1)),(6,u32 y.2.1),(19,.i .i64 a.length),(20,.i .i64 y.1)],
  [(.fld (.loc 17) 10,⟨1,.own,1,u32s y.2.2⟩)],3⟩
def sumL(l:List (List UInt32)):Nat:=(l.map val).sum
end
section
variable{T:Tbl}
theorem zwa(a b:List UInt32)(hab:a.length=b.length)(hl:a.length≤1000000):∀m:Nat,m≤a.length →
  loopN T 0 1 (.norm false []) l87_0 ⟨[(0,.sl (u32s a) .an),(1,.sl (u32s b) .an),(5,.i .i64 ((m:Int)-1))],[],2⟩ =
   if val (a.take m)<val (b.take m) then some (.r,⟨[(4,.i .i64 (-1))],[],2⟩) else if val (b.take m)<val (a.take m) then some (.r,⟨[(4,.i .i64 1)],[],2⟩) else some (.n,⟨[],[],2⟩):=by
 refine zaw (fun m:Nat=>⟨[(0,.sl (u32s a) .an),(1,.sl (u32s b) .an),(5,.i .i64 ((m:Int)-1))],[],2⟩) _ (fun m=>m) _ ?_
 intro m hm
 cases m with
 | zero=>
  right
  constructor<;>simp[l87_0]
 | succ i=>
  have ha:a[i]? = some (a[i]'(by omega)):=List.getElem?_eq_getElem _
  have hb:b[i]? = some (b[i]'(by omega)):=List.getElem?_eq_getElem _
  have hia:i<a.length:=by omega
  have hib:i<b.length:=by omega
  have hw:IntKind.wrap .i64 ((i:Int)-1)=(i:Int)-1:=zab _ (by omega)
  rcases Nat.lt_trichotomy (a[i]'hia).toNat (b[i]'hib).toNat with h1 | h1 | h1
  ·right
   have h2:=zul ha hb h1
   constructor<;>simp[l87_0,hia,hib,h1,h2]
  ·left
   refine⟨i,by omega,Nat.lt_succ_self i,?_,?_⟩
   ·simp[l87_0,hia,hib,h1,hw]
   ·have e1:=zaf ha
    have e2:=zaf hb
    rw[e1,e2,h1]
    have e3:(val (a.take i)+4294967296^i*(b[i]'hib).toNat<val (b.take i)+4294967296^i*(b[i]'hib).toNat)=(val (a.take i)<val (b.take i)):=by
     apply propext;omega
    have e4:(val (b.take i)+4294967296^i*(b[i]'hib).toNat<val (a.take i)+4294967296^i*(b[i]'hib).toNat)=(val (b.take i)<val (a.take i)):=by
     apply propext;omega
    simp only[e3,e4]
  ·right
   have h2:=zul hb ha h1
   have h3:¬ val (a.take (i+1))<val (b.take (i+1)):=by omega
   have h4:¬ (a[i]'hia).toNat<(b[i]'hib).toNat:=by omega
   constructor<;>simp[l87_0,hia,hib,h1,h2,h3,h4]
end
section
variable{T:Tbl}[CNat T]
theorem zza(a b:List UInt32)(ha:a.length≤1000000)(hb:b.length≤1000000):callF T 87 [.sl (u32s a) .an,.sl (u32s b) .an]=some (.i .i64 (cmpN (val a) (val b))):=by
 have hta:=zdb (T:=T) a (by omega)
 have htb:=zdb (T:=T) b (by omega)
 have hla:=zae a
 have hlb:=zae b
 rw[f87 _ rfl,b87]
 rcases Nat.lt_trichotomy (ofN (val a)).length (ofN (val b)).length with h | h | h
 ·have h1:=zfd h
  simp[hta,htb,h,cmpN,h1]
 ·have hc:=zwa (T:=T) (ofN (val a)) (ofN (val b)) h (by omega) (ofN (val a)).length (Nat.le_refl _)
  rw[List.take_of_length_le (Nat.le_refl _),List.take_of_length_le (by omega),zag,zag]at hc
  have hw:IntKind.wrap .i64 (((ofN (val a)).length:Int)-1)=((ofN (val a)).length:Int)-1:=zab _ (by omega)
  have h1:¬ (ofN (val a)).length<(ofN (val b)).length:=by omega
  have h2:¬ (ofN (val b)).length<(ofN (val a)).length:=by omega
  simp[hta,htb,h1,h2,hw,hc,cmpN]
  repeat' split
  all_goals simp
 ·have h1:=zfd h
  have h2:¬ val a<val b:=by omega
  have h3:¬ (ofN (val a)).length<(ofN (val b)).length:=by omega
  simp[hta,htb,h,cmpN,h1,h2,h3]
def stSub(a b:List UInt32)(y:Nat×Nat×List UInt32):St:=
 ⟨[(0,.sl (u32s a) .an),(1,.sl (u32s b) .an),(6,.bs (.fld (.loc 19) 10) 1 1 0 a.length),(7,u32 y.2.1),(21,.i .i64 a.length),(22,.i .i64 y.1)],
  [(.fld (.loc 19) 10,⟨1,.own,1,u32s y.2.2⟩)],3⟩
theorem znj{x y:Nat}:cmpN x y<0↔x<y:=by
 unfold cmpN
 split
 ·simp[*]
 ·split<;>simp[*]
theorem zwb{x y:Nat}(hx:x<4294967296):x ||| (y*4294967296)=x+y*4294967296:=by
 have:=Nat.two_pow_add_eq_or_of_lt (i:=32) hx y
 rw[Nat.or_comm,Nat.mul_comm y,show (4294967296:Nat)=2^32 from rfl,←this]
 omega
end
section
variable{T:Tbl}
theorem zqk(l:List UInt32)(hl:l.length≤2):∀i:Nat,i≤l.length →
  loopN T 0 0 (.norm false [4]) l73_0 ⟨[(4,u64 (val (l.take i))),(12,.sl (u32s l) .an),(13,.i .i64 l.length),(14,.i .i64 i)],[],2⟩=some (.n,⟨[(4,u64 (val l))],[],2⟩):=by
 refine zaw (fun i:Nat=>⟨[(4,u64 (val (l.take i))),(12,.sl (u32s l) .an),(13,.i .i64 l.length),(14,.i .i64 i)],[],2⟩) _ (fun i=>l.length-i) _ ?_
 intro i hi
 by_cases h0:i<l.length
 ·left
  have hg:l[i]? = some (l[i]'h0):=List.getElem?_eq_getElem h0
  have hx:=zan (l[i]'h0)
  have h1:=zaf hg
  refine⟨i+1,h0,by show l.length-(i+1)<l.length-i;omega,?_,rfl⟩
  rcases(show i=0∨i=1 by omega) with rfl | rfl
  ·simp[l73_0,h0,h1]
  ·have h2:val (l.take 1)<4294967296:=by
    have:=za2 (l.take 1)
    have h3:(l.take 1).length=1:=by simp;omega
    rw[h3]at this
    simpa using this
   have e1:(l[1]'h0).toNat*4294967296%18446744073709551616=(l[1]'h0).toNat*4294967296:=Nat.mod_eq_of_lt (by omega)
   have e2:=zwb (y:=(l[1]'h0).toNat) h2
   have e3:(val (l.take 1)+(l[1]'h0).toNat*4294967296)%18446744073709551616=val (l.take 1)+(l[1]'h0).toNat*4294967296:=Nat.mod_eq_of_lt (by omega)
   have e4:val (l.take 1)+(l[1]'h0).toNat*4294967296=val (l.take (1+1)):=by rw[h1];omega
   simp at e4
   have h0':(1:Int)<(l.length:Int):=by omega
   have e5:val (List.take 2 l)<18446744073709551616:=by omega
   simp[l73_0,h0,h0',e1,e2,e4,e5]
 ·right
  have:i=l.length:=by omega
  subst this
  rw[List.take_of_length_le (Nat.le_refl _)]
  constructor<;>simp[l73_0]
end
section
variable{T:Tbl}[CNat T]
theorem zlp(a:List UInt32)(ha:a.length≤1000000):callF T 73 [.sl (u32s a) .an] =
  some (if val a<18446744073709551616 then .tup [u64 (val a),.b true] else .tup [u64 0,.b false]):=by
 have hta:=zdb (T:=T) a (by omega)
 have hla:=zae a
 have hv:=zag (val a)
 rw[f73 _ rfl,b73]
 generalize hl:ofN (val a)=l at *
 by_cases h:2<l.length
 ·have h2:¬ val a<18446744073709551616:=by
   intro h3
   have:=zbh (show val a<4294967296^2 from h3)
   rw[hl]at this
   omega
  have h3:(2:Int)<(l.length:Int):=by omega
  simp[hta,h3,h2]
 ·have h2:val a<18446744073709551616:=by
   have:=za2 l
   rw[hv]at this
   have h3:4294967296^l.length≤4294967296^2:=Nat.pow_le_pow_right (by decide) (by omega)
   omega
  have h3:¬ (2:Int)<(l.length:Int):=by omega
  have hs:=zqk (T:=T) l (by omega) 0 (Nat.zero_le _)
  simp at hs
  simp[hta,h3,h2,hs,hv]
end
def l89_0:AX:=
 (.note
 (.seq
 (.reg [rg 15 (.bin .lss (.t 14) (.t 13))])
 (.seq
 (.cond (.t 15)
 .skip
 (.exit 0))
 (.seq
 (.block 1
 (.seq
 (.reg [mv 16 14,rg 17 (.iad 1 (.t 12) (.t 14)),rg 18 (.load none (.t 17)),mv 10 16,mv 11 18])
 (.reg [mv 20 0,mv 21 1,mv 22 10,rg 23 (.bin .add (.t 21) (.t 22)),mv 24 3,mv 25 11,mv 26 0,mv 27 1,mv 28 10,rg 29 (.bin .add (.t 27) (.t 28)),rg 30 (.iad 1 (.t 26) (.t 29)),rg 31 (.load none (.t 30)),mv 32 4,rg 33 (.call 117 [(.t 24),(.t 25),(.t 31),(.t 32)]),mv 19 33,rg 34 (.ext (.t 19) 0),rg 35 (.ext (.t 19) 1),mv 4 34,rg 36 (.iad 1 (.t 20) (.t 23)),so (.store 1 (.t 36) (.t 35))])))
 (.reg [rg 37 (.bin .add (.t 14) (.c (.i .i64 1))),mv 14 37]))))
 (.norm false [0,1,2,3,4,12,13,14]))
def b89:AX:=
 (.seq
 (.seq
 (.reg [mv 12 2,rg 13 (.len (.t 12)),rg 14 (.mov (.c (.i .i64 0)))])
 (.lp 0 (.norm false [0,1,2,3,4,12,13,14]) l89_0 (.norm false [0,1,2,4])))
 (.reg [mv 38 0,mv 39 1,mv 40 2,rg 41 (.len (.t 40)),rg 42 (.bin .add (.t 39) (.t 41)),mv 43 4,rg 44 (.iad 1 (.t 38) (.t 42)),so (.store 1 (.t 44) (.t 43))]))
def l60_0:AX:=
 (.note
 (.seq
 (.reg [rg 18 (.bin .lss (.t 17) (.t 16))])
 (.seq
 (.cond (.t 18)
 .skip
 (.exit 0))
 (.seq
 (.block 1
 (.seq
 (.reg [mv 19 17,rg 20 (.iad 1 (.t 15) (.t 17)),rg 21 (.load none (.t 20)),mv 6 19,mv 7 21])
 (.reg [mv 22 5,mv 23 6,mv 24 0,mv 25 7,rg 26 (.call 89 [(.t 22),(.t 23),(.t 24),(.t 25),(.c (u32 0))])])))
 (.reg [rg 27 (.bin .add (.t 17) (.c (.i .i64 1))),mv 17 27]))))
 (.norm false [0,5,15,16,17]))
def b60:AX:=
 (.seq
 (.reg [rg 4 (.mov (.c (.sl [] .nl)))])
 (.seq
 (.reg [mv 8 0,rg 9 (.len (.t 8)),mv 10 1,rg 11 (.len (.t 10)),rg 12 (.bin .add (.t 9) (.t 11)),rg 13 (.bin .add (.t 12) (.c (.i .i64 1))),rg 14 (.mks 1 [(u32 0)] (.t 13) (.t 13)),mv 5 14])
 (.seq
 (.seq
 (.reg [mv 15 1,rg 16 (.len (.t 15)),rg 17 (.mov (.c (.i .i64 0)))])
 (.lp 0 (.norm false [0,5,15,16,17]) l60_0 (.norm false [5])))
 (.seq
 (.reg [mv 28 5,rg 29 (.call 71 [(.t 28)]),mv 4 29])
 (.pre (.norm false [4]) .ret)))))
class CProd (T:Tbl):Prop extends CNat T where
 h89:T 89=some ⟨5,45,[],b89,(some [true,false,false,false,false]),false⟩
 h60:T 60=some ⟨2,30,[.t 4],b60,none,false⟩
def l92_0:AX:=
 (.note
 (.seq
 (.reg [rg 27 (.bin .lss (.t 26) (.t 25))])
 (.seq
 (.cond (.t 27)
 .skip
 (.exit 0))
 (.seq
 (.block 1
 (.seq
 (.reg [mv 28 26,rg 29 (.iad 1 (.t 24) (.t 26)),rg 30 (.load none (.t 29)),mv 8 28,mv 9 30])
 (.seq
 (.reg [mv 31 9,rg 32 (.conv .u64 (.t 31)),mv 33 6,rg 34 (.bin .shl (.t 32) (.t 33)),mv 10 34])
 (.seq
 (.reg [mv 35 7,mv 36 5,mv 37 8,rg 38 (.bin .add (.t 36) (.t 37)),rg 39 (.iad 1 (.t 35) (.t 38)),rg 40 (.load none (.t 39)),mv 41 10,rg 42 (.conv .u32 (.t 41)),rg 43 (.bin .or (.t 40) (.t 42)),rg 44 (.iad 1 (.t 35) (.t 38)),so (.store 1 (.t 44) (.t 43))])
 (.reg [mv 45 7,mv 46 5,mv 47 8,rg 48 (.bin .add (.t 46) (.t 47)),rg 49 (.bin .add (.t 48) (.c (.i .i64 1))),mv 50 10,rg 51 (.bin .shr (.t 50) (.c (u64 32))),rg 52 (.conv .u32 (.t 51)),rg 53 (.iad 1 (.t 45) (.t 49)),so (.store 1 (.t 53) (.t 52))])))))
 (.reg [rg 54 (.bin .add (.t 26) (.c (.i .i64 1))),mv 26 54]))))
 (.norm false [5,6,7,24,25,26]))
def b92:AX:=
 (.seq
 (.reg [rg 4 (.mov (.c (.sl [] .nl)))])
 (.seq
 (.reg [mv 11 1,rg 12 (.mm true [(.t 11),(.c (.i .i64 0))]),rg 13 (.mm false [(.t 12),(.c (.i .i64 4096))]),mv 1 13])
 (.seq
 (.reg [mv 14 1,rg 15 (.bin .quo (.t 14) (.c (.i .i64 32))),mv 16 1,rg 17 (.bin .rem (.t 16) (.c (.i .i64 32))),mv 5 15,mv 6 17])
 (.seq
 (.reg [mv 18 5,mv 19 0,rg 20 (.len (.t 19)),rg 21 (.bin .add (.t 18) (.t 20)),rg 22 (.bin .add (.t 21) (.c (.i .i64 1))),rg 23 (.mks 1 [(u32 0)] (.t 22) (.t 22)),mv 7 23])
 (.seq
 (.seq
 (.reg [mv 24 0,rg 25 (.len (.t 24)),rg 26 (.mov (.c (.i .i64 0)))])
 (.lp 0 (.norm false [5,6,7,24,25,26]) l92_0 (.norm false [7])))
 (.seq
 (.reg [mv 55 7,rg 56 (.call 71 [(.t 55)]),mv 4 56])
 (.pre (.norm false [4]) .ret)))))))
def l94_0:AX:=
 (.note
 (.seq
 (.reg [rg 28 (.bin .lss (.t 27) (.t 26))])
 (.seq
 (.cond (.t 28)
 .skip
 (.exit 0))
 (.seq
 (.block 1
 (.seq
 (.reg [mv 29 27,mv 8 29])
 (.seq
 (.reg [mv 30 0,mv 31 5,mv 32 8,rg 33 (.bin .add (.t 31) (.t 32)),rg 34 (.iad 1 (.t 30) (.t 33)),rg 35 (.load none (.t 34)),rg 36 (.conv .u64 (.t 35)),mv 9 36])
 (.seq
 (.seq
 (.reg [mv 37 5,mv 38 8,rg 39 (.bin .add (.t 37) (.t 38)),rg 40 (.bin .add (.t 39) (.c (.i .i64 1))),mv 41 0,rg 42 (.len (.t 41)),rg 43 (.bin .lss (.t 40) (.t 42))])
 (.cond (.t 43)
 (.reg [mv 44 9,mv 45 0,mv 46 5,mv 47 8,rg 48 (.bin .add (.t 46) (.t 47)),rg 49 (.bin .add (.t 48) (.c (.i .i64 1))),rg 50 (.iad 1 (.t 45) (.t 49)),rg 51 (.load none (.t 50)),rg 52 (.conv .u64 (.t 51)),rg 53 (.bin .shl (.t 52) (.c (u64 32))),rg 54 (.bin .or (.t 44) (.t 53)),mv 9 54])
 .skip))
 (.reg [mv 55 7,mv 56 8,mv 57 9,mv 58 6,rg 59 (.bin .shr (.t 57) (.t 58)),rg 60 (.conv .u32 (.t 59)),rg 61 (.iad 1 (.t 55) (.t 56)),so (.store 1 (.t 61) (.t 60))])))))
 (.reg [rg 62 (.bin .add (.t 27) (.c (.i .i64 1))),mv 27 62]))))
 (.norm false [0,5,6,7,26,27]))
def b94:AX:=
 (.seq
 (.reg [rg 4 (.mov (.c (.sl [] .nl)))])
 (.seq
 (.reg [mv 10 1,rg 11 (.mm true [(.t 10),(.c (.i .i64 0))]),mv 1 11])
 (.seq
 (.reg [mv 12 1,rg 13 (.bin .quo (.t 12) (.c (.i .i64 32))),mv 14 1,rg 15 (.bin .rem (.t 14) (.c (.i .i64 32))),mv 5 13,mv 6 15])
 (.seq
 (.seq
 (.reg [mv 16 5,mv 17 0,rg 18 (.len (.t 17)),rg 19 (.bin .geq (.t 16) (.t 18))])
 (.cond (.t 19)
 (.seq
 (.reg [rg 4 (.mov (.c (.sl [] .nl)))])
 (.pre (.norm false [4]) .ret))
 .skip))
 (.seq
 (.reg [mv 20 0,rg 21 (.len (.t 20)),mv 22 5,rg 23 (.bin .sub (.t 21) (.t 22)),rg 24 (.mks 1 [(u32 0)] (.t 23) (.t 23)),mv 7 24])
 (.seq
 (.seq
 (.reg [mv 25 7,rg 26 (.len (.t 25)),rg 27 (.mov (.c (.i .i64 0)))])
 (.lp 0 (.norm false [0,5,6,7,26,27]) l94_0 (.norm false [7])))
 (.seq
 (.reg [mv 63 7,rg 64 (.call 71 [(.t 63)]),mv 4 64])
 (.pre (.norm false [4]) .ret))))))))
class CTwos (T:Tbl):Prop where
 h92:T 92=some ⟨2,57,[.t 4],b92,none,false⟩
 h94:T 94=some ⟨2,65,[.t 4],b94,none,false⟩
section
variable{T:Tbl}[CTwos T]{d:Option Nat}{st:St}
@[simp] theorem x94(xs:List AV):callX (orc T) T 94 xs d st=cP T 94 false xs d st:=zaa CTwos.h94
theorem f94(xs:List AV)(hn:xs.length=2):callF T 94 xs=retF [.t 4] false (evX (orc T) T 0 b94 ⟨argEnv xs,[],1⟩):=zac CTwos.h94 hn
end
theorem zdr{P m S:List UInt32}{i:Nat}(hm:m.length=i)(hi:i<S.length):(P++(m++S.drop i))[P.length+i]? = some (S[i]'hi):=by
 rw[List.getElem?_append_right (by omega),Nat.add_sub_cancel_left,List.getElem?_append_right (by omega),hm,Nat.sub_self,List.getElem?_drop,Nat.add_zero,List.getElem?_eq_getElem hi]
theorem zdc{P m S:List UInt32}{i:Nat}(w:UInt32)(hm:m.length=i)(hi:i<S.length):(P++(m++S.drop i)).set (P.length+i) w=P++((m++[w])++S.drop (i+1)):=by
 rw[List.set_append_right (P.length+i) w (by omega),Nat.add_sub_cancel_left,List.set_append_right i w (by omega),hm,Nat.sub_self,List.drop_eq_getElem_cons hi,List.set_cons_zero]
 simp
section
variable{T:Tbl}[CProd T]
def stRow(P S a:List UInt32)(x:Nat)(y:Nat×Nat×List UInt32):St:=
 ⟨[(0,.bs (.bor 0) 0 1 0 (P.length+S.length)),(1,.i .i64 P.length),(2,.sl (u32s a) .an),(3,u32 x),(4,u32 y.2.1),(12,.sl (u32s a) .an),(13,.i .i64 a.length),(14,.i .i64 y.1)],
  [(.bor 0,⟨0,.own,1,u32s (P++(y.2.2++S.drop y.1))⟩)],4⟩
theorem zwc{p m w c c' s x y t v k:Nat}(h:m+p*c=s+x*t+k)(e:w+4294967296*c'=x*y+v+c):(m+p*w)+p*4294967296*c'=(s+p*v)+x*(t+p*y)+k:=by
 have e2:p*w+p*4294967296*c'=p*(x*y)+p*v+p*c:=by rw[Nat.mul_assoc,←Nat.mul_add,e,Nat.mul_add,Nat.mul_add]
 have e3:x*(t+p*y)=x*t+p*(x*y):=by rw[Nat.mul_add,←Nat.mul_assoc,Nat.mul_comm x p,Nat.mul_assoc]
 omega
def stMul(a b:List UInt32)(y:Nat×List UInt32):St:=
 ⟨[(0,.sl (u32s a) .an),(5,.bs (.loc 14) 1 1 0 (a.length+b.length+1)),(15,.sl (u32s b) .an),(16,.i .i64 b.length),(17,.i .i64 y.1)],[(.loc 14,⟨1,.own,1,u32s (y.2++List.replicate (b.length+1-y.1) 0)⟩)],3⟩
end
theorem znt(w:Nat):4294967296^w=2^(32*w):=by
 rw[Nat.pow_mul]
theorem zl1(a:List UInt32)(w:Nat)(h:w≤a.length):val a=val (a.take w)+4294967296^w*val (a.drop w):=by
 have:=zaj (a.take w) (a.drop w)
 rw[List.take_append_drop,List.length_take,Nat.min_eq_left h]at this
 exact this
theorem zum(a:List UInt32)(w:Nat)(h:w≤a.length):val a/4294967296^w=val (a.drop w):=by
 have hp:0<4294967296^w:=Nat.pow_pos (by decide)
 have hlt:=za2 (a.take w)
 rw[List.length_take,Nat.min_eq_left h]at hlt
 rw[zl1 a w h,Nat.add_mul_div_left _ _ hp,Nat.div_eq_of_lt hlt,Nat.zero_add]
theorem zun{a:List UInt32}{i:Nat}{x:UInt32}(h:a[i/32]? = some x):val a/2^i%2=x.toNat/2^(i%32)%2:=by
 have hlt:i/32<a.length:=by
  rcases Nat.lt_or_ge (i/32) a.length with h1 | h1
  ·exact h1
  ·rw[List.getElem?_eq_none h1]at h;cases h
 have e:2^i=4294967296^(i/32)*2^(i%32):=by
  rw[znt,←Nat.pow_add]
  congr 1
  omega
 rw[e,←Nat.div_div_eq_div_mul,zum a _ (by omega)]
 have hx:a[i/32]'hlt=x:=by rw[List.getElem?_eq_getElem hlt]at h;cases h;rfl
 rw[List.drop_eq_getElem_cons hlt,hx,zai]
 generalize val (a.drop (i/32+1))=r
 have hb:i%32<32:=Nat.mod_lt _ (by decide)
 generalize i%32=b at *
 have e2:4294967296*r=2^b*(2^(32-b-1)*2*r):=by
  rw[←Nat.pow_succ,←Nat.mul_assoc,←Nat.pow_add,show b+(32-b-1+1)=32 by omega]
 rw[e2,Nat.add_mul_div_left _ _ (Nat.pow_pos (by decide)),Nat.mul_right_comm,Nat.add_mul_mod_self_right]
theorem zuo{n k:Nat}(h:n<2^(k+1))(hb:n/2^k%2=0):n<2^k:=by
 have hp:0<2^k:=Nat.pow_pos (by decide)
 rw[Nat.pow_succ]at h
 have h1:n/2^k<2:=Nat.div_lt_of_lt_mul h
 have h2:n/2^k=0:=by
  generalize n/2^k=q at *
  omega
 rcases Nat.lt_or_ge n (2^k) with h3 | h3
 ·exact h3
 ·have:=Nat.div_pos h3 hp
  omega
theorem zxj{a b n:Nat}(h:a<2^n):a ||| 2^n*b=a+2^n*b:=by
 rw[Nat.or_comm,←Nat.two_pow_add_eq_or_of_lt h,Nat.add_comm]
theorem zzx{x c n:Nat}(hx:x<4294967296)(hn:n<32)(hc:c<2^n) :
  x*2^n<18446744073709551616∧(c ||| x*2^n%4294967296)=c+x*2^n%4294967296∧c+x*2^n%4294967296<4294967296∧x*2^n/4294967296<2^n∧2^n<4294967296:=by
 have hp:2^(n+(32-n))=4294967296:=by rw[show n+(32-n)=32 by omega]
 rw[Nat.pow_add]at hp
 have hq:0<2^n:=Nat.pow_pos (by decide)
 have hr:1<2^(32-n):=Nat.one_lt_two_pow (by omega)
 have e1:x*2^n%4294967296=2^n*(x%2^(32-n)):=by rw[←hp,Nat.mul_comm x,Nat.mul_mod_mul_left]
 have e2:=zxj (b:=x%2^(32-n)) hc
 rw[←e1]at e2
 have hlt:2^n<4294967296:=by
  have h1:=Nat.mul_le_mul_left (2^n) (show 2≤2^(32-n) from hr)
  rw[hp]at h1
  omega
 refine⟨?_,e2,?_,?_,hlt⟩
 ·have:=Nat.mul_lt_mul'' hx hlt
  simpa using this
 ·rw[e1]
  have h1:x%2^(32-n)+1≤2^(32-n):=Nat.mod_lt _ (by omega)
  have h2:=Nat.mul_le_mul_left (2^n) h1
  rw[hp,Nat.mul_add,Nat.mul_one]at h2
  omega
 ·exact Nat.div_lt_of_lt_mul (by rw[Nat.mul_comm x];rw[Nat.mul_comm 4294967296];exact Nat.mul_lt_mul_of_pos_left hx hq)
theorem zl2{x y R b:Nat}(hb:b<32)(hx:x<4294967296) :
  (x+4294967296*(y+4294967296*R))/2^b=(x+y*4294967296)/2^b%4294967296+4294967296*((y+4294967296*R)/2^b):=by
 have hq:0<2^b:=Nat.pow_pos (by decide)
 have h1:(x+4294967296*(y+4294967296*R))/4294967296=y+4294967296*R:=by omega
 have h2:(x+4294967296*(y+4294967296*R))/2^b/4294967296=(y+4294967296*R)/2^b:=by
  rw[Nat.div_div_eq_div_mul,Nat.mul_comm (2^b),←Nat.div_div_eq_div_mul,h1]
 have hp:2^b*2^(32-b)=4294967296:=by rw[←Nat.pow_add,show b+(32-b)=32 by omega]
 have h3:x+4294967296*(y+4294967296*R)=(x+y*4294967296)+2^b*(4294967296*(2^(32-b)*R)):=by
  have:2^b*(4294967296*(2^(32-b)*R))=4294967296*(4294967296*R):=by
   rw[Nat.mul_left_comm,←Nat.mul_assoc (2^b),hp]
  omega
 have h4:(x+4294967296*(y+4294967296*R))/2^b%4294967296=(x+y*4294967296)/2^b%4294967296:=by
  rw[h3,Nat.add_mul_div_left _ _ hq,Nat.add_mul_mod_self_left]
 have h5:=Nat.mod_add_div ((x+4294967296*(y+4294967296*R))/2^b) 4294967296
 rw[h2,h4]at h5
 exact h5.symm
end Go.Ab