/-
  A calculus of values, boxes and code, and what functions of the program compute, proved in it.
  Conditions: none beyond those that the theorems state. (Part 3: Ax5, Ax6, Ax7, Ax8, Ax9, GcLimb, GpLimb, GcNat, Nm1, GpNat, GcProd, GcTwos, GpProd, Nm2, GpTwos, GcQuot, GpQuot, GpGuess, GpGuessTry.)
-/
import Derived.Test.YtoppjelfghopnaaGreatDoorPart2

set_option linter.unusedSectionVars false
set_option linter.unusedVariables false
set_option linter.unusedSimpArgs false
set_option linter.unnecessarySimpa false

section
namespace Go.Ab
open Go.RowKit
def Zdw(ν:Nat→FuncId)(τ:Nat→Nat):AOp→AOp
 | .call u args=>.call (ν u) args
 | .ifc k x=>.ifc (τ k) x
 | .inv nm _ _ r args=>.inv nm 0 (if nm="()" then 1 else 0) r args
 | .xop (.mkf k) xs=>.xop (.mkf (τ k)) xs
 | .xop (.mkv k) xs=>.xop (.mkv (τ k)) xs
 | op=>op
def Zaf(ν:Nat→FuncId)(τ:Nat→Nat)(o:AO):AO:=⟨o.dst,o.guard,Zdw ν τ o.op⟩
def Zi7(ν:Nat→FuncId)(τ:Nat→Nat)(o:DO):DO:=⟨Zaf ν τ o.ao,o.lo,o.hi⟩
def er(ν:Nat→FuncId)(τ:Nat→Nat):AX→AC
 | .skip=>.skip
 | .reg l=>.reg (l.map (Zaf ν τ))
 | .draw l=>.draw (l.map (Zi7 ν τ))
 | .seq a b=>.seq (er ν τ a) (er ν τ b)
 | .cond c x y=>.cond c (er ν τ x) (er ν τ y)
 | .block id c=>.block id (er ν τ c)
 | .loop c=>.loop (er ν τ c)
 | .exit id=>.exit id
 | .ret=>.ret
 | .note c _=>er ν τ c
 | .pre _ c=>er ν τ c
 | .scope c=>.scope (er ν τ c)
 | .lp id _ c _=>.block id (.loop (er ν τ c))
 | .bad=>.bad
 | .drawT hd tl=>.drawT (hd.map (Zaf ν τ)) (tl.map (Zaf ν τ))
 | .drawM hd tl=>.drawM (hd.map (Zaf ν τ)) (tl.map (Zaf ν τ))
 | .prim _=>.bad
 | .label l=>.label l
 | .goto l=>.goto l
 | .gsc l c r=>.gsc l (er ν τ c) (er ν τ r)
def erF(ν:Nat→FuncId)(τ:Nat→Nat)(af:AFx):AF:=⟨af.np,af.nt,af.res,er ν τ af.body⟩
def Ex.out:Ex→Exit
 | .n=>.normal
 | .x id=>.exit id
 | .r=>.ret
 | .g l=>.goto l
def LWp(cx:Cx)(c:AC)(Q:Exit→St→Prop)(st:St):Prop:=
 ∀code,Zm cx.P cx.nt code=some c→cx.P.follows .mixedOrders=true→∀a w,Rel cx st a w→∀(b:Frame) (k:List Item) (cs:List Frame),
  ∃e a' w',(∃st',Q e st'∧Rel cx st' a' w')∧Arrives cx.P (lone (b.at a (.code code :: .inLoop code::k)) cs w) b k cs e a' w'
theorem zvw{cx:Cx}{c:AC}{Q:Exit→St→Prop}{st:St}(h:AWp cx c (Zhd (fun s=>LWp cx c Q s) Q) st):LWp cx c Q st:=by
 intro code hc hm a w hr b k cs;obtain⟨ex,a1,w1,⟨st1,hq1,hrel1⟩,harr⟩:=h code hc hm a w hr b (.inLoop code::k) cs;cases ex with
 | normal=>
  obtain⟨e2,a2,w2,hq2,harr2⟩:=hq1 code hc hm a1 w1 hrel1 b k cs;exact⟨e2,a2,w2,hq2,.of_steps (Steps.trans harr (.one step_inLoop)) harr2⟩
 | exit id=>exact⟨_,a1,w1,⟨st1,hq1,hrel1⟩,.pass (x:=.inLoop code) rfl (fun _ _=>.inl (by simp)) harr⟩
 | goto l=>exact⟨_,a1,w1,⟨st1,hq1,hrel1⟩,.pass (x:=.inLoop code) rfl (fun _ _=>.inl (by simp)) harr⟩
 | ret=>exact⟨_,a1,w1,⟨st1,hq1,hrel1⟩,.pass (x:=.inLoop code) rfl (fun _ _=>.inl (by simp)) harr⟩
 | panic ch=>exact⟨_,a1,w1,⟨st1,hq1,hrel1⟩,.pass (x:=.inLoop code) rfl (fun _ _=>.inl (by simp)) harr⟩
 | outgrown=>exact⟨_,a1,w1,⟨st1,hq1,hrel1⟩,.pass (x:=.inLoop code) rfl (fun _ _=>.inl (by simp)) harr⟩
theorem zg1{cx:Cx}{c:AC}{Q:Exit→St→Prop}{st:St}(h:LWp cx c Q st):AWp cx (.loop c) Q st:=by
 intro code hc hm a w hr;have hcode:=hc;cases code<;>simp only[Zm]at hc<;>try cases hc
 case loop c1=>
  obtain⟨x',hx,he⟩:=map_some hc;cases he;intro b k cs;obtain⟨e,a',w',hq,harr⟩:=h c1 hx hm a w hr b k cs;exact⟨e,a',w',hq,.of_steps (.one step_loop) harr⟩
 case region id ops draw=>
  rcases zal hcode with ⟨_,l,_,h1⟩ | ⟨_,l,_,⟨n,_,h1⟩ | ⟨_,h1⟩ | ⟨n,_,h1⟩ | h1⟩<;>cases h1
 all_goals simp[Yd]at hc
theorem LWp.mono{cx:Cx}{c:AC}{Q Q':Exit→St→Prop}{st:St}(h:LWp cx c Q st)(hq:∀ex st,Q ex st→Q' ex st):LWp cx c Q' st:=
 fun code hc hm a w hr b k cs=>let ⟨e,a',w',⟨st',h1,h2⟩,h3⟩:=h code hc hm a w hr b k cs;⟨e,a',w',⟨st',hq _ _ h1,h2⟩,h3⟩
def Is(e:Ex)(st':St):Exit→St→Prop:=fun ex s=>ex=e.out∧s=st'
theorem zk8{ν:Nat→FuncId}{τ:Nat→Nat}(op:AOp):(Zdw ν τ op).writes=op.writes:=by
 cases op<;>first | rfl | (rename_i k xs;cases k<;>rfl)
theorem zvx(j:Nat):Zi3 j≠"()":=by
 unfold Zi3
 repeat' split
 all_goals decide
theorem zk9{T:Tbl}{k:Nat}{nm:String}{u:Nat}(h:(nm,u)∈Zbu T k):nm≠"()":=by
 unfold Zbu at h;split at h
 ·split at h
  ·unfold Zg6 at h;obtain⟨r,_,hr⟩:=Yc0.1 h;split at hr
   ·cases hr;exact zvx _
   ·cases hr
  ·cases h
 ·cases h
structure GoodO (P:Program) (ν:Nat→FuncId) (T:Tbl) (O:Orc):Prop where
 meth:∀k nm u,(nm,u)∈Zbu T k→Zdb P (Zl T k) nm=some (ν u)
 fnn:∀k u,Zgk T k=some u→Zl T k=ν u
 pure:∀u af xs r h,T u=some af→af.lent=none→O.call u xs []=some (r,h)→Z6 P (ν u) xs (·=r)
 lent:∀u af ms xs hb r hb',T u=some af→af.lent=some ms→O.call u xs hb=some (r,hb')→Zdl P (ν u) xs hb (hb.length+1) (fun r1 h1 c1=>r1=r∧h1=hb'∧c1=hb.length+hb'.length+2)
 loop:∀k c st e st',O.loop k c st=some (e,st')→∀cx:Cx,cx.P=P→cx.clk0=k+1→LWp cx (er ν (Zl T) c) (Is e st') st
section
variable{P:Program}{ν:Nat→FuncId}{T:Tbl}{O:Orc}
theorem zhw(q:BId→Bool)(h:Heap)(b:BId):(h.filter fun p=>!q p.1).lookup b=if q b=true then none else h.lookup b:=by
 induction h with
 | nil=>simp
 | cons p h ih=>
  obtain⟨p1,p2⟩:=p;by_cases hp:q p1=true
  ·rw[Yb7,if_neg (by simp[hp]),ih];by_cases hb:b=p1
   ·subst hb;simp[hp]
   ·simp[hb]
  ·rw[Yb7,if_pos (by simp[hp])];by_cases hb:b=p1
   ·subst hb;simp[hp]
   ·simpa[hb]using ih
theorem zcz(hO:GoodO P ν T O){u:Nat}{xs:List AV}{d:Option Nat}{st st':St}{K:St→Prop}(h:Zc O T u xs d st=some st')(hK:K st') :
  Zgs P (ν u) xs st.heap (fun r h=>K ⟨Zk st.env d r,h,st.clk⟩)∨Zgt P (ν u) xs st.heap st.clk (fun r h c=>K ⟨Zk st.env d r,h,c⟩):=by
 unfold Zc at h;split at h
 ·cases h
 rename_i af hT;split at h
 ·rename_i hl;obtain⟨ys,h1,h2⟩:=bind_some h;obtain⟨r,h3,h4⟩:=bind_some h2;cases h4;refine .inl ⟨ys,(·=r.1),h1,(hO.pure u af _ r.1 r.2 hT hl h3).wk,?_⟩
  rintro r' rfl
  exact hK
 ·rename_i ms hl;obtain⟨ys,h1,h2⟩:=bind_some h;simp only at h2;generalize hh1:Zj (Zav ms xs) st.heap=h1' at *
  generalize hll:Zcu h1' 40 (Zcc ms xs) []=l at *
  generalize hhp:Zdo h1' l=hp at *
  split at h2
  ·rename_i hc;obtain⟨r,h3,h4⟩:=bind_some h2;generalize hhb:(r.2.map fun p=>(Zaq l (d.getD 0) p.1,Zab true (Zaq l (d.getD 0)) (Zax hp st.clk) p.2))=hb' at *
   split at h4
   ·rename_i hchk;cases h4;simp only[Yk,decide_eq_true_eq]at hchk;obtain⟨⟨k2,k3⟩,k4⟩:=hchk;have hmem:∀b bx,hp.lookup b=some bx→h1'.lookup b=some bx:=by
     intro b bx hb;have:=za0 _ _ _ hb;rw[←hhp]at this;exact zex this
    have hin:∀b,(hp.lookup b).isSome=true↔b∈l:=by
     intro b;constructor
     ·intro hb;obtain⟨bx,hb⟩:=Ya9.1 hb;rw[←hc.1];exact Y3.2 ⟨_,za0 _ _ _ hb,rfl⟩
     ·intro hb;rw[←hc.1]at hb;obtain⟨p,hp1,rfl⟩:=Y3.1 hb;obtain⟨x,hx⟩:=zfh _ _ hp1;rw[hx];rfl
    have hlk:∀id,(h1'.filter fun p=>!(l.contains p.1 || (hb'.map (·.1)).contains p.1)).lookup id=if (l.contains id || (hb'.map (·.1)).contains id)=true then none else h1'.lookup id:=
     fun id=>zhw (fun b=>l.contains b || (hb'.map (·.1)).contains b) h1' id
    refine .inr ⟨ms,ys,h1,hp,h1'.filter (fun p=>!(l.contains p.1 || (hb'.map (·.1)).contains p.1)),_,⟨fun id bx hid=>?_,fun id bx hid=>?_⟩,fun id hid=>?_,Zdl.rl hc.1 hc.2 (by rw[hhb];exact k2) (by
     have:=hO.lent u af ms _ _ r.1 r.2 hT hl h3;rw[Ybc]at this;exact this),?_⟩
    ·rw[hh1];exact hmem id bx hid
    ·rw[hlk]at hid;split at hid
     ·cases hid
     ·rw[hh1];exact hid
    ·rw[hlk,if_pos (by rw[Ya0];exact .inl (by simpa using (hin id).1 hid))]
    ·rintro r' h' c' hle ⟨rfl,rfl,rfl⟩
     rw[hhb];refine⟨fun id hid=>?_,k3,k4,?_⟩
     ·obtain⟨bx,hb⟩:=Ya9.1 hid;have:id∈hb'.map (·.1):=Y3.2 ⟨(id,bx),za0 _ _ _ hb,rfl⟩;rw[hlk,if_pos (by rw[Ya0];exact .inr (by rw[Ybi];exact this))]
     ·have e1:st.clk+(hp.length+r.2.length+2-hp.length)=st.clk+r.2.length+2:=by omega
      rw[e1];exact hK
   ·cases h4
  ·cases h2
theorem zla(hO:GoodO P ν T O){op:AOp}{d:Option Nat}{st st':St}{K:St→Prop}(h:opX O T op d st=some st')(hK:K st'):opK P (Zdw ν (Zl T) op) d st K:=by
 cases op<;>simp only[opX]at h
 case call u args=>exact zcz hO h hK
 case ifc k x=>
  cases h;exact⟨_,rfl,hK⟩
 case inv nm k u r args=>
  split at h
  ·rename_i t y hy;split at h
   ·rename_i hc;obtain⟨rfl,hm⟩:=hc;exact .inl ⟨if_neg (zk9 hm),_,y,_,hy,hO.meth k nm u hm,zcz hO h hK⟩
   ·cases h
  ·rename_i f x hy;split at h
   ·rename_i hc;obtain⟨rfl,rfl,hm⟩:=hc;have hc:=zcz hO h hK;rw[←hO.fnn k u hm]at hc;exact .inr (.inl ⟨rfl,_,x,hy,hc⟩)
   ·cases h
  ·rename_i f id g z i o hy;split at h
   ·rename_i hc;obtain⟨rfl,rfl,hm⟩:=hc;have hc:=zcz hO h hK;rw[←hO.fnn k u hm]at hc;exact .inr (.inr ⟨rfl,_,id,g,z,i,o,hy,hc⟩)
   ·cases h
  ·cases h
 case bsl z zs len ps=>
  obtain⟨q,h1,rfl⟩:=map_some h;exact⟨q,h1,hK⟩
 case alloc zs=>
  obtain⟨q,h1,rfl⟩:=map_some h;exact⟨q,h1,hK⟩
 case store n x v=>
  obtain⟨q,h1,rfl⟩:=map_some h;exact⟨q,h1,hK⟩
 case mks z zs l c=>
  obtain⟨q,h1,rfl⟩:=map_some h;exact⟨q,h1,hK⟩
 case app z x y=>
  obtain⟨q,h1,rfl⟩:=map_some h;exact⟨q,h1,hK⟩
 case xop k xs=>
  cases k
  all_goals
   obtain⟨q,h1,rfl⟩:=map_some h;exact⟨q,h1,hK⟩
 all_goals
  obtain⟨q,h1,rfl⟩:=map_some h;exact⟨q,h1,hK⟩
theorem zlb(hO:GoodO P ν T O){o:AO}{st st':St}{K:St→Prop}(h:Zfq O T o st=some st')(hK:K st'):Zf7 P (Zaf ν (Zl T) o) st K:=by
 unfold Zfq at h;unfold Zf7;simp only[Zaf];cases hg:o.guard with
 | none=>rw[hg]at h;exact zla hO h hK
 | some p=>
  obtain⟨t,want⟩:=p;rw[hg]at h;simp only[gX]at h ⊢;cases hx:st.env.get t<;>rw[hx]at h<;>simp only at h ⊢<;>try (cases h;done)
  ·split at h
   ·rename_i hv;rw[if_pos hv];exact zla hO h hK
   ·rename_i hv;rw[if_neg hv];cases h;exact hK
  ·cases h;exact hK
theorem zdu(hO:GoodO P ν T O):∀(l:List AO) (st st':St) (K:St→Prop),Zdc O T l st=some st'→K st'→Zds P (l.map (Zaf ν (Zl T))) st K
 | [],st,st',K,h,hK=>by simp only[Zdc]at h;cases h;exact hK
 | o::l,st,st',K,h,hK=>by
  simp only[Zdc]at h;obtain⟨s1,h1,h2⟩:=bind_some h;simp only[Ys,Zds];exact zlb hO h1 (zdu hO l s1 st' K h2 hK)
theorem zlc(hO:GoodO P ν T O){op:AOp}{e:Env}{h:Heap}{older:List Heap}{x:AV}{K:AV→Prop}(hx:opD O T op e h older=some x)(hK:K x):opQ P (Zdw ν (Zl T) op) e h older K:=by
 by_cases hap:∃z x0 y,op=.app z x0 y
 ·obtain⟨z,x0,y,rfl⟩:=hap;by_cases hc:x0=.c (.sl [] .nl)
  ·subst hc;exact⟨x,hx,hK⟩
  ·exfalso;cases x0 with
   | t n=>simp[opD,Zd]at hx
   | c a=>
    cases a
    case sl els f=>
     cases els with
     | nil=>cases f<;>first | exact hc rfl | simp[opD,Zd]at hx
     | cons r l=>simp[opD,Zd]at hx
    all_goals simp[opD,Zd]at hx
 cases op<;>(try exact absurd ⟨_,_,_,rfl⟩ hap)<;>simp only[opD]at hx
 case call u args=>
  split at hx
  ·cases hx
  rename_i af hT;split at hx
  ·rename_i hc;simp only[Yk]at hc;obtain⟨r,h1,rfl⟩:=map_some hx;exact⟨_,⟨zcx hc.2,fun hf=>by rw[hc.2]at hf;cases hf⟩,r.1,(hO.pure u af _ r.1 r.2 hT (by simpa using hc.1) h1).wk,hK⟩
  ·cases hx
 case ifc k x=>
  cases hx;exact⟨_,rfl,trivial,hK⟩
 case inv nm k u r args=>
  split at hx
  ·rename_i t y hy;split at hx
   ·rename_i hc0;obtain⟨rfl,hm⟩:=hc0;split at hx
    ·cases hx
    rename_i af hT;split at hx
    ·rename_i hc;simp only[Yk]at hc;obtain⟨r,h1,rfl⟩:=map_some hx;exact⟨if_neg (zk9 hm),_,y,_,hy,hO.meth k nm u hm,hc.2,r.1,(hO.pure u af _ r.1 r.2 hT (by simpa using hc.1) h1).wk,hK⟩
    ·cases hx
   ·cases hx
  ·cases hx
 case bsl z zs len ps=>
  split at hx
  ·rename_i hc;obtain⟨q,h1,rfl⟩:=map_some hx;exact⟨hc,q,h1,hK⟩
  ·cases hx
 case xop k xs=>
  obtain⟨q,h1,_⟩:=bind_some hx;cases h1
 all_goals
  obtain⟨q,h1,h2⟩:=bind_some hx;split at h2
  ·rename_i hc;cases h2;refine⟨_,h1,?_,hK⟩;rcases zp1 hc with hc | hc
   ·simp only[Zdw];rw[hc]
    trivial
   ·simp only[Zdw];split
    ·trivial
    ·exact hc
  ·cases h2
theorem zvy{o:AO}{e:Env}{h':Heap}{x:AV}(hf:o.op.free=false)(hw:o.op.writes=false)(hg:o.guard=none∨∃t want,o.guard=some (t,want)∧e.get t=.b want)(hs:Zgb o.op e.get h'=some x):QF P h' (Zaf ν (Zl T) o) e.get x:=by
 have hq:QOp P (Zdw ν (Zl T) o.op) e.get h' x:=by
  obtain⟨d,g,op⟩:=o;by_cases hap:∃z x0 y,op=.app z x0 y
  ·obtain⟨z,x0,y,rfl⟩:=hap;by_cases hc:x0=.c (.sl [] .nl)
   ·subst hc;cases hf
   ·exact absurd (show (AOp.app z x0 y).writes=false from hw) (by rw[zh2 hc];simp)
  cases op<;>first | exact absurd ⟨_,_,_,rfl⟩ hap | exact hs | (cases hf;done) | (cases hw;done) | (cases hs;done)
 unfold QF;simp only[Zaf];rcases hg with hg | ⟨t,want,hg,ht⟩
 ·rw[hg];exact hq
 ·rw[hg];exact .inl ⟨ht,hq⟩
theorem zys{o:AO}{e:Env}{h':Heap}(hg:∃t want,o.guard=some (t,want)∧(e.get t=.b (!want)∨e.get t=.tup [])):QF P h' (Zaf ν (Zl T) o) e.get (.tup []):=by
 obtain⟨t,want,hg,ht⟩:=hg;unfold QF;simp only[Zaf];rw[hg];exact .inr ⟨ht,by trivial⟩
theorem zvz{o:AO}{e:Env}{h h':Heap}{x:AV}(hf:o.op.freeE e.get=true)(hq:QF P h (Zaf ν (Zl T) o) e.get x):QF P h' (Zaf ν (Zl T) o) e.get x:=
 zrt (o:=Zaf ν (Zl T) o) (by show (Zdw ν (Zl T) o.op).freeE e.get=true;cases hop:o.op<;>rw[hop]at hf<;>first | rfl | exact hf | cases hf) h h' hq
theorem zv0{o:AO}{e:Env}{h:Heap}{older:List Heap}{r:AV×Bool}(hx:qX O T o e h older=some r)(hr:r.2=true)(hf:o.op.free=true):o.op.freeE e.get=true:=by
 cases hop:o.op
 case call u args=>
  have key:∀x,opD O T (.call u args) e h older=some x→(args.map (ev e.get)).all noRef=true:=by
   intro x hx;simp only[opD]at hx;split at hx
   ·cases hx
   split at hx
   ·rename_i hc;simp only[Yk]at hc;exact hc.2
   ·cases hx
  unfold qX at hx;rw[hop]at hx;split at hx
  ·obtain⟨x,h1,_⟩:=map_some hx;exact key x h1
  ·split at hx
   ·split at hx
    ·obtain⟨x,h1,_⟩:=map_some hx;exact key x h1
    ·cases hx;cases hr
   ·cases hx;cases hr
   ·cases hx
 all_goals (rw[hop]at hf;exact hf)
theorem zjh(hO:GoodO P ν T O){o:AO}{e:Env}{h:Heap}{older:List Heap}{r:AV×Bool}{K:AV→Prop}(hx:qX O T o e h older=some r)(hK:K r.1) :
  qK P (Zaf ν (Zl T) o) e h older K∧(r.2=true→(o.guard=none∨∃t want,o.guard=some (t,want)∧e.get t=.b want))∧(r.2=false→r.1=.tup []∧∃t want,o.guard=some (t,want)∧(e.get t=.b (!want)∨e.get t=.tup [])):=by
 unfold qX at hx;unfold qK;simp only[Zaf];cases hg:o.guard with
 | none=>
  rw[hg]at hx;obtain⟨x,h1,rfl⟩:=map_some hx;exact⟨zlc hO h1 hK,fun _=>.inl rfl,fun h=>by cases h⟩
 | some p=>
  obtain⟨t,want⟩:=p;rw[hg]at hx;simp only at hx ⊢;cases hx2:e.get t with
  | b v=>
   rw[hx2]at hx;simp only at hx ⊢;split at hx
   ·rename_i hv;rw[if_pos hv];obtain⟨x,h1,rfl⟩:=map_some hx;exact⟨zlc hO h1 hK,fun _=>.inr ⟨t,want,rfl,by rw[hx2,hv]⟩,fun h=>by cases h⟩
   ·rename_i hv;rw[if_neg hv];cases hx;refine⟨hK,?_,?_⟩
    ·intro h;cases h
    intro _;refine⟨rfl,t,want,rfl,.inl ?_⟩;rw[hx2];congr 1;cases v<;>cases want<;>simp_all
  | tup l=>
   rw[hx2]at hx;cases l with
   | nil=>
    simp only at hx ⊢;cases hx;refine⟨hK,?_,?_⟩
    ·intro h;cases h
    ·intro _;exact⟨rfl,t,want,rfl,.inr hx2⟩
   | cons c l=>simp at hx
  | _=>rw[hx2]at hx;simp at hx
theorem zm6{pend:Zbz}{h:Heap}(hp:Zcd pend h=true):∀p∈pend,0<p.1→Zgb p.2.1 p.2.2.1.get h=some p.2.2.2:=by
 classical
 unfold Zcd at hp;exact of_decide_eq_true hp
def Zfv(pendX:Zbz)(pend:Ziy):Prop:=∀q∈pend,(∀h',q.2 h')∨q.1=0∨∃p∈pendX,p.1=q.1∧∀h',Zgb p.2.1 p.2.2.1.get h'=some p.2.2.2→q.2 h'
theorem Zfv.next{pendX:Zbz}{pend:Ziy}(h:Zfv pendX pend):Zfv (pendX.map fun p=>(p.1-1,p.2)) (pend.map fun p=>(p.1-1,p.2)):=by
 intro q hq;obtain⟨q0,h1,rfl⟩:=Y3.1 hq;rcases h q0 h1 with h2 | h2 | ⟨p,h2,h3,h4⟩
 ·exact .inl h2
 ·exact .inr (.inl (by simp only;omega))
 ·exact .inr (.inr ⟨_,Y3.2 ⟨p,h2,rfl⟩,by simp only;omega,h4⟩)
theorem zc0(hO:GoodO P ν T O):∀(l:List DO) (e:Env) (h:Heap) (clk:Nat) (older:List Heap) (pendX:Zbz) (pend:Ziy) (st':St) (K:St→Prop),Zfv pendX pend→Zbf O T l e h clk older pendX=some st'→K st'→Zfp P (l.map (Zi7 ν (Zl T))) e h clk older pend K
 | [],e,h,clk,older,pendX,pend,st',K,hpr,hx,hK=>by simp only[Zbf]at hx;cases hx;exact hK
 | o::l,e,h,clk,older,pendX,pend,st',K,hpr,hx,hK=>by
  simp only[Zbf]at hx;simp only[Ys,Zfp];have hw:(Zi7 ν (Zl T) o).ao.op.writes=o.ao.op.writes:=by
   exact zk8 _
  rw[hw];cases ho:o.ao.op.writes with
  | true=>
   rw[ho]at hx;simp only at hx ⊢;split at hx
   ·rename_i hg;obtain⟨q,h1,h2⟩:=bind_some hx;split at h2
    ·rename_i hpd;have e1:Zdw ν (Zl T) o.ao.op=o.ao.op:=by
      cases hop:o.ao.op<;>rw[hop]at ho<;>first | rfl | (simp[AOp.writes]at ho;done) | (rename_i k xs;cases k<;>first | rfl | (simp[AOp.writes]at ho))
     refine⟨by show o.ao.guard=none;simpa using hg,q,?_,fun p hp h0=>?_,zc0 hO l _ _ _ _ _ _ st' K hpr.next h2 hK⟩
     ·show stepW (Zdw ν (Zl T) o.ao.op) o.ao.dst e.get h clk=some q;rw[e1];exact h1
     ·rcases hpr p hp with h3 | h3 | ⟨p',h3,h4,h5⟩
      ·exact h3 _
      ·omega
      ·exact h5 _ (zm6 hpd p' h3 (by omega))
    ·cases h2
   ·cases hx
  | false=>
   rw[ho]at hx;simp only at hx ⊢;split at hx
   rotate_left
   ·rename_i p hrow;obtain⟨x,h1,h2⟩:=bind_some hx;obtain⟨hg,args,hop,hfr,hold⟩:=zk1 hrow;unfold Ze5 at h1;split at h1
    ·cases h1
    rename_i af hT;split at h1
    rotate_left
    ·cases h1
    rename_i hl;obtain⟨r,h3,rfl⟩:=map_some h1;have hcall:Z6 P (ν p.1) p.2 (·=r.1):=(hO.pure p.1 af _ r.1 r.2 hT (by simpa using hl) h3).wk;have hao:Zaf ν (Zl T) o.ao=⟨o.ao.dst,none,.call (ν p.1) args⟩:=by unfold Zaf;rw[hg,hop];rfl
    show qK P (Zaf ν (Zl T) o.ao) e h (older.take (older.length-o.lo)) _;rw[hao];refine⟨p.2,⟨hfr,fun _=>hold⟩,r.1,hcall,?_⟩;refine zc0 hO l _ _ _ _ _ _ st' K ?_ h2 hK;intro q hq;rcases Ym.1 hq with rfl | hq
    ·by_cases hn:older.length<o.hi
     ·refine .inr (.inr ⟨(o.hi-older.length,o.ao.op,e,.tup p.2),?_,rfl,fun h' hs=>?_⟩)
      ·rw[if_pos hn];exact Yl
      ·simp only[hop,Zgb]at hs;obtain⟨zs,h6,h7⟩:=map_some hs;cases h7;show QF P h' (Zaf ν (Zl T) o.ao) e.get r.1;rw[hao];exact⟨_,h6,hcall⟩
     ·exact .inr (.inl (by show o.hi-older.length=0;omega))
    ·rcases hpr q hq with h3 | h3 | ⟨p',h3,h4,h5⟩
     ·exact .inl h3
     ·exact .inr (.inl h3)
     ·refine .inr (.inr ⟨p',?_,h4,h5⟩);split
      ·exact Yh _ h3
      ·exact h3
   rename_i hrow;obtain⟨r,h1,h2⟩:=bind_some hx;have key:=fun(K':AV→Prop) (hk:K' r.1)=>zjh hO (K:=K') h1 hk;refine(key _ ?_).1;refine zc0 hO l _ _ _ _ _ _ st' K ?_ h2 hK;obtain⟨_,k1,k2⟩:=key (fun _=>True) trivial;intro q hq;rcases Ym.1 hq with rfl | hq
   ·cases hr2:r.2 with
    | false=>
     obtain⟨h3,h4⟩:=k2 hr2;exact .inl fun h'=>by
      show QF P h' (Zaf ν (Zl T) o.ao) e.get r.1;rw[h3];exact zys h4
    | true=>
     cases hf:o.ao.op.free with
     | true=>
      obtain⟨hqk,_⟩:=key (fun x=>x=r.1) rfl;obtain⟨x,hq1,_,hxr⟩:=zvh (o:=Zaf ν (Zl T) o.ao) (by rw[←ho];exact hw) hqk;subst hxr;exact .inl fun h'=>zvz (zv0 h1 hr2 hf) hq1
     | false=>
      by_cases hn:older.length<o.hi
      ·refine .inr (.inr ⟨(o.hi-older.length,o.ao.op,e,r.1),?_,rfl,fun h' hs=>zvy hf ho (k1 hr2) hs⟩);unfold Zeg;rw[if_pos (by rw[hr2,hf,decide_eq_true hn];rfl)];exact Yl
      ·exact .inr (.inl (by show o.hi-older.length=0;omega))
   ·rcases hpr q hq with h3 | h3 | ⟨p,h3,h4,h5⟩
    ·exact .inl h3
    ·exact .inr (.inl h3)
    ·refine .inr (.inr ⟨p,?_,h4,h5⟩);unfold Zeg;split
     ·exact Yh _ h3
     ·exact h3
theorem zg2(hO:GoodO P ν T O)(tl:List AO):∀(l:List AO) (e:Env) (h:Heap) (clk:Nat) (st':St) (K:St→Prop),Zc1 O T tl l e h clk=some st'→K st'→Zeu P (tl.map (Zaf ν (Zl T))) (l.map (Zaf ν (Zl T))) e h clk K
 | [],e,h,clk,st',K,hx,hK=>zdu hO tl _ st' K hx hK
 | o::l,e,h,clk,st',K,hx,hK=>by
  simp only[Zc1]at hx;obtain⟨r,h1,h2⟩:=bind_some hx;simp only[Ys,Zeu];exact(zjh hO (K:=fun x=>Zeu P (tl.map (Zaf ν (Zl T))) (l.map (Zaf ν (Zl T))) (Zk e o.dst x) h clk K) h1 (zg2 hO tl l _ h clk st' K h2 hK)).1
theorem zfi{c0:Nat}{op:AOp}{e:Env}{l:List Nat}{ν:Nat→FuncId}{τ:Nat→Nat}(h:Zgc c0 op e l=true):∀g∈l,Ze3 c0 (Zdw ν τ op) e.get g:=by
 intro g hg;unfold Zgc at h;have h1:=Ye.1 h g hg;simp only[Ya0,decide_eq_true_eq,List.any_eq_true,Ybi]at h1;rcases h1 with h1 | ⟨t,ht,h2⟩
 ·exact .inl h1
 ·refine .inr ⟨t,?_,h2⟩;cases op<;>first | exact ht | (cases ht;done) | (rename_i k xs;cases k<;>first | exact ht | cases ht)
theorem zm7(hO:GoodO P ν T O){u:Nat}{xs:List AV}{d clk:Nat}{q:AV×Heap×Nat}(h:Zep O T u xs d clk=some q):∃m,q.2.2=clk+m∧Ziz P (ν u) xs clk q.1 q.2.1 m:=by
 unfold Zep at h;split at h
 ·cases h
 rename_i af hT;split at h
 ·cases h
 rename_i ms hl;split at h
 ·rename_i hn;obtain⟨r,h3,h4⟩:=bind_some h;simp only at h4;generalize hhb:(r.2.map fun p=>(Zaq [] d p.1,Zab true (Zaq [] d) (Zax [] clk) p.2))=hb' at *
  split at h4
  ·rename_i hc;cases h4;obtain⟨hnd,hg1,hg2⟩:=hc;refine⟨r.2.length+2,rfl,hn,?_,hnd,fun g hg=>?_,fun p hp g hg=>?_⟩
   ·have hA:=hO.lent u af ms _ _ r.1 r.2 hT hl h3;have:=Zdl.rl (ys:=xs) (hp:=[]) (clk:=clk) (d:=d) (ex:=af.exact) (l:=[]) (r0:=r.1) (hb':=r.2) (c':=0+r.2.length+2) rfl List.nodup_nil (by rw[hhb];exact hnd) (by simpa using hA);rw[hhb]at this;have e:clk+(0+r.2.length+2-([]:Heap).length)=clk+(r.2.length+2):=by simp
    rw[e]at this;exact this
   ·have:=Ye.1 hg1 g hg;simpa using this
   ·obtain⟨hk,rr,hr,y,hy,hgy⟩:=hg;have h5:=Ye.1 hg2 p hp;simp only[hk,if_true]at h5;have h6:=Ye.1 (Ye.1 h5 rr hr) y hy;have:=Ye.1 h6 g hgy;simpa using this
  ·cases h4
 ·cases h
theorem zig{op:AOp}{ua:Nat×List Opd}(h:op.lentN=some ua):op=.call ua.1 ua.2:=by
 cases op<;>simp only[AOp.lentN]at h<;>try cases h
 split at h
 ·cases h;rfl
 ·cases h
theorem zey(q:BId→Bool):∀(h:Heap) (id:BId),(h.filter fun p=>q p.1).lookup id=if q id then h.lookup id else none
 | [],id=>by split<;>rfl
 | (c,x)::h,id=>by
  have ih:=zey q h id;rw[Yb7];by_cases hc:q c=true
  ·simp only[hc,if_true];rw[Yx,Yx,ih];by_cases hi:id=c
   ·subst hi;simp[hc]
   ·have:(id == c)=false:=by simpa using hi
    rw[this]
  ·simp only[hc,Y8,if_false];rw[ih];by_cases hi:id=c
   ·subst hi;simp[hc]
   ·have:(id == c)=false:=by simpa using hi
    rw[Yx,this]
theorem zeh(ids:List BId)(h:Heap):Zc0 (Zeh ids h) h:=by
 intro id bx hb;unfold Zeh at hb;split at hb
 ·exact hb
 ·rw[zey fun b=>!ids.contains b]at hb;split at hb
  ·exact hb
  ·cases hb
theorem zsq{z d g g' z' off n:Nat}{x' y:Opd}{ρ:Nat→AV}{x:AV}{hp:Heap}{c:Nat}{b:BId}{o:Box}(hv:ev ρ x'=.bs b g' z' off n)(h:stepW (.app z x' y) (some d) ρ [(b,o)] g=some (x,hp,c)) :
  ∃bx,hp=[(b,bx),(b,o)]∧c=g+1∧bx.gen=g:=by
 simp only[stepW,Zf5]at h;obtain⟨ys,_,h1⟩:=bind_some h;rw[hv]at h1;simp only[Zgj]at h1;obtain⟨b0,_,h2⟩:=bind_some h1;split at h2
 ·simp only[Option.some.injEq,Prod.mk.injEq]at h2;obtain⟨_,rfl,rfl⟩:=h2;exact⟨_,rfl,rfl,rfl⟩
 ·cases h2
def Inv(X h:Heap)(c0:Nat):Prop:=∀id o,X.lookup id=some o→h.lookup id=some o∨∃o',h.lookup id=some o'∧c0≤o'.gen
theorem zbn(hO:GoodO P ν T O)(tl:List AO)(h0 X:Heap)(c0:Nat)(hX0:Zc0 h0 X):∀(l:List AO) (e:Env) (h:Heap) (clk:Nat) (st':St) (K:St→Prop),Zc0 h0 h→c0≤clk→Inv X h c0→Zaz O T tl h0 c0 X l e h clk=some st'→K st'→Zbb P h0 c0 X (fun e h clk=>Zds P (tl.map (Zaf ν (Zl T))) ⟨e,h,clk⟩ K) (l.map (Zaf ν (Zl T))) e h clk
 | [],e,h,clk,st',K,_,_,_,hx,hK=>zdu hO tl _ st' K hx hK
 | o::l,e,h,clk,st',K,hsb,hck,hinv,hx,hK=>by
  simp only[Zaz]at hx;simp only[Ys,Zbb];have hmk:(Zaf ν (Zl T) o).op.maker=o.op.maker:=by
   obtain⟨d,g,op⟩:=o;cases op<;>first | rfl | (rename_i k xs;cases k<;>rfl)
  have hsE:(Zaf ν (Zl T) o).op.isStore=o.op.isStore:=by
   obtain⟨d,g,op⟩:=o;cases op<;>first | rfl | (rename_i k xs;cases k<;>rfl)
  have hadd:∀(B:Heap),(∀p∈B,h.lookup p.1=none)→Zc0 h0 (B++h):=by
   intro B hB id bx hid;have h1:=hsb id bx hid;rw[zan,zcl B fun y hy=>by have:=hB _ hy;rw[this]at h1;cases h1];simpa using h1
  have hiadd:∀(B:Heap),(∀p∈B,h.lookup p.1=none)→Inv X (B++h) c0:=by
   intro B hB id o ho;have hn:B.lookup id=none:=by
    cases hl:B.lookup id with
    | none=>rfl
    | some y=>
     have h1:=hB _ (zb8 _ _ _ hl);rcases hinv id o ho with h2 | ⟨o',h2,_⟩<;>(simp only at h1;rw[h1]at h2;cases h2)
   rw[zan,hn];simpa using hinv id o ho
  have hXn:∀id,h.lookup id=none→X.lookup id=none:=by
   intro id hid;cases hl:X.lookup id with
   | none=>rfl
   | some o=>rcases hinv id o hl with h2 | ⟨o',h2,_⟩<;>(rw[hid]at h2;cases h2)
  have h0n:∀id,X.lookup id=none→h0.lookup id=none:=by
   intro id hid;cases hl:h0.lookup id with
   | none=>rfl
   | some o=>have:=hX0 _ _ hl;rw[hid]at this;cases this
  rw[hmk,hsE];cases hm:o.op.maker with
  | true=>
   rw[hm]at hx;simp only at hx ⊢;split at hx
   ·rename_i d hg hd;have hop:Zdw ν (Zl T) o.op=o.op:=by
     obtain⟨d,g,op⟩:=o;cases op<;>first | rfl | (cases hm;done) | (rename_i k xs;cases k<;>first | rfl | cases hm)
    split at hx
    rotate_left
    ·rename_i p how;obtain⟨q,h1,h2⟩:=bind_some hx;split at h2
     ·rename_i hc;obtain⟨x,hp,c'⟩:=q;obtain⟨b,bo⟩:=p;obtain⟨z,x',y,g',z',off,n,hopa,hev⟩:∃z x' y g' z' off n,o.op=.app z x' y∧ev e.get x'=.bs b g' z' off n:=by
       unfold Zg8 at how;split at how
       ·rename_i z x' y hoa;cases hv:ev e.get x'<;>rw[hv]at how<;>simp only[Zig]at how<;>try (cases how;done)
        rename_i b2 g' z' off n;unfold Zi5 at how;split at how
        ·split at how<;>cases how;exact⟨z,x',y,g',z',off,n,hoa,hv⟩
        ·cases how
       ·cases how
      obtain⟨hb1,⟨ox,hb2⟩,hb3,hb4⟩:h0.lookup b=none∧(∃ox,X.lookup b=some ox)∧h.lookup b=some bo∧bo.gen<c0:=by
       rw[hopa]at how;simp only[Zg8,hev,Zig]at how;unfold Zi5 at how;split at how
       ·rename_i o1 o2 e1 e2 e3;split at how<;>cases how;exact⟨e1,⟨_,e2⟩,e3,by assumption⟩
       ·cases how
      have hbx:X.lookup b=some bo:=by
       rcases hinv b ox hb2 with h3 | ⟨o',h3,h4⟩
       ·rw[hb3]at h3;cases h3;exact hb2
       ·rw[hb3]at h3;cases h3;omega
      obtain⟨bx,rfl,rfl,hbg⟩:=zsq hev (by rw[hopa]at h1;exact h1);simp only[List.take_succ_cons,Yej]at h2 hc;refine⟨hg,d,x,b,bx,some bo,hd,by rw[show (Zaf ν (Zl T) o).op=o.op from hop];exact h1,hb3,hbx,hb1,fun o2 ho2=>by cases ho2;omega,fun g hgb=>?_,zbn hO tl h0 X c0 hX0 l _ _ _ st' K (fun id y hy=>?_) (by omega) (fun id o2 ho2=>?_) h2 hK⟩
      ·obtain⟨hk,r,hr,y,hy,hgy⟩:=hgb;simp only[Zg7,Ybx,Yec,Yel,hk,if_true,Ye]at hc;exact zfi (hc r hr y hy) g hgy
      ·have hne:(id == b)=false:=by
        cases hb:id == b with
        | false=>rfl
        | true=>have:=eq_of_beq hb;subst this;rw[hb1]at hy;cases hy
       show List.lookup id ((b,bx)::h)=some y;rw[Yx,hne];exact hsb id y hy
      ·show List.lookup id ((b,bx)::h)=some o2∨∃o',List.lookup id ((b,bx)::h)=some o'∧c0≤o'.gen;rw[Yx];by_cases hi:id=b
       ·subst hi;rw[beq_self_eq_true];exact .inr ⟨bx,rfl,by omega⟩
       ·have hne:(id == b)=false:=by simpa using hi
        rw[hne];exact hinv id o2 ho2
     ·cases h2
    obtain⟨q,h1,h2⟩:=bind_some hx;split at h2
    ·rename_i hc;simp only[Yk]at hc;obtain⟨x,hp,c'⟩:=q;obtain⟨bx,rfl,rfl⟩:∃bx,hp=[(.loc d,bx)]∧c'=clk+1:=zmu hm h1;have hln:h.lookup (.loc d)=none:=Ybz.1 hc.1;have hB1:∀p∈[((.loc d:BId),bx)],h.lookup p.1=none:=fun p hp=>by rw[Y9.1 hp];exact hln
     refine⟨hg,d,x,.loc d,bx,none,hd,by rw[show (Zaf ν (Zl T) o).op=o.op from hop];exact h1,hln,hXn _ hln,h0n _ (hXn _ hln),fun o2 ho2=>(by cases ho2),fun g hgb=>?_,zbn hO tl h0 X c0 hX0 l _ _ _ st' K (hadd [(.loc d,bx)] hB1) (by omega) (hiadd _ hB1) h2 hK⟩;obtain⟨hk,r,hr,y,hy,hgy⟩:=hgb;have h3:=hc.2;simp only[Zg7,Ybx,Yec,Yel,hk,if_true,Ye]at h3;exact zfi (h3 r hr y hy) g hgy
    ·cases h2
   ·cases hx
  | false=>
   rw[hm]at hx;simp only at hx ⊢;cases hst:o.op.isStore with
   | true=>
    rw[hst]at hx;simp only at hx ⊢;split at hx
    ·rename_i hg hd;obtain⟨q,h1,h2⟩:=bind_some hx;split at h2
     ·rename_i hfr;obtain⟨dd,gg,op⟩:=o;simp only at hg hd hst h1 hfr;subst hg hd;cases op<;>try (cases hst;done)
      rename_i n x v;simp only[stepW]at h1;obtain⟨h',e1,rfl⟩:=map_some h1;refine⟨rfl,rfl,h',?_,?_,zbn hO tl h0 X c0 hX0 l e h' clk st' K ?_ hck ?_ h2 hK⟩
      ·show stepW (.store n x v) none e.get h clk=_;simp only[stepW,e1]
       rfl
      rotate_left 2
      ·intro id bx hid;simp only[Zfd]at hfr;unfold Zch at e1;split at e1
       ·rename_i id2 g z i o hx2;rw[hx2]at hfr;simp only[Ybz]at hfr;obtain⟨bx2,_,e2⟩:=bind_some e1;obtain⟨r2,_,e3⟩:=bind_some e2;obtain⟨cs,_,e4⟩:=bind_some e3;split at e4
        ·cases e4;have hne:(id == id2)=false:=by
          cases hb:id == id2 with
          | false=>rfl
          | true=>have:=eq_of_beq hb;subst this;rw[hid]at hfr;cases hfr
         simp only[Yx,hne];exact hinv id bx hid
        ·cases e4
       ·cases e1
      all_goals
       intro id bx hid;have h3:=hsb id bx hid;replace hid:=hX0 id bx hid;simp only[Zfd]at hfr;unfold Zch at e1;split at e1
       ·rename_i id2 g z i o hx2;rw[hx2]at hfr;simp only[Ybz]at hfr;obtain⟨bx2,_,e2⟩:=bind_some e1;obtain⟨r2,_,e3⟩:=bind_some e2;obtain⟨cs,_,e4⟩:=bind_some e3;split at e4
        ·cases e4;have hne:(id == id2)=false:=by
          cases hb:id == id2 with
          | false=>rfl
          | true=>have:=eq_of_beq hb;subst this;rw[hid]at hfr;cases hfr
         simp only[Yx,hne];exact h3
        ·cases e4
       ·cases e1
     ·cases h2
    ·cases hx
   | false=>
   rw[hst]at hx;simp only at hx ⊢;cases hlN:o.op.lentN with
   | some ua=>
    rw[hlN]at hx;simp only at hx;split at hx
    ·rename_i d hg hd;obtain⟨q,h1,h2⟩:=bind_some hx;split at h2
     ·rename_i hfr;obtain⟨m,hm2,hcb⟩:=zm7 hO h1;obtain⟨dd,gg,op⟩:=o;simp only at hg hd hlN;subst hg hd;have hop:=zig hlN;subst hop;rw[hm2]at h2;exact .inr ⟨rfl,ν ua.1,ua.2,d,q.1,q.2.1,m,rfl,rfl,hcb,fun p hp=>by simpa using Ye.1 hfr p hp,zbn hO tl h0 X c0 hX0 l _ _ _ st' K (hadd _ fun p hp=>by simpa using Ye.1 hfr p hp) (by omega) (hiadd _ fun p hp=>by simpa using Ye.1 hfr p hp) h2 hK⟩
     ·cases h2
    ·cases hx
   | none=>
   rw[hlN]at hx;simp only at hx;obtain⟨x,h1,h2⟩:=bind_some hx;split at h2
   ·rename_i hc;refine .inl ?_;exact(zjh hO (K:=fun x=>(∀g∈gnA x,Ze3 c0 (Zaf ν (Zl T) o).op e.get g)∧Zbb P h0 c0 X (fun e h clk=>Zds P (tl.map (Zaf ν (Zl T))) ⟨e,h,clk⟩ K) (l.map (Zaf ν (Zl T))) (Zk e o.dst x) h clk) h1 ⟨zfi hc,zbn hO tl h0 X c0 hX0 l _ h clk st' K hsb hck hinv h2 hK⟩).1
   ·cases h2
theorem zsr{cx:Cx}{c:AC}{st:St}{id:Nat}{o:Option (Ex×St)}{e:Ex}{st':St}(h0:∀e1 s1,o=some (e1,s1)→AWp cx c (Is e1 s1) st)
  (h:(o.bind fun r=>match r.1 with | .x j=>if j=id then some (Ex.n,r.2) else some r | _=>some r)=some (e,st')):AWp cx (.block id c) (Is e st') st:=by
 obtain⟨⟨e1,s1⟩,h1,h2⟩:=bind_some h;refine zko ((h0 e1 s1 h1).mono ?_)
 rintro ex s ⟨rfl,rfl⟩
 cases e1 with
 | n=>simp only at h2;cases h2;exact⟨rfl,rfl⟩
 | x j=>
  simp only at h2;show Zdu id _ (.exit j) _;simp only[Zdu];split at h2
  ·rename_i hj;rw[if_pos hj];cases h2;exact⟨rfl,rfl⟩
  ·rename_i hj;rw[if_neg hj];cases h2;exact⟨rfl,rfl⟩
 | r=>simp only at h2;cases h2;exact⟨rfl,rfl⟩
 | g l=>simp only at h2;cases h2;exact⟨rfl,rfl⟩
theorem zv1{k:Nat}{cx:Cx}(hk:cx.clk0=k+1){c:AC}{st:St}{g:Gh}{o:Option (Ex×St)}{e:Ex}{st':St}(h0:∀e1 s1,o=some (e1,s1)→AWp cx c (Is e1 s1) st)
  (h:(o.bind fun r=>match r.1 with | .n=>(ghS k g r.2).map fun s=>(Ex.n,s) | _=>some r)=some (e,st')):AWp cx c (Is e st') st:=by
 obtain⟨⟨e1,s1⟩,h1,h2⟩:=bind_some h;intro code hc hm a w hr;refine wp_mono (h0 e1 s1 h1 code hc hm a w hr) ?_
 rintro ex a' w' ⟨s,⟨rfl,rfl⟩,hr'⟩
 cases e1 with
 | n=>
  simp only at h2;obtain⟨s2,h3,h4⟩:=map_some h2;cases h4;exact⟨_,⟨rfl,rfl⟩,hr'.gh hk h3⟩
 | x id=>simp only at h2;cases h2;exact⟨_,⟨rfl,rfl⟩,hr'⟩
 | r=>simp only at h2;cases h2;exact⟨_,⟨rfl,rfl⟩,hr'⟩
 | g l=>simp only at h2;cases h2;exact⟨_,⟨rfl,rfl⟩,hr'⟩
theorem zax(hO:GoodO P ν T O){k:Nat}{cx:Cx}(hP:cx.P=P)(hk:cx.clk0=k+1):∀(c:AX) (st:St) (e:Ex) (st':St),evX O T k c st=some (e,st')→AWp cx (er ν (Zl T) c) (Is e st') st
 | .skip,st,e,st',h=>by simp only[evX]at h;cases h;exact zvm ⟨rfl,rfl⟩
 | .reg l,st,e,st',h=>by
  simp only[evX]at h;obtain⟨s,h1,h2⟩:=map_some h;cases h2;refine zyi ?_;rw[hP];exact zdu hO l st st' _ h1 ⟨rfl,rfl⟩
 | .draw l,st,e,st',h=>by
  simp only[evX]at h;obtain⟨s,h1,h2⟩:=map_some h;cases h2;refine zvn ?_;rw[hP];exact zc0 hO l _ _ _ _ _ _ st' _ (fun q hq=>by simp at hq) h1 ⟨rfl,rfl⟩
 | .drawT hd tl,st,e,st',h=>by
  simp only[evX]at h;obtain⟨s,h1,h2⟩:=map_some h;cases h2;refine zrz ?_;rw[hP];exact zg2 hO tl hd _ _ _ st' _ h1 ⟨rfl,rfl⟩
 | .drawM hd tl,st,e,st',h=>by
  simp only[evX]at h;obtain⟨s,h1,h2⟩:=map_some h;cases h2;refine zr0 (zeh (Zd7 hd st.env) st.heap) ?_;rw[hP];exact zbn hO tl _ _ _ (zeh _ _) hd _ _ _ st' _ (zeh _ _) (Yi _) (fun _ _ h=>.inl h) h1 ⟨rfl,rfl⟩
 | .bad,st,e,st',h=>by simp only[evX]at h;cases h
 | .prim f,st,e,st',h=>by simp only[evX]at h;cases h
 | .seq a b,st,e,st',h=>by
  simp only[evX]at h;obtain⟨⟨e1,s1⟩,h1,h2⟩:=bind_some h;refine zyj ((zax hO hP hk a st e1 s1 h1).mono ?_)
  rintro ex s ⟨rfl,rfl⟩
  cases e1 with
  | n=>exact zax hO hP hk b _ e st' h2
  | x id=>simp only at h2;cases h2;exact⟨rfl,rfl⟩
  | r=>simp only at h2;cases h2;exact⟨rfl,rfl⟩
  | g l=>simp only at h2;cases h2;exact⟨rfl,rfl⟩
 | .cond c x y,st,e,st',h=>by
  simp only[evX]at h;split at h
  ·rename_i t ht;refine zvo ht (fun h1=>?_) (fun h1=>?_)
   ·subst h1;exact zax hO hP hk x st e st' (by simpa using h)
   ·subst h1;exact zax hO hP hk y st e st' (by simpa using h)
  ·cases h
 | .block id c,st,e,st',h=>by
  simp only[evX]at h;obtain⟨⟨e1,s1⟩,h1,h2⟩:=bind_some h;refine zko ((zax hO hP hk c st e1 s1 h1).mono ?_)
  rintro ex s ⟨rfl,rfl⟩
  cases e1 with
  | n=>simp only at h2;cases h2;exact⟨rfl,rfl⟩
  | x j=>
   simp only at h2;show Zdu id _ (.exit j) _;simp only[Zdu];split at h2
   ·rename_i hj;rw[if_pos hj];cases h2;exact⟨rfl,rfl⟩
   ·rename_i hj;rw[if_neg hj];cases h2;exact⟨rfl,rfl⟩
  | r=>simp only at h2;cases h2;exact⟨rfl,rfl⟩
  | g l=>simp only at h2;cases h2;exact⟨rfl,rfl⟩
 | .loop c,st,e,st',h=>zg1 (hO.loop k c st e st' (by simpa only[evX]using h) cx hP hk)
 | .exit id,st,e,st',h=>by simp only[evX]at h;cases h;exact zvp ⟨rfl,rfl⟩
 | .ret,st,e,st',h=>by simp only[evX]at h;cases h;exact zyk ⟨rfl,rfl⟩
 | .note c g,st,e,st',h=>by
  simp only[evX]at h;obtain⟨⟨e1,s1⟩,h1,h2⟩:=bind_some h;intro code hc hm a w hr;refine wp_mono (zax hO hP hk c st e1 s1 h1 code hc hm a w hr) ?_
  rintro ex a' w' ⟨s,⟨rfl,rfl⟩,hr'⟩
  cases e1 with
  | n=>
   simp only at h2;obtain⟨s2,h3,h4⟩:=map_some h2;cases h4;exact⟨_,⟨rfl,rfl⟩,hr'.gh hk h3⟩
  | x id=>simp only at h2;cases h2;exact⟨_,⟨rfl,rfl⟩,hr'⟩
  | r=>simp only at h2;cases h2;exact⟨_,⟨rfl,rfl⟩,hr'⟩
  | g l=>simp only at h2;cases h2;exact⟨_,⟨rfl,rfl⟩,hr'⟩
 | .lp id g c g2,st,e,st',h=>by
  simp only[evX]at h;obtain⟨s,h1,h2⟩:=bind_some h;have h3:((O.loop k c s).bind fun r=>match r.1 with | .x j=>if j=id then some (Ex.n,r.2) else some r | _=>some r).bind (fun r=>match r.1 with | .n=>(ghS k g2 r.2).map fun s=>(Ex.n,s) | _=>some r)=some (e,st'):=by
   rw[←h2];cases O.loop k c s with
   | none=>rfl
   | some r=>
    obtain⟨e1,s1⟩:=r;cases e1 with
    | n=>rfl
    | r=>rfl
    | g l=>rfl
    | x j=>
     simp only[Yu];split<;>rfl
  have h4:AWp cx (.block id (.loop (er ν (Zl T) c))) (Is e st') s:=
   zv1 hk (fun e1 s1 he=>zsr (fun e2 s2 he2=>zg1 (hO.loop k c s e2 s2 he2 cx hP hk)) he) h3
  intro code hc hm a w hr;exact h4 code hc hm a w (hr.gh hk h1)
 | .scope c,st,e,st',h=>by
  simp only[evX]at h;obtain⟨⟨e1,s1⟩,h1,h2⟩:=bind_some h;refine zr1 ((zax hO hP hk c st e1 s1 h1).mono ?_)
  rintro ex s ⟨rfl,rfl⟩
  cases e1 with
  | g l=>simp only at h2;cases h2
  | n=>simp only at h2;cases h2;exact⟨fun l he=>(by cases he),rfl,rfl⟩
  | x j=>simp only at h2;cases h2;exact⟨fun l he=>(by cases he),rfl,rfl⟩
  | r=>simp only at h2;cases h2;exact⟨fun l he=>(by cases he),rfl,rfl⟩
 | .label l,st,e,st',h=>by simp only[evX]at h;cases h;exact zr2 ⟨rfl,rfl⟩
 | .goto l,st,e,st',h=>by simp only[evX]at h;cases h;exact zvq ⟨rfl,rfl⟩
 | .gsc l c r,st,e,st',h=>by
  simp only[evX]at h;have key:∀n o,Zih (fun s=>evX O T k r s) l n o=some (e,st')→∃e1 s1,o=some (e1,s1)∧GQ cx l (er ν (Zl T) r) (Is e st') n e1.out s1:=by
   intro n
   induction n with
   | zero=>intro o h;cases h
   | succ n ih=>
    intro o h;simp only[Zih]at h;obtain⟨⟨e1,s1⟩,h1,h2⟩:=bind_some h;refine⟨e1,s1,h1,?_⟩;cases e1 with
    | g j=>
     simp only at h2;split at h2
     ·rename_i hj;obtain⟨e2,s2,h3,h4⟩:=ih _ h2;refine⟨hj,(zax hO hP hk r s1 e2 s2 h3).mono ?_⟩
      rintro ex s ⟨rfl,rfl⟩
      exact h4
     ·cases h2
    | n=>simp only at h2;cases h2;exact⟨rfl,rfl⟩
    | x j=>simp only at h2;cases h2;exact⟨rfl,rfl⟩
    | r=>simp only at h2;cases h2;exact⟨rfl,rfl⟩
  obtain⟨e1,s1,h1,h2⟩:=key _ _ h;refine zyl 100 ((zax hO hP hk c st e1 s1 h1).mono ?_)
  rintro ex s ⟨rfl,rfl⟩
  exact h2
 | .pre g c,st,e,st',h=>by
  simp only[evX]at h;obtain⟨s,h1,h2⟩:=bind_some h;intro code hc hm a w hr;exact zax hO hP hk c s e st' h2 code hc hm a w (hr.gh hk h1)
theorem zp3{f:FuncId}{xs:List AV}{hb:Heap}{k:Nat}{ex:Bool}{x:AV}{hh:Heap}{cc:Nat}(h:Zdl P f xs hb (k+1) (fun r h c=>r=x∧h=hh∧c=cc)) :
  Zdl P f xs hb (k+1) (fun r h c=>r=(Zcv ex k [0] ⟨[(0,x)],hh,cc⟩).env.get 0∧h=(Zcv ex k [0] ⟨[(0,x)],hh,cc⟩).heap∧c=(Zcv ex k [0] ⟨[(0,x)],hh,cc⟩).clk):=by
 refine⟨h.1,fun w S M cargs hl hC hheap hS hM=>(h.2 w S M cargs hl hC hheap hS hM).mono ?_⟩;intro e w' ⟨v,r,h',S',M',clk',he,⟨h1,h2,h3⟩,hCr,hw⟩;subst h1;subst h2;subst h3;have hrel:Rel ⟨P,1,w,S,M,k+1⟩ ⟨[(0,r)],h',clk'⟩ { tmps:=#[v],defers:=[] } w':=by
  refine⟨S',M',rfl,rfl,fun t=>?_,hw 1⟩;cases t with
  | zero=>simpa using hCr
  | succ t=>simp;exact .p (.dead _)
 obtain⟨S2,M2,hr2⟩:=hrel.norm (ex:=ex) (k:=k) (live:=[0]) rfl;refine⟨v,_,_,S2,M2,_,he,⟨rfl,rfl,rfl⟩,by simpa using hr2.env 0,fun nt=>?_⟩;have:=hr2.wr;exact⟨this.heap,this.ext,this.fr,this.Snew,this.Slt,this.Mnew⟩
theorem Z6.res{f:FuncId}{xs:List AV}{y:AV}{ex:Bool}(h:Z6 P f xs (·=y)):Z6 P f xs (·=wkIf ex y):=
 ⟨h.1,fun w S cargs hl hC hS=>(h.2 w S cargs hl hC hS).mono fun _ _ ⟨v,r,he,hr,hb,hC⟩=>⟨v,_,he,rfl,hb,by have hr:r=y:=hr;rw[←hr];exact hC.wkIf ex⟩⟩
def TOk(P:Program)(ν:Nat→FuncId)(T:Tbl):Prop:=∀u af,T u=some af →
 match af.body.isPrim with
 | some f=>∀xs r,f xs=some r→Z6 P (ν u) xs (·=r)
 | none=>if af.body.isBad=true then (∀m∈Zg6 af,Zdb P af.np m.1=some (ν m.2))∧(af.res.isEmpty=true→af.np=ν af.nt) else Zb8 P (ν u)=some (erF ν (Zl T) af)
theorem GoodO.next(hT:TOk P ν T)(hm:P.follows .mixedOrders=true)(hO:GoodO P ν T O):GoodO P ν T (Zb9 T O):=by
 have bad_no:∀(af:AFx) (k:Nat) (s:St) (r:Ex×St),af.body.isBad=true→evX O T k af.body s=some r→False:=by
  intro af k s r hb he;cases hbd:af.body<;>rw[hbd]at hb he<;>first | (cases hb;done) | (simp only[evX]at he;cases he)
 refine⟨hO.meth,hO.fnn,fun u af xs r h hu hl hc=>?_,fun u af ms xs hb r hb' hu hl hc=>?_,fun k c st e st' h cx hP hk=>?_⟩
 ·have hTu:=hT u af hu;simp only[Zb9,hu]at hc;split at hc
  ·rename_i f hf;rw[hf]at hTu;split at hc
   ·obtain⟨x,h1,h2⟩:=map_some hc;cases h2;exact hTu xs _ h1
   ·cases hc
  rename_i hf;rw[hf]at hTu;simp only at hTu;split at hc
  ·rename_i hcond;obtain⟨⟨e,s⟩,h1,h2⟩:=bind_some hc;rw[if_neg (fun hb=>bad_no af _ _ _ hb h1)]at hTu;have key:∃x y,(e=.n∨e=.r)∧Zci s af.res=some x∧frz s.heap x=some y∧r=wkIf af.exact y:=by
    unfold Zi6 at h2;cases e with
    | x id=>simp at h2
    | g id=>simp at h2
    | n=>
     simp only at h2;obtain⟨x,h3,h4⟩:=bind_some h2;rw[hl]at h4;obtain⟨y,h5,h6⟩:=map_some h4;cases h6;exact⟨x,y,.inl rfl,h3,h5,rfl⟩
    | r=>
     simp only at h2;obtain⟨x,h3,h4⟩:=bind_some h2;rw[hl]at h4;obtain⟨y,h5,h6⟩:=map_some h4;cases h6;exact⟨x,y,.inr rfl,h3,h5,rfl⟩
   obtain⟨x,y,he,h3,h5,rfl⟩:=key;refine Z6.res (zr3 hTu hm hcond.1 fun cx hP hnt hclk=>((zax hO hP hclk af.body _ e s h1).mono ?_))
   rintro ex s' ⟨rfl,rfl⟩
   exact⟨by rcases he with rfl | rfl;exact .inl rfl;exact .inr rfl,x,y,h3,h5,rfl⟩
  ·cases hc
 ·have hTu:=hT u af hu;simp only[Zb9,hu]at hc;split at hc
  ·rename_i f hf;split at hc
   ·rename_i hcond;rw[hcond.2]at hl;cases hl
   ·cases hc
  rename_i hf;rw[hf]at hTu;simp only at hTu;split at hc
  ·rename_i hcond;obtain⟨⟨e,s⟩,h1,h2⟩:=bind_some hc;rw[if_neg (fun hb=>bad_no af _ _ _ hb h1)]at hTu;have key:∃x,(e=.n∨e=.r)∧Zci s af.res=some x∧r=(Zcv af.exact hb.length [0] ⟨[(0,x)],s.heap,s.clk⟩).env.get 0∧hb'=(Zcv af.exact hb.length [0] ⟨[(0,x)],s.heap,s.clk⟩).heap:=by
    unfold Zi6 at h2;cases e with
    | x id=>simp at h2
    | g id=>simp at h2
    | n=>
     simp only at h2;obtain⟨x,h3,h4⟩:=bind_some h2;rw[hl]at h4;cases h4;exact⟨x,.inl rfl,h3,rfl,rfl⟩
    | r=>
     simp only at h2;obtain⟨x,h3,h4⟩:=bind_some h2;rw[hl]at h4;cases h4;exact⟨x,.inr rfl,h3,rfl,rfl⟩
   obtain⟨x,he,h3,rfl,rfl⟩:=key;have hA:Zdl P (ν u) xs hb (hb.length+1) (fun r h c=>r=x∧h=s.heap∧c=s.clk):=by
    refine zkp hTu hm hcond.1 fun cx hP hnt hclk=>((zax hO hP hclk af.body _ e s h1).mono ?_)
    rintro ex s' ⟨rfl,rfl⟩
    exact⟨by rcases he with rfl | rfl;exact .inl rfl;exact .inr rfl,x,h3,rfl,rfl,rfl⟩
   have hB:=zp3 (ex:=af.exact) hA;refine⟨hB.1,fun w S M cargs hl hC hheap hS hM=>(hB.2 w S M cargs hl hC hheap hS hM).mono ?_⟩;intro e w' ⟨v,r,h',S',M',clk',he,⟨a1,a2,a3⟩,hCr,hw⟩;refine⟨v,r,h',S',M',clk',he,⟨a1,a2,?_⟩,hCr,hw⟩;rw[a3];simp only[Zcv,Ybc]
  ·cases hc
 ·simp only[Zb9]at h;obtain⟨⟨e1,s1⟩,h1,h2⟩:=bind_some h;refine zvw ((zax hO hP hk c st e1 s1 h1).mono ?_)
  rintro ex s ⟨rfl,rfl⟩
  cases e1 with
  | n=>exact hO.loop k c _ e st' h2 cx hP hk
  | x id=>simp only at h2;cases h2;exact⟨rfl,rfl⟩
  | r=>simp only at h2;cases h2;exact⟨rfl,rfl⟩
  | g l=>simp only at h2;cases h2;exact⟨rfl,rfl⟩
theorem z9i(hT:TOk P ν T):∀k nm u,(nm,u)∈Zbu T k→Zdb P (Zl T k) nm=some (ν u):=by
 intro k nm u hm;unfold Zbu at hm;unfold Zl;cases hT':T (1000000+k) with
 | none=>rw[hT']at hm;cases hm
 | some af=>
  rw[hT']at hm;simp only at hm ⊢;split at hm
  ·rename_i hb;have:=hT _ af hT';have hp:af.body.isPrim=none:=by cases hbd:af.body<;>rw[hbd]at hb<;>first | rfl | cases hb
   rw[hp]at this;simp only[if_pos hb]at this;exact this.1 (nm,u) hm
  ·cases hm
theorem fnn0(hT:TOk P ν T):∀k u,Zgk T k=some u→Zl T k=ν u:=by
 intro k u hm;unfold Zgk at hm;unfold Zl;cases hT':T (1000000+k) with
 | none=>rw[hT']at hm;cases hm
 | some af=>
  rw[hT']at hm;simp only at hm ⊢;split at hm
  ·rename_i hb;cases hm;simp only[Yk]at hb;have:=hT _ af hT';have hp:af.body.isPrim=none:=by cases hbd:af.body<;>rw[hbd]at hb<;>first | rfl | cases hb.1
   rw[hp]at this;simp only[if_pos hb.1]at this;exact this.2 hb.2
  ·cases hm
theorem GoodO.orcN(hT:TOk P ν T)(hm:P.follows .mixedOrders=true):∀n,GoodO P ν T (orcN T n)
 | 0=>⟨z9i hT,fnn0 hT,fun _ _ _ _ _ _ _ h=>(by cases h),fun _ _ _ _ _ _ _ _ _ h=>(by cases h),fun _ _ _ _ _ h=>(by cases h)⟩
 | n+1=>(GoodO.orcN hT hm n).next hT hm
end
end Go.Ab
end
section
namespace Go.Ab
open Go.RowKit
inductive Qy where
 | call (u:Nat) (xs:List AV) (hb:Heap) (r:AV×Heap)
 | loop (k:Nat) (c:AX) (st:St) (r:Ex×St)
def Holds(O:Orc):Qy→Prop
 | .call u xs hb r=>O.call u xs hb=some r
 | .loop k c st r=>O.loop k c st=some r
def Zay{α:Type}(f:Orc→Option α):Prop:=∀O r,f O=some r→∃L:List Qy,(∀q∈L,Holds O q)∧∀O',(∀q∈L,Holds O' q)→f O'=some r
theorem Zay.const{α:Type}(a:Option α):Zay fun _=>a:=fun _ _ h=>⟨[],by simp,fun _ _=>h⟩
theorem Zay.bind{α β:Type}{g:Orc→Option α}{h:Orc→α→Option β}(hg:Zay g)(hh:∀x,Zay fun O=>h O x):Zay fun O=>(g O).bind (h O):=by
 intro O r he;obtain⟨x,h1,h2⟩:=bind_some he;obtain⟨L1,a1,a2⟩:=hg O x h1;obtain⟨L2,b1,b2⟩:=hh x O r h2;refine⟨L1++L2,fun q hq=>?_,fun O' hO'=>?_⟩
 ·rcases Y4.1 hq with hq | hq
  ·exact a1 q hq
  ·exact b1 q hq
 ·have e1:=a2 O' fun q hq=>hO' q (Yak _ hq);have e2:=b2 O' fun q hq=>hO' q (Yad _ hq);simp only at e2;simp only[e1,Yu,e2]
theorem Zay.map{α β:Type}{g:Orc→Option α}(hg:Zay g)(f:α→β):Zay fun O=>(g O).map f:=by
 have:=hg.bind (h:=fun _ x=>some (f x)) fun x=>.const _;simpa only[Option.map_eq_bind,Function.comp_def]using this
theorem Zay.call(u:Nat)(xs:List AV)(hb:Heap):Zay fun O=>O.call u xs hb:=fun O r h=>⟨[.call u xs hb r],by simpa[Holds]using h,fun O' h'=>by simpa[Holds]using h'⟩
theorem Zay.loop(k:Nat)(c:AX)(st:St):Zay fun O=>O.loop k c st:=fun O r h=>⟨[.loop k c st r],by simpa[Holds]using h,fun O' h'=>by simpa[Holds]using h'⟩
section
variable(T:Tbl)
theorem zld(u:Nat)(xs:List AV)(d:Option Nat)(st:St):Zay fun O=>Zc O T u xs d st:=by
 unfold Zc;split
 ·exact .const _
 ·split
  ·refine Zay.bind (.const _) fun ys=>Zay.bind (.call _ _ _) fun r=>.const _
  ·refine Zay.bind (.const _) fun ys=>?_;simp only;split
   ·refine Zay.bind (.call _ _ _) fun r=>.const _
   ·exact .const _
theorem zss(op:AOp)(d:Option Nat)(st:St):Zay fun O=>opX O T op d st:=by
 by_cases hx:∃k xs,op=.xop k xs
 ·obtain⟨k,xs,rfl⟩:=hx;cases k<;>exact .const _
 cases op<;>(try exact absurd ⟨_,_,rfl⟩ hx)<;>simp only[opX]<;>first | exact .const _ | exact zld T _ _ _ _ | (split<;>first | exact .const _ | (split<;>first | exact .const _ | exact zld T _ _ _ _))
theorem zst(o:AO)(st:St):Zay fun O=>Zfq O T o st:=by
 unfold Zfq;split
 ·exact zss T _ _ _
 ·unfold gX;split
  ·split
   ·exact zss T _ _ _
   ·exact .const _
  ·exact .const _
  ·exact .const _
theorem zf4:∀(l:List AO) (st:St),Zay fun O=>Zdc O T l st
 | [],st=>.const _
 | o::l,st=>by
  simp only[Zdc];exact(zst T o st).bind fun s=>zf4 l s
theorem zsu(op:AOp)(e:Env)(h:Heap)(older:List Heap):Zay fun O=>opD O T op e h older:=by
 by_cases hap:∃z x0 y,op=.app z x0 y
 ·obtain⟨z,x0,y,rfl⟩:=hap;by_cases hc:x0=.c (.sl [] .nl)
  ·subst hc;exact .const _
  ·simp only[zm4 hc];exact .const _
 cases op<;>(try exact absurd ⟨_,_,_,rfl⟩ hap)<;>simp only[opD]<;>try exact .const _
 case call=>
  split
  ·exact .const _
  ·split
   ·exact(Zay.call _ _ _).map _
   ·exact .const _
 case inv=>
  split
  ·split
   ·split
    ·exact .const _
    ·split
     ·exact(Zay.call _ _ _).map _
     ·exact .const _
   ·exact .const _
  ·exact .const _
theorem zsv(o:AO)(e:Env)(h:Heap)(older:List Heap):Zay fun O=>qX O T o e h older:=by
 unfold qX;split
 ·exact(zsu T _ _ _ _).map _
 ·split
  ·split
   ·exact(zsu T _ _ _ _).map _
   ·exact .const _
  ·exact .const _
  ·exact .const _
theorem zsw(u:Nat)(ys:List AV):Zay fun O=>Ze5 O T u ys:=by
 unfold Ze5;split
 ·exact .const _
 ·split
  ·exact(Zay.call _ _ _).map _
  ·exact .const _
theorem zez:∀(l:List DO) (e:Env) (h:Heap) (clk:Nat) (older:List Heap) (pend:Zbz),Zay fun O=>Zbf O T l e h clk older pend
 | [],e,h,clk,older,pend=>.const _
 | o::l,e,h,clk,older,pend=>by
  simp only[Zbf];split
  ·split
   ·refine Zay.bind (.const _) fun q=>?_;split
    ·exact zez l _ _ _ _ _
    ·exact .const _
   ·exact .const _
  ·split
   ·exact(zsv T _ _ _ _).bind fun x=>zez l _ _ _ _ _
   ·exact(zsw T _ _).bind fun x=>zez l _ _ _ _ _
theorem zle(tl:List AO):∀(l:List AO) (e:Env) (h:Heap) (clk:Nat),Zay fun O=>Zc1 O T tl l e h clk
 | [],e,h,clk=>zf4 T tl _
 | o::l,e,h,clk=>by
  simp only[Zc1];exact(zsv T _ _ _ _).bind fun x=>zle tl l _ _ _
theorem zsx(u:Nat)(xs:List AV)(d clk:Nat):Zay fun O=>Zep O T u xs d clk:=by
 unfold Zep;split
 ·exact .const _
 ·split
  ·exact .const _
  ·split
   ·refine(Zay.call _ _ _).bind fun r=>?_;exact .const _
   ·exact .const _
theorem zdh(tl:List AO)(h0:Heap)(c0:Nat)(X:Heap):∀(l:List AO) (e:Env) (h:Heap) (clk:Nat),Zay fun O=>Zaz O T tl h0 c0 X l e h clk
 | [],e,h,clk=>zf4 T tl _
 | o::l,e,h,clk=>by
  simp only[Zaz];split
  ·split
   ·split
    all_goals
     refine Zay.bind (.const _) fun q=>?_;split
     ·exact zdh tl h0 c0 X l _ _ _
     ·exact .const _
   ·exact .const _
  ·split
   ·split
    ·refine Zay.bind (.const _) fun q=>?_;split
     ·exact zdh tl h0 c0 X l _ _ _
     ·exact .const _
    ·exact .const _
   split
   ·split
    ·refine(zsx T _ _ _ _).bind fun q=>?_;split
     ·exact zdh tl h0 c0 X l _ _ _
     ·exact .const _
    ·exact .const _
   ·refine(zsv T _ _ _ _).bind fun x=>?_;split
    ·exact zdh tl h0 c0 X l _ _ _
    ·exact .const _
theorem zbo(k:Nat):∀(c:AX) (st:St),Zay fun O=>evX O T k c st
 | .skip,st=>.const _
 | .reg l,st=>by simp only[evX];exact(zf4 T l st).map _
 | .draw l,st=>by simp only[evX];exact(zez T l _ _ _ _ _).map _
 | .drawT hd tl,st=>by simp only[evX];exact(zle T tl hd _ _ _).map _
 | .drawM hd tl,st=>by simp only[evX];exact(zdh T tl _ _ _ hd _ _ _).map _
 | .bad,st=>.const _
 | .prim f,st=>.const _
 | .seq a b,st=>by
  simp only[evX];refine(zbo k a st).bind fun r=>?_;obtain⟨e,s⟩:=r;cases e
  ·exact zbo k b s
  ·exact .const _
  ·exact .const _
  ·exact .const _
 | .cond c x y,st=>by
  simp only[evX];split
  ·split
   ·exact zbo k x st
   ·exact zbo k y st
  ·exact .const _
 | .block id c,st=>by simp only[evX];exact(zbo k c st).bind fun r=>.const _
 | .loop c,st=>by simp only[evX];exact .loop _ _ _
 | .exit id,st=>.const _
 | .ret,st=>.const _
 | .note c g,st=>by simp only[evX];exact(zbo k c st).bind fun r=>.const _
 | .pre g c,st=>by simp only[evX];exact Zay.bind (.const _) fun s=>zbo k c s
 | .scope c,st=>by simp only[evX];exact(zbo k c st).bind fun r=>.const _
 | .label l,st=>.const _
 | .goto l,st=>.const _
 | .gsc l c r,st=>by
  simp only[evX];have key:∀n (f:Orc→Option (Ex×St)),Zay f→Zay fun O=>Zih (fun s=>evX O T k r s) l n (f O):=by
   intro n
   induction n with
   | zero=>intro f _;exact .const _
   | succ n ih=>
    intro f hf;simp only[Zih];refine hf.bind fun x=>?_;obtain⟨e,s⟩:=x;cases e
    ·exact .const _
    ·exact .const _
    ·exact .const _
    ·rename_i j;simp only;split
     ·exact ih _ (zbo k r s)
     ·exact .const _
  exact key _ _ (zbo k c st)
 | .lp id g c g2,st=>by simp only[evX];exact Zay.bind (.const _) fun s=>(Zay.loop _ _ _).bind fun r=>.const _
theorem zch(u:Nat)(xs:List AV)(hb:Heap):Zay fun O=>(Zb9 T O).call u xs hb:=by
 simp only[Zb9];split
 ·exact .const _
 ·split
  ·exact .const _
  ·split
   ·exact(zbo T _ _ _).bind fun r=>.const _
   ·exact .const _
theorem zci(k:Nat)(c:AX)(st:St):Zay fun O=>(Zb9 T O).loop k c st:=by
 simp only[Zb9];refine(zbo T k c st).bind fun r=>?_;obtain⟨e,s⟩:=r;cases e
 ·exact .loop _ _ _
 ·exact .const _
 ·exact .const _
 ·exact .const _
theorem zg3:∀(n:Nat) (q:Qy),Holds (orcN T n) q→Holds (orcN T (n+1)) q
 | 0,q,h=>by cases q<;>cases h
 | n+1,.call u xs hb r,h=>by
  obtain⟨L,h1,h2⟩:=zch T u xs hb _ r h;exact h2 _ fun q hq=>zg3 n q (h1 q hq)
 | n+1,.loop k c st r,h=>by
  obtain⟨L,h1,h2⟩:=zci T k c st _ r h;exact h2 _ fun q hq=>zg3 n q (h1 q hq)
theorem zji{n m:Nat}(h:n≤m)(q:Qy)(hq:Holds (orcN T n) q):Holds (orcN T m) q:=by
 induction h with
 | refl=>exact hq
 | step _ ih=>exact zg3 T _ q ih
open Classical in
noncomputable def lim{α:Type}(f:Nat→Option α):Option α:=if h:∃n a,f n=some a then f (Classical.choose h) else none
theorem zoq{α:Type}{f:Nat→Option α}(hm:∀n m a,n≤m→f n=some a→f m=some a)(a:α):lim f=some a↔∃n,f n=some a:=by
 unfold lim;constructor
 ·intro h;split at h
  ·exact⟨_,h⟩
  ·cases h
 ·intro ⟨n,h⟩;have hex:∃n a,f n=some a:=⟨n,a,h⟩;rw[dif_pos hex];obtain⟨b,hb⟩:=Classical.choose_spec hex;have h1:=hm _ _ _ (Yc2 n (Classical.choose hex)) h;have h2:=hm _ _ _ (Ycq n (Classical.choose hex)) hb;rw[hb,←h2,h1]
noncomputable def orc:Orc:=⟨fun u xs hb=>lim fun n=>(orcN T n).call u xs hb,fun k c st=>lim fun n=>(orcN T n).loop k c st⟩
theorem zbz(q:Qy):Holds (orc T) q↔∃n,Holds (orcN T n) q:=by
 cases q with
 | call u xs hb r=>exact zoq (fun n m a hnm h=>zji T hnm (.call u xs hb a) h) r
 | loop k c st r=>exact zoq (fun n m a hnm h=>zji T hnm (.loop k c st a) h) r
theorem zm8{L:List Qy}(h:∀q∈L,Holds (orc T) q):∃n,∀q∈L,Holds (orcN T n) q:=by
 induction L with
 | nil=>exact⟨0,by simp⟩
 | cons q L ih=>
  obtain⟨n,hn⟩:=ih fun q hq=>h q (Yh _ hq);obtain⟨m,hm⟩:=(zbz T q).1 (h q Yl);refine⟨max n m,fun x hx=>?_⟩;rcases Ym.1 hx with rfl | hx
  ·exact zji T (Ycq _ _) _ hm
  ·exact zji T (Yc2 _ _) _ (hn x hx)
theorem zjj(u:Nat)(xs:List AV)(hb:Heap):(orc T).call u xs hb=(Zb9 T (orc T)).call u xs hb:=by
 apply Option.ext;intro r;constructor
 ·intro h;obtain⟨n,hn⟩:=(zbz T (.call u xs hb r)).1 h;cases n with
  | zero=>cases hn
  | succ n=>
   obtain⟨L,h1,h2⟩:=zch T u xs hb _ r hn;exact h2 _ fun q hq=>(zbz T q).2 ⟨n,h1 q hq⟩
 ·intro h;obtain⟨L,h1,h2⟩:=zch T u xs hb _ r h;obtain⟨n,hn⟩:=zm8 T h1;exact(zbz T (.call u xs hb r)).2 ⟨n+1,h2 _ hn⟩
theorem zv2(k:Nat)(c:AX)(st:St):(orc T).loop k c st=(Zb9 T (orc T)).loop k c st:=by
 apply Option.ext;intro r;constructor
 ·intro h;obtain⟨n,hn⟩:=(zbz T (.loop k c st r)).1 h;cases n with
  | zero=>cases hn
  | succ n=>
   obtain⟨L,h1,h2⟩:=zci T k c st _ r hn;exact h2 _ fun q hq=>(zbz T q).2 ⟨n,h1 q hq⟩
 ·intro h;obtain⟨L,h1,h2⟩:=zci T k c st _ r h;obtain⟨n,hn⟩:=zm8 T h1;exact(zbz T (.loop k c st r)).2 ⟨n+1,h2 _ hn⟩
end
noncomputable def Zb(T:Tbl)(u:Nat)(xs:List AV):Option AV:=((orc T).call u xs []).map (·.1)
noncomputable def Zcj(T:Tbl)(u:Nat)(xs:List AV)(hb:Heap):Option (AV×Heap):=(orc T).call u xs hb
noncomputable def Zhf(T:Tbl)(k:Nat)(c:AX)(st:St):Option (Ex×St):=(orc T).loop k c st
theorem zg4{P:Program}{ν:Nat→FuncId}{T:Tbl}(hT:TOk P ν T)(hm:P.follows .mixedOrders=true){u:Nat}{af:AFx}{xs:List AV}{r:AV}(hu:T u=some af)(hl:af.lent=none)(h:Zb T u xs=some r):Z6 P (ν u) xs (·=r):=by
 obtain⟨⟨r',h'⟩,h1,rfl⟩:=map_some h;obtain⟨n,hn⟩:=(zbz T (.call u xs [] (r',h'))).1 h1;exact(GoodO.orcN hT hm n).pure u af xs r' h' hu hl hn
end Go.Ab
end
section
namespace Go.Ab
open Go.RowKit
def u8(n:Nat):AV:=.i .u8 (n:Int)
def u32(n:Nat):AV:=.i .u32 (n:Int)
def u64(n:Nat):AV:=.i .u64 (n:Int)
@[simp] theorem zagf(k:IntKind)(n:Int):wkA (.i k n)=.i k n:=rfl
@[simp] theorem zadw{h:Heap}(k:IntKind)(n:Int):Zas h (.i k n)=some (.i k n):=rfl
@[simp] theorem zadx{h:Heap}(k:IntKind)(n:Int):Zbj h (.i k n)=some (.i k n):=rfl
@[simp] theorem zagg{h:Heap}(k:IntKind)(n:Int):frz h (.i k n)=some (.i k n):=rfl
@[simp] theorem z2y(k:IntKind)(n:Int):Zal (.i k n)=true:=rfl
@[simp] theorem z2z(k:IntKind)(n:Int):Zam (.i k n)=true:=rfl
@[simp] theorem z57(k:IntKind)(n:Int):scalar (.i k n)=true:=rfl
@[simp] theorem z9j(k:IntKind)(n:Int):pureC (.i k n)=true:=rfl
@[simp] theorem z9k(k:IntKind)(n:Int):noRef (.i k n)=true:=rfl
@[simp] theorem zady(k:IntKind)(n:Int):refs (.i k n)=[]:=rfl
@[simp] theorem zagh(k:IntKind)(n:Int):rfC (.i k n)=[]:=rfl
@[simp] theorem zagi(k:IntKind)(n:Int):rf1 (.i k n)=[]:=rfl
@[simp] theorem zagj(k:IntKind)(n:Int):rfA (.i k n)=[]:=rfl
@[simp] theorem zagk{σn:BId→BId}{σg:Nat→Nat}(k:IntKind)(n:Int):rlC σn σg (.i k n)=(.i k n):=rfl
@[simp] theorem zagl{σn:BId→BId}{σg:Nat→Nat}(k:IntKind)(n:Int):rl1 σn σg (.i k n)=(.i k n):=rfl
@[simp] theorem zagm{σn:BId→BId}{σg:Nat→Nat}(k:IntKind)(n:Int):rlA σn σg (.i k n)=(.i k n):=rfl
@[simp] theorem z58{h:Heap}(k:IntKind)(n:Int):Zaw h (.i k n)=true:=rfl
@[simp] theorem z6a{h:Heap}(k:IntKind)(n:Int):Za5 h (.i k n)=true:=rfl
@[simp] theorem z9l{h:Heap}(k:IntKind)(n:Int):Zbq h (.i k n)=true:=rfl
@[simp] theorem z22(k:IntKind)(n:Int):cellsOf (.i k n)=some [.i k n]:=rfl
@[simp] theorem zagn(t:Bool):wkA (.b t)=.b t:=rfl
@[simp] theorem zadz{h:Heap}(t:Bool):Zas h (.b t)=some (.b t):=rfl
@[simp] theorem zad0{h:Heap}(t:Bool):Zbj h (.b t)=some (.b t):=rfl
@[simp] theorem zago{h:Heap}(t:Bool):frz h (.b t)=some (.b t):=rfl
@[simp] theorem z23(t:Bool):Zal (.b t)=true:=rfl
@[simp] theorem z24(t:Bool):Zam (.b t)=true:=rfl
@[simp] theorem z6b(t:Bool):scalar (.b t)=true:=rfl
@[simp] theorem z9m(t:Bool):pureC (.b t)=true:=rfl
@[simp] theorem z9n(t:Bool):noRef (.b t)=true:=rfl
@[simp] theorem zad1(t:Bool):refs (.b t)=[]:=rfl
@[simp] theorem zagp(t:Bool):rfC (.b t)=[]:=rfl
@[simp] theorem zagq(t:Bool):rf1 (.b t)=[]:=rfl
@[simp] theorem zagr(t:Bool):rfA (.b t)=[]:=rfl
@[simp] theorem zags{σn:BId→BId}{σg:Nat→Nat}(t:Bool):rlC σn σg (.b t)=(.b t):=rfl
@[simp] theorem zagt{σn:BId→BId}{σg:Nat→Nat}(t:Bool):rl1 σn σg (.b t)=(.b t):=rfl
@[simp] theorem zagu{σn:BId→BId}{σg:Nat→Nat}(t:Bool):rlA σn σg (.b t)=(.b t):=rfl
@[simp] theorem z6c{h:Heap}(t:Bool):Zaw h (.b t)=true:=rfl
@[simp] theorem z6d{h:Heap}(t:Bool):Za5 h (.b t)=true:=rfl
@[simp] theorem z9o{h:Heap}(t:Bool):Zbq h (.b t)=true:=rfl
@[simp] theorem z25(t:Bool):cellsOf (.b t)=some [.b t]:=rfl
@[simp] theorem zagv(l:List UInt8):wkA (.s l)=.s l:=rfl
@[simp] theorem zad2{h:Heap}(l:List UInt8):Zas h (.s l)=some (.s l):=rfl
@[simp] theorem zad3{h:Heap}(l:List UInt8):Zbj h (.s l)=some (.s l):=rfl
@[simp] theorem zagw{h:Heap}(l:List UInt8):frz h (.s l)=some (.s l):=rfl
@[simp] theorem z26(l:List UInt8):Zal (.s l)=true:=rfl
@[simp] theorem z27(l:List UInt8):Zam (.s l)=true:=rfl
@[simp] theorem z6e(l:List UInt8):scalar (.s l)=true:=rfl
@[simp] theorem z9p(l:List UInt8):pureC (.s l)=true:=rfl
@[simp] theorem z9q(l:List UInt8):noRef (.s l)=true:=rfl
@[simp] theorem zad4(l:List UInt8):refs (.s l)=[]:=rfl
@[simp] theorem zagx(l:List UInt8):rfC (.s l)=[]:=rfl
@[simp] theorem zagy(l:List UInt8):rf1 (.s l)=[]:=rfl
@[simp] theorem zagz(l:List UInt8):rfA (.s l)=[]:=rfl
@[simp] theorem zag0{σn:BId→BId}{σg:Nat→Nat}(l:List UInt8):rlC σn σg (.s l)=(.s l):=rfl
@[simp] theorem zag1{σn:BId→BId}{σg:Nat→Nat}(l:List UInt8):rl1 σn σg (.s l)=(.s l):=rfl
@[simp] theorem zag2{σn:BId→BId}{σg:Nat→Nat}(l:List UInt8):rlA σn σg (.s l)=(.s l):=rfl
@[simp] theorem z6f{h:Heap}(l:List UInt8):Zaw h (.s l)=true:=rfl
@[simp] theorem z6g{h:Heap}(l:List UInt8):Za5 h (.s l)=true:=rfl
@[simp] theorem z9r{h:Heap}(l:List UInt8):Zbq h (.s l)=true:=rfl
@[simp] theorem z28(l:List UInt8):cellsOf (.s l)=some [.s l]:=rfl
@[simp] theorem z9s(v:Value):wkA (.raw v)=.raw v:=rfl
@[simp] theorem z6h{h:Heap}(v:Value):Zas h (.raw v)=some (.raw v):=rfl
@[simp] theorem z6i{h:Heap}(v:Value):Zbj h (.raw v)=some (.raw v):=rfl
@[simp] theorem z9t{h:Heap}(v:Value):frz h (.raw v)=some (.raw v):=rfl
@[simp] theorem zyt(v:Value):Zal (.raw v)=false:=rfl
@[simp] theorem zyu(v:Value):Zam (.raw v)=false:=rfl
@[simp] theorem z01(v:Value):scalar (.raw v)=false:=rfl
@[simp] theorem z29(v:Value):pureC (.raw v)=true:=rfl
@[simp] theorem z3a(v:Value):noRef (.raw v)=true:=rfl
@[simp] theorem z6j(v:Value):refs (.raw v)=[]:=rfl
@[simp] theorem z9u(v:Value):rfC (.raw v)=[]:=rfl
@[simp] theorem z9v(v:Value):rf1 (.raw v)=[]:=rfl
@[simp] theorem z9w(v:Value):rfA (.raw v)=[]:=rfl
@[simp] theorem z9x{σn:BId→BId}{σg:Nat→Nat}(v:Value):rlC σn σg (.raw v)=(.raw v):=rfl
@[simp] theorem z9y{σn:BId→BId}{σg:Nat→Nat}(v:Value):rl1 σn σg (.raw v)=(.raw v):=rfl
@[simp] theorem z9z{σn:BId→BId}{σg:Nat→Nat}(v:Value):rlA σn σg (.raw v)=(.raw v):=rfl
@[simp] theorem z02{h:Heap}(v:Value):Zaw h (.raw v)=true:=rfl
@[simp] theorem z03{h:Heap}(v:Value):Za5 h (.raw v)=true:=rfl
@[simp] theorem z3b{h:Heap}(v:Value):Zbq h (.raw v)=true:=rfl
@[simp] theorem z90{h:Heap}(els:List (List AV))(f:Fl):Zas h (.sl els f)=some (.sl els f):=rfl
@[simp] theorem z91{h:Heap}(els:List (List AV))(f:Fl):Zbj h (.sl els f)=some (.sl els f):=rfl
@[simp] theorem zad5{h:Heap}(els:List (List AV))(f:Fl):frz h (.sl els f)=some (.sl els f):=rfl
@[simp] theorem z04(els:List (List AV))(f:Fl):Zal (.sl els f)=false:=rfl
@[simp] theorem z05(els:List (List AV))(f:Fl):Zam (.sl els f)=false:=rfl
@[simp] theorem z3c(els:List (List AV))(f:Fl):scalar (.sl els f)=false:=rfl
@[simp] theorem z6k(els:List (List AV))(f:Fl):pureC (.sl els f)=true:=rfl
@[simp] theorem z6l(els:List (List AV))(f:Fl):noRef (.sl els f)=true:=rfl
@[simp] theorem z92(els:List (List AV))(f:Fl):refs (.sl els f)=[]:=rfl
@[simp] theorem zad6(els:List (List AV))(f:Fl):rfC (.sl els f)=[]:=rfl
@[simp] theorem zad7(els:List (List AV))(f:Fl):rf1 (.sl els f)=[]:=rfl
@[simp] theorem zad8(els:List (List AV))(f:Fl):rfA (.sl els f)=[]:=rfl
@[simp] theorem zad9{σn:BId→BId}{σg:Nat→Nat}(els:List (List AV))(f:Fl):rlC σn σg (.sl els f)=(.sl els f):=rfl
@[simp] theorem zaea{σn:BId→BId}{σg:Nat→Nat}(els:List (List AV))(f:Fl):rl1 σn σg (.sl els f)=(.sl els f):=rfl
@[simp] theorem zaeb{σn:BId→BId}{σg:Nat→Nat}(els:List (List AV))(f:Fl):rlA σn σg (.sl els f)=(.sl els f):=rfl
@[simp] theorem z3d{h:Heap}(els:List (List AV))(f:Fl):Zaw h (.sl els f)=true:=rfl
@[simp] theorem z3e{h:Heap}(els:List (List AV))(f:Fl):Za5 h (.sl els f)=true:=rfl
@[simp] theorem z6m{h:Heap}(els:List (List AV))(f:Fl):Zbq h (.sl els f)=true:=rfl
@[simp] theorem z06(els:List (List AV))(f:Fl):cellsOf (.sl els f)=some [.sl els f]:=rfl
@[simp] theorem zaec(cs:List AV)(o:Nat):wkA (.ep cs o)=.ep cs o:=rfl
@[simp] theorem z93{h:Heap}(cs:List AV)(o:Nat):Zas h (.ep cs o)=some (.ep cs o):=rfl
@[simp] theorem z94{h:Heap}(cs:List AV)(o:Nat):Zbj h (.ep cs o)=some (.ep cs o):=rfl
@[simp] theorem zaed{h:Heap}(cs:List AV)(o:Nat):frz h (.ep cs o)=some (.ep cs o):=rfl
@[simp] theorem z07(cs:List AV)(o:Nat):Zal (.ep cs o)=false:=rfl
@[simp] theorem z08(cs:List AV)(o:Nat):Zam (.ep cs o)=false:=rfl
@[simp] theorem z3f(cs:List AV)(o:Nat):scalar (.ep cs o)=false:=rfl
@[simp] theorem z6n(cs:List AV)(o:Nat):pureC (.ep cs o)=true:=rfl
@[simp] theorem z6o(cs:List AV)(o:Nat):noRef (.ep cs o)=true:=rfl
@[simp] theorem z95(cs:List AV)(o:Nat):refs (.ep cs o)=[]:=rfl
@[simp] theorem zaee(cs:List AV)(o:Nat):rfC (.ep cs o)=[]:=rfl
@[simp] theorem zaef(cs:List AV)(o:Nat):rf1 (.ep cs o)=[]:=rfl
@[simp] theorem zaeg(cs:List AV)(o:Nat):rfA (.ep cs o)=[]:=rfl
@[simp] theorem zaeh{σn:BId→BId}{σg:Nat→Nat}(cs:List AV)(o:Nat):rlC σn σg (.ep cs o)=(.ep cs o):=rfl
@[simp] theorem zaei{σn:BId→BId}{σg:Nat→Nat}(cs:List AV)(o:Nat):rl1 σn σg (.ep cs o)=(.ep cs o):=rfl
@[simp] theorem zaej{σn:BId→BId}{σg:Nat→Nat}(cs:List AV)(o:Nat):rlA σn σg (.ep cs o)=(.ep cs o):=rfl
@[simp] theorem z3g{h:Heap}(cs:List AV)(o:Nat):Zaw h (.ep cs o)=true:=rfl
@[simp] theorem z3h{h:Heap}(cs:List AV)(o:Nat):Za5 h (.ep cs o)=true:=rfl
@[simp] theorem z6p{h:Heap}(cs:List AV)(o:Nat):Zbq h (.ep cs o)=true:=rfl
@[simp] theorem z09(cs:List AV)(o:Nat):cellsOf (.ep cs o)=some [.ep cs o]:=rfl
@[simp] theorem zaek(n:Nat):wkA (u8 n)=u8 n:=rfl
@[simp] theorem z96{h:Heap}(n:Nat):Zas h (u8 n)=some (u8 n):=rfl
@[simp] theorem z97{h:Heap}(n:Nat):Zbj h (u8 n)=some (u8 n):=rfl
@[simp] theorem zael{h:Heap}(n:Nat):frz h (u8 n)=some (u8 n):=rfl
@[simp] theorem z1a(n:Nat):Zal (u8 n)=true:=rfl
@[simp] theorem z1b(n:Nat):Zam (u8 n)=true:=rfl
@[simp] theorem z3i(n:Nat):scalar (u8 n)=true:=rfl
@[simp] theorem z6q(n:Nat):pureC (u8 n)=true:=rfl
@[simp] theorem z6r(n:Nat):noRef (u8 n)=true:=rfl
@[simp] theorem z98(n:Nat):refs (u8 n)=[]:=rfl
@[simp] theorem zaem(n:Nat):rfC (u8 n)=[]:=rfl
@[simp] theorem zaen(n:Nat):rf1 (u8 n)=[]:=rfl
@[simp] theorem zaeo(n:Nat):rfA (u8 n)=[]:=rfl
@[simp] theorem zaep{σn:BId→BId}{σg:Nat→Nat}(n:Nat):rlC σn σg (u8 n)=(u8 n):=rfl
@[simp] theorem zaeq{σn:BId→BId}{σg:Nat→Nat}(n:Nat):rl1 σn σg (u8 n)=(u8 n):=rfl
@[simp] theorem zaer{σn:BId→BId}{σg:Nat→Nat}(n:Nat):rlA σn σg (u8 n)=(u8 n):=rfl
@[simp] theorem z3j{h:Heap}(n:Nat):Zaw h (u8 n)=true:=rfl
@[simp] theorem z3k{h:Heap}(n:Nat):Za5 h (u8 n)=true:=rfl
@[simp] theorem z6s{h:Heap}(n:Nat):Zbq h (u8 n)=true:=rfl
@[simp] theorem z1c(n:Nat):cellsOf (u8 n)=some [u8 n]:=rfl
@[simp] theorem z99(n:Nat):wkA (u32 n)=u32 n:=rfl
@[simp] theorem z6t{h:Heap}(n:Nat):Zas h (u32 n)=some (u32 n):=rfl
@[simp] theorem z6u{h:Heap}(n:Nat):Zbj h (u32 n)=some (u32 n):=rfl
@[simp] theorem zaaa{h:Heap}(n:Nat):frz h (u32 n)=some (u32 n):=rfl
@[simp] theorem zyv(n:Nat):Zal (u32 n)=true:=rfl
@[simp] theorem zyw(n:Nat):Zam (u32 n)=true:=rfl
@[simp] theorem z1d(n:Nat):scalar (u32 n)=true:=rfl
@[simp] theorem z3l(n:Nat):pureC (u32 n)=true:=rfl
@[simp] theorem z3m(n:Nat):noRef (u32 n)=true:=rfl
@[simp] theorem z6v(n:Nat):refs (u32 n)=[]:=rfl
@[simp] theorem zaab(n:Nat):rfC (u32 n)=[]:=rfl
@[simp] theorem zaac(n:Nat):rf1 (u32 n)=[]:=rfl
@[simp] theorem zaad(n:Nat):rfA (u32 n)=[]:=rfl
@[simp] theorem zaae{σn:BId→BId}{σg:Nat→Nat}(n:Nat):rlC σn σg (u32 n)=(u32 n):=rfl
@[simp] theorem zaaf{σn:BId→BId}{σg:Nat→Nat}(n:Nat):rl1 σn σg (u32 n)=(u32 n):=rfl
@[simp] theorem zaag{σn:BId→BId}{σg:Nat→Nat}(n:Nat):rlA σn σg (u32 n)=(u32 n):=rfl
@[simp] theorem z1e{h:Heap}(n:Nat):Zaw h (u32 n)=true:=rfl
@[simp] theorem z1f{h:Heap}(n:Nat):Za5 h (u32 n)=true:=rfl
@[simp] theorem z3n{h:Heap}(n:Nat):Zbq h (u32 n)=true:=rfl
@[simp] theorem zyx(n:Nat):cellsOf (u32 n)=some [u32 n]:=rfl
@[simp] theorem zaah(n:Nat):wkA (u64 n)=u64 n:=rfl
@[simp] theorem z6w{h:Heap}(n:Nat):Zas h (u64 n)=some (u64 n):=rfl
@[simp] theorem z6x{h:Heap}(n:Nat):Zbj h (u64 n)=some (u64 n):=rfl
@[simp] theorem zaai{h:Heap}(n:Nat):frz h (u64 n)=some (u64 n):=rfl
@[simp] theorem zyy(n:Nat):Zal (u64 n)=true:=rfl
@[simp] theorem zyz(n:Nat):Zam (u64 n)=true:=rfl
@[simp] theorem z1g(n:Nat):scalar (u64 n)=true:=rfl
@[simp] theorem z3o(n:Nat):pureC (u64 n)=true:=rfl
@[simp] theorem z3p(n:Nat):noRef (u64 n)=true:=rfl
@[simp] theorem z6y(n:Nat):refs (u64 n)=[]:=rfl
@[simp] theorem zaaj(n:Nat):rfC (u64 n)=[]:=rfl
@[simp] theorem zaak(n:Nat):rf1 (u64 n)=[]:=rfl
@[simp] theorem zaal(n:Nat):rfA (u64 n)=[]:=rfl
@[simp] theorem zaam{σn:BId→BId}{σg:Nat→Nat}(n:Nat):rlC σn σg (u64 n)=(u64 n):=rfl
@[simp] theorem zaan{σn:BId→BId}{σg:Nat→Nat}(n:Nat):rl1 σn σg (u64 n)=(u64 n):=rfl
@[simp] theorem zaao{σn:BId→BId}{σg:Nat→Nat}(n:Nat):rlA σn σg (u64 n)=(u64 n):=rfl
@[simp] theorem z1h{h:Heap}(n:Nat):Zaw h (u64 n)=true:=rfl
@[simp] theorem z1i{h:Heap}(n:Nat):Za5 h (u64 n)=true:=rfl
@[simp] theorem z3q{h:Heap}(n:Nat):Zbq h (u64 n)=true:=rfl
@[simp] theorem zy0(n:Nat):cellsOf (u64 n)=some [u64 n]:=rfl
@[simp] theorem z6z :wkA .dead=.dead:=rfl
@[simp] theorem z3r{h:Heap} :Zas h .dead=some .dead:=rfl
@[simp] theorem z3s{h:Heap} :Zbj h .dead=some .dead:=rfl
@[simp] theorem z60{h:Heap} :frz h .dead=some .dead:=rfl
@[simp] theorem zxq :Zal .dead=false:=rfl
@[simp] theorem zxr :Zam .dead=false:=rfl
@[simp] theorem zy1 :scalar .dead=false:=rfl
@[simp] theorem z1j :pureC .dead=true:=rfl
@[simp] theorem z1k :noRef .dead=true:=rfl
@[simp] theorem z3t :refs .dead=[]:=rfl
@[simp] theorem z61 :rfC .dead=[]:=rfl
@[simp] theorem z62 :rf1 .dead=[]:=rfl
@[simp] theorem z63 :rfA .dead=[]:=rfl
@[simp] theorem z64{σn:BId→BId}{σg:Nat→Nat} :rlC σn σg .dead=.dead:=rfl
@[simp] theorem z65{σn:BId→BId}{σg:Nat→Nat} :rl1 σn σg .dead=.dead:=rfl
@[simp] theorem z66{σn:BId→BId}{σg:Nat→Nat} :rlA σn σg .dead=.dead:=rfl
@[simp] theorem zy2{h:Heap} :Zaw h .dead=true:=rfl
@[simp] theorem zy3{h:Heap} :Za5 h .dead=true:=rfl
@[simp] theorem z1l{h:Heap} :Zbq h .dead=true:=rfl
@[simp] theorem zaes(els:List (List AV))(f:Fl):wkA (.sl els f)=.sl (wkL els) .an:=rfl
@[simp] theorem zaap(cs:List AV):wkA (.agg cs)=.agg (wkR cs):=rfl
@[simp] theorem zaaq(cs:List AV):wkA (.tup cs)=.tup (wkR cs):=rfl
@[simp] theorem zaet(id:BId)(g z off n:Nat):wkA (.bs id g z off n)=.bs id g z off n:=rfl
@[simp] theorem zaar(id:BId)(g z i o:Nat):wkA (.ptr id g z i o)=.ptr id g z i o:=rfl
@[simp] theorem zaas(f:Nat)(id:BId)(g z i o:Nat):wkA (.fnp f id g z i o)=.fnp f id g z i o:=rfl
@[simp] theorem zaat(f:Nat)(x:AV):wkA (.fnv f x)=.fnv f (wkA x):=rfl
@[simp] theorem zaau :wkR []=[]:=rfl
@[simp] theorem z67(c:AV)(r:List AV):wkR (c::r)=wkA c::wkR r:=rfl
@[simp] theorem zaav :wkL []=[]:=rfl
@[simp] theorem z68(c:List AV)(r:List (List AV)):wkL (c::r)=wkR c::wkL r:=rfl
@[simp] theorem zaaw{h:Heap}(id:BId)(g z off n:Nat):Zbj h (.bs id g z off n)=(Z5 h id g z).bind fun bx=>if bx.kind≠.str∧off+n≤bx.els.length then some (.sl ((bx.els.drop off).take n) .an) else none:=rfl
@[simp] theorem z69{h:Heap}(id:BId)(g z i o:Nat):Zbj h (.ptr id g z i o)=some .dead:=rfl
@[simp] theorem z7a{h:Heap}(f:Nat)(id:BId)(g z i o:Nat):Zbj h (.fnp f id g z i o)=some .dead:=rfl
@[simp] theorem z7b{h:Heap}(f:Nat)(x:AV):Zbj h (.fnv f x)=some (.fnv f x):=rfl
@[simp] theorem zaax{h:Heap}(id:BId)(g z off n:Nat):Zas h (.bs id g z off n)=(Z5 h id g z).bind fun bx=>if bx.kind≠.str∧off+n≤bx.els.length then some (.sl ((bx.els.drop off).take n) .an) else none:=rfl
@[simp] theorem z7c{h:Heap}(id:BId)(g z i o:Nat):Zas h (.ptr id g z i o)=some .dead:=rfl
@[simp] theorem z7d{h:Heap}(f:Nat)(id:BId)(g z i o:Nat):Zas h (.fnp f id g z i o)=some .dead:=rfl
@[simp] theorem z7e{h:Heap}(f:Nat)(x:AV):Zas h (.fnv f x)=some (.fnv f x):=rfl
@[simp] theorem zaeu{h:Heap}(id:BId)(g z off n:Nat):frz h (.bs id g z off n)=(Z5 h id g z).bind fun bx=>if bx.kind≠.str∧off+n≤bx.els.length then some (.sl ((bx.els.drop off).take n) .an) else none:=rfl
@[simp] theorem zaay{h:Heap}(id:BId)(g z i o:Nat):frz h (.ptr id g z i o)=some .dead:=rfl
@[simp] theorem zaaz{h:Heap}(f:Nat)(id:BId)(g z i o:Nat):frz h (.fnp f id g z i o)=some .dead:=rfl
@[simp] theorem zaa0{h:Heap}(f:Nat)(x:AV):frz h (.fnv f x)=some (.fnv f x):=rfl
@[simp] theorem z7f{h:Heap}(cs:List AV):Zas h (.agg cs)=(cs.mapM (Zbj h)).map .agg:=rfl
@[simp] theorem zaa1{h:Heap}(cs:List AV):frz h (.agg cs)=(cs.mapM (Zbj h)).map .agg:=rfl
@[simp] theorem zaa2{h:Heap}(cs:List AV):frz h (.tup cs)=(cs.mapM (Zas h)).map .tup:=rfl
@[simp] theorem z1m(id:BId)(g z off n:Nat):Zal (.bs id g z off n)=false:=rfl
@[simp] theorem zy4(id:BId)(g z i o:Nat):Zal (.ptr id g z i o)=false:=rfl
@[simp] theorem zy5(f:Nat)(id:BId)(g z i o:Nat):Zal (.fnp f id g z i o)=false:=rfl
@[simp] theorem zy6(f:Nat)(x:AV):Zal (.fnv f x)=false:=rfl
@[simp] theorem z1n(id:BId)(g z off n:Nat):Zam (.bs id g z off n)=false:=rfl
@[simp] theorem zy7(id:BId)(g z i o:Nat):Zam (.ptr id g z i o)=false:=rfl
@[simp] theorem zy8(f:Nat)(id:BId)(g z i o:Nat):Zam (.fnp f id g z i o)=false:=rfl
@[simp] theorem zy9(f:Nat)(x:AV):Zam (.fnv f x)=false:=rfl
@[simp] theorem z3u(id:BId)(g z off n:Nat):scalar (.bs id g z off n)=false:=rfl
@[simp] theorem z1o(id:BId)(g z i o:Nat):scalar (.ptr id g z i o)=false:=rfl
@[simp] theorem z1p(f:Nat)(id:BId)(g z i o:Nat):scalar (.fnp f id g z i o)=false:=rfl
@[simp] theorem z1q(f:Nat)(x:AV):scalar (.fnv f x)=false:=rfl
@[simp] theorem zza(cs:List AV):Zam (.agg cs)=cs.all Zal:=rfl
@[simp] theorem z1r(cs:List AV):scalar (.agg cs)=cs.all Zal:=rfl
@[simp] theorem z1s(cs:List AV):scalar (.tup cs)=cs.all Zam:=rfl
@[simp] theorem z7g(id:BId)(g z off n:Nat):pureC (.bs id g z off n)=false:=rfl
@[simp] theorem z3v(id:BId)(g z i o:Nat):pureC (.ptr id g z i o)=false:=rfl
@[simp] theorem z3w(f:Nat)(id:BId)(g z i o:Nat):pureC (.fnp f id g z i o)=false:=rfl
@[simp] theorem z3x(f:Nat)(x:AV):pureC (.fnv f x)=true:=rfl
@[simp] theorem z3y(cs:List AV):pureC (.agg cs)=false:=rfl
@[simp] theorem z3z(cs:List AV):pureC (.tup cs)=false:=rfl
@[simp] theorem z7h(id:BId)(g z off n:Nat):noRef (.bs id g z off n)=false:=rfl
@[simp] theorem z30(id:BId)(g z i o:Nat):noRef (.ptr id g z i o)=false:=rfl
@[simp] theorem z32(f:Nat)(id:BId)(g z i o:Nat):noRef (.fnp f id g z i o)=false:=rfl
@[simp] theorem z33(f:Nat)(x:AV):noRef (.fnv f x)=true:=rfl
@[simp] theorem z34(cs:List AV):noRef (.agg cs)=cs.all pureC:=rfl
@[simp] theorem z35(cs:List AV):noRef (.tup cs)=false:=rfl
@[simp] theorem zaa3(id:BId)(g z off n:Nat):refs (.bs id g z off n)=[id]:=rfl
@[simp] theorem z7i(id:BId)(g z i o:Nat):refs (.ptr id g z i o)=[]:=rfl
@[simp] theorem z7j(f:Nat)(id:BId)(g z i o:Nat):refs (.fnp f id g z i o)=[]:=rfl
@[simp] theorem z7k(f:Nat)(x:AV):refs (.fnv f x)=[]:=rfl
@[simp] theorem zaev(id:BId)(g z off n:Nat):rfC (.bs id g z off n)=[id]:=rfl
@[simp] theorem zaa4(id:BId)(g z i o:Nat):rfC (.ptr id g z i o)=[id]:=rfl
@[simp] theorem zaa5(f:Nat)(id:BId)(g z i o:Nat):rfC (.fnp f id g z i o)=[id]:=rfl
@[simp] theorem zaa6(f:Nat)(x:AV):rfC (.fnv f x)=[]:=rfl
@[simp] theorem zaew(id:BId)(g z off n:Nat):rf1 (.bs id g z off n)=[id]:=rfl
@[simp] theorem zaa7(id:BId)(g z i o:Nat):rf1 (.ptr id g z i o)=[id]:=rfl
@[simp] theorem zaa8(f:Nat)(id:BId)(g z i o:Nat):rf1 (.fnp f id g z i o)=[id]:=rfl
@[simp] theorem zaa9(f:Nat)(x:AV):rf1 (.fnv f x)=[]:=rfl
@[simp] theorem zaex(id:BId)(g z off n:Nat):rfA (.bs id g z off n)=[id]:=rfl
@[simp] theorem zaba(id:BId)(g z i o:Nat):rfA (.ptr id g z i o)=[id]:=rfl
@[simp] theorem zabb(f:Nat)(id:BId)(g z i o:Nat):rfA (.fnp f id g z i o)=[id]:=rfl
@[simp] theorem zabc(f:Nat)(x:AV):rfA (.fnv f x)=[]:=rfl
def Zex:AV→List BId
 | .bs id .. => [id]
 | _=>[]
@[simp] theorem zabd(cs:List AV):rf1 (.agg cs)=cs.flatMap rfC:=rfl
@[simp] theorem zabe(cs:List AV):rfA (.agg cs)=cs.flatMap rfC:=rfl
@[simp] theorem zabf(cs:List AV):rfA (.tup cs)=cs.flatMap rf1:=rfl
@[simp] theorem zaey{σn:BId→BId}{σg:Nat→Nat}(id:BId)(g z off n:Nat):rlC σn σg (.bs id g z off n)=.bs (σn id) (σg g) z off n:=rfl
@[simp] theorem zabg{σn:BId→BId}{σg:Nat→Nat}(id:BId)(g z i o:Nat):rlC σn σg (.ptr id g z i o)=.ptr (σn id) (σg g) z i o:=rfl
@[simp] theorem zabh{σn:BId→BId}{σg:Nat→Nat}(f:Nat)(id:BId)(g z i o:Nat):rlC σn σg (.fnp f id g z i o)=.fnp f (σn id) (σg g) z i o:=rfl
@[simp] theorem zabi{σn:BId→BId}{σg:Nat→Nat}(f:Nat)(x:AV):rlC σn σg (.fnv f x)=.fnv f x:=rfl
@[simp] theorem zaez{σn:BId→BId}{σg:Nat→Nat}(id:BId)(g z off n:Nat):rl1 σn σg (.bs id g z off n)=.bs (σn id) (σg g) z off n:=rfl
@[simp] theorem zabj{σn:BId→BId}{σg:Nat→Nat}(id:BId)(g z i o:Nat):rl1 σn σg (.ptr id g z i o)=.ptr (σn id) (σg g) z i o:=rfl
@[simp] theorem zabk{σn:BId→BId}{σg:Nat→Nat}(f:Nat)(id:BId)(g z i o:Nat):rl1 σn σg (.fnp f id g z i o)=.fnp f (σn id) (σg g) z i o:=rfl
@[simp] theorem zabl{σn:BId→BId}{σg:Nat→Nat}(f:Nat)(x:AV):rl1 σn σg (.fnv f x)=.fnv f x:=rfl
@[simp] theorem zae0{σn:BId→BId}{σg:Nat→Nat}(id:BId)(g z off n:Nat):rlA σn σg (.bs id g z off n)=.bs (σn id) (σg g) z off n:=rfl
@[simp] theorem zabm{σn:BId→BId}{σg:Nat→Nat}(id:BId)(g z i o:Nat):rlA σn σg (.ptr id g z i o)=.ptr (σn id) (σg g) z i o:=rfl
@[simp] theorem zabn{σn:BId→BId}{σg:Nat→Nat}(f:Nat)(id:BId)(g z i o:Nat):rlA σn σg (.fnp f id g z i o)=.fnp f (σn id) (σg g) z i o:=rfl
@[simp] theorem zabo{σn:BId→BId}{σg:Nat→Nat}(f:Nat)(x:AV):rlA σn σg (.fnv f x)=.fnv f x:=rfl
@[simp] theorem zabp{σn:BId→BId}{σg:Nat→Nat}(cs:List AV):rl1 σn σg (.agg cs)=.agg (cs.map (rlC σn σg)):=rfl
@[simp] theorem zabq{σn:BId→BId}{σg:Nat→Nat}(cs:List AV):rlA σn σg (.agg cs)=.agg (cs.map (rlC σn σg)):=rfl
@[simp] theorem zabr{σn:BId→BId}{σg:Nat→Nat}(cs:List AV):rlA σn σg (.tup cs)=.tup (cs.map (rl1 σn σg)):=rfl
@[simp] theorem z36{h:Heap}(id:BId)(g z off n:Nat):Zaw h (.bs id g z off n)=(Z5 h id g z).isSome:=rfl
@[simp] theorem z1t{h:Heap}(id:BId)(g z i o:Nat):Zaw h (.ptr id g z i o)=(Z5 h id g z).isSome:=rfl
@[simp] theorem z1u{h:Heap}(f:Nat)(id:BId)(g z i o:Nat):Zaw h (.fnp f id g z i o)=(Z5 h id g z).isSome:=rfl
@[simp] theorem z1v{h:Heap}(f:Nat)(x:AV):Zaw h (.fnv f x)=true:=rfl
@[simp] theorem z38{h:Heap}(id:BId)(g z off n:Nat):Za5 h (.bs id g z off n)=(Z5 h id g z).isSome:=rfl
@[simp] theorem z1w{h:Heap}(id:BId)(g z i o:Nat):Za5 h (.ptr id g z i o)=(Z5 h id g z).isSome:=rfl
@[simp] theorem z1x{h:Heap}(f:Nat)(id:BId)(g z i o:Nat):Za5 h (.fnp f id g z i o)=(Z5 h id g z).isSome:=rfl
@[simp] theorem z1y{h:Heap}(f:Nat)(x:AV):Za5 h (.fnv f x)=true:=rfl
@[simp] theorem z7l{h:Heap}(id:BId)(g z off n:Nat):Zbq h (.bs id g z off n)=(Z5 h id g z).isSome:=rfl
@[simp] theorem z39{h:Heap}(id:BId)(g z i o:Nat):Zbq h (.ptr id g z i o)=(Z5 h id g z).isSome:=rfl
@[simp] theorem z4a{h:Heap}(f:Nat)(id:BId)(g z i o:Nat):Zbq h (.fnp f id g z i o)=(Z5 h id g z).isSome:=rfl
@[simp] theorem z4b{h:Heap}(f:Nat)(x:AV):Zbq h (.fnv f x)=true:=rfl
@[simp] theorem z1z{h:Heap}(cs:List AV):Za5 h (.agg cs)=cs.all (Zaw h):=rfl
@[simp] theorem z4c{h:Heap}(cs:List AV):Zbq h (.agg cs)=cs.all (Zaw h):=rfl
@[simp] theorem z4d{h:Heap}(cs:List AV):Zbq h (.tup cs)=cs.all (Za5 h):=rfl
@[simp] theorem z10(id:BId)(g z off n:Nat):cellsOf (.bs id g z off n)=some [.bs id g z off n]:=rfl
@[simp] theorem zzb(id:BId)(g z i o:Nat):cellsOf (.ptr id g z i o)=some [.ptr id g z i o]:=rfl
@[simp] theorem zzc(f:Nat)(id:BId)(g z i o:Nat):cellsOf (.fnp f id g z i o)=some [.fnp f id g z i o]:=rfl
@[simp] theorem zzd(f:Nat)(x:AV):cellsOf (.fnv f x)=some [.fnv f x]:=rfl
@[simp] theorem zze(cs:List AV):cellsOf (.agg cs)=some cs:=rfl
@[simp] theorem zae1(k:IntKind)(n:Int):Zex (.i k n)=[]:=rfl
@[simp] theorem zae2(t:Bool):Zex (.b t)=[]:=rfl
@[simp] theorem zae3(l:List UInt8):Zex (.s l)=[]:=rfl
@[simp] theorem z7m(v:Value):Zex (.raw v)=[]:=rfl
@[simp] theorem zabs(els:List (List AV))(f:Fl):Zex (.sl els f)=[]:=rfl
@[simp] theorem zabt(cs:List AV)(o:Nat):Zex (.ep cs o)=[]:=rfl
@[simp] theorem zabu(n:Nat):Zex (u8 n)=[]:=rfl
@[simp] theorem z7n(n:Nat):Zex (u32 n)=[]:=rfl
@[simp] theorem z7o(n:Nat):Zex (u64 n)=[]:=rfl
@[simp] theorem z4e :Zex .dead=[]:=rfl
@[simp] theorem zabv(id:BId)(g z off n:Nat):Zex (.bs id g z off n)=[id]:=rfl
@[simp] theorem z7p(id:BId)(g z i o:Nat):Zex (.ptr id g z i o)=[]:=rfl
@[simp] theorem z7q(f:Nat)(id:BId)(g z i o:Nat):Zex (.fnp f id g z i o)=[]:=rfl
@[simp] theorem z7r(f:Nat)(x:AV):Zex (.fnv f x)=[]:=rfl
@[simp] theorem z7s(cs:List AV):refs (.agg cs)=cs.flatMap Zex:=rfl
@[simp] theorem zxs:refs (.tup [])=[]:=rfl
@[simp] theorem z7t(h:Heap)(id:BId)(g z:Nat):Z5 h id g z=(match h.lookup id with | some bx=>if bx.gen=g∧bx.z=z then some bx else none | none=>none):=rfl
@[simp] theorem z4f(x:AV):wkIf true x=x:=rfl
@[simp] theorem z11(x:AV):wkIf false x=wkA x:=rfl
theorem zdv(n:Nat):IntKind.wrap .u32 (n:Int)=((n%4294967296:Nat):Int):=by
 simp[IntKind.wrap,IntKind.signed,IntKind.bits]
theorem zdw(n:Nat):IntKind.wrap .u64 (n:Int)=((n%18446744073709551616:Nat):Int):=by
 simp[IntKind.wrap,IntKind.signed,IntKind.bits]
theorem wrap_u8(n:Nat):IntKind.wrap .u8 (n:Int)=((n%256:Nat):Int):=by
 simp[IntKind.wrap,IntKind.signed,IntKind.bits]
def bX(o:Option (Ex×St))(f:St→Option (Ex×St)):Option (Ex×St):=o.bind fun r=>match r.1 with | .n=>f r.2 | _=>some r
def Zgd(id:Nat)(o:Option (Ex×St)):Option (Ex×St):=o.bind fun r=>match r.1 with | .x j=>if j=id then some (.n,r.2) else some r | _=>some r
def stX(o:Option St):Option (Ex×St):=o.map fun s=>(.n,s)
def bS(o:Option St)(f:St→Option St):Option St:=o.bind f
def cnX(v:AV)(x y:Option (Ex×St)):Option (Ex×St):=match v with | .b t=>if t then x else y | _=>none
def pS(o:Option AV)(d:Option Nat)(st:St):Option St:=o.map fun x=>⟨Zk st.env d x,st.heap,st.clk⟩
def pW(o:Option (AV×Heap×Nat))(d:Option Nat)(st:St):Option St:=o.map fun q=>⟨Zk st.env d q.1,q.2.1,q.2.2⟩
def pB(o:Option (AV×Heap))(d:Option Nat)(st:St):Option St:=o.map fun q=>⟨Zk st.env d q.1,q.2,st.clk⟩
def Zhg(res:List RV)(ex:Bool)(o:Option (Ex×St)):Option AV:=
 o.bind fun r=>match r.1 with | .x _=>none | .g _=>none | _=>(Zci r.2 res).bind fun x=>(frz r.2.heap x).map (wkIf ex)
def Zhv(res:List RV)(ex:Bool)(k:Nat)(o:Option (Ex×St)):Option (AV×Heap):=
 o.bind fun r=>match r.1 with | .x _=>none | .g _=>none | _=>(Zci r.2 res).map fun x=>let s:=Zcv ex k [0] ⟨[(0,x)],r.2.heap,r.2.clk⟩;(s.env.get 0,s.heap)
section
variable{o o':Option (Ex×St)}{f:St→Option (Ex×St)}{s:St}
@[congr] theorem z7u(h:o=o'):bX o f=bX o' f:=by rw[h]
@[congr] theorem z7v{o o':Option St}{f:St→Option St}(h:o=o'):bS o f=bS o' f:=by rw[h]
@[congr] theorem z4g{v v':AV}{x y:Option (Ex×St)}(h:v=v'):cnX v x y=cnX v' x y:=by rw[h]
@[simp] theorem bX_n:bX (some (.n,s)) f=f s:=rfl
@[simp] theorem bX_x(id:Nat):bX (some (.x id,s)) f=some (.x id,s):=rfl
@[simp] theorem bX_r:bX (some (.r,s)) f=some (.r,s):=rfl
@[simp] theorem zabw:bX none f=none:=rfl
@[simp] theorem zae4{c:Prop}[Decidable c]{a b:Option (Ex×St)}:bX (if c then a else b) f=if c then bX a f else bX b f:=by split<;>rfl
@[simp] theorem z7w(id:Nat){c:Prop}[Decidable c]{a b:Option (Ex×St)}:Zgd id (if c then a else b)=if c then Zgd id a else Zgd id b:=by split<;>rfl
@[simp] theorem z7x{res:List RV}{ex:Bool}{c:Prop}[Decidable c]{a b:Option (Ex×St)}:Zhg res ex (if c then a else b)=if c then Zhg res ex a else Zhg res ex b:=by split<;>rfl
@[simp] theorem z7y{res:List RV}{ex:Bool}{k:Nat}{c:Prop}[Decidable c]{a b:Option (Ex×St)}:Zhv res ex k (if c then a else b)=if c then Zhv res ex k a else Zhv res ex k b:=by split<;>rfl
@[simp] theorem zae5(id:Nat):Zgd id (some (.n,s))=some (.n,s):=rfl
@[simp] theorem z4h(id j:Nat):Zgd id (some (.x j,s))=if j=id then some (.n,s) else some (.x j,s):=rfl
@[simp] theorem zae6(id:Nat):Zgd id (some (.r,s))=some (.r,s):=rfl
@[simp] theorem z4i(id:Nat):Zgd id none=none:=rfl
@[simp] theorem z7z:stX (some s)=some (.n,s):=rfl
@[simp] theorem z71:stX none=none:=rfl
@[simp] theorem zabx{f:St→Option St}:bS (some s) f=f s:=rfl
@[simp] theorem zaby{f:St→Option St}:bS none f=none:=rfl
@[simp] theorem zag3{t:Bool}{x y:Option (Ex×St)}:cnX (.b t) x y=if t then x else y:=rfl
@[simp] theorem zabz{x:AV}{d:Option Nat}:pS (some x) d s=some ⟨Zk s.env d x,s.heap,s.clk⟩:=rfl
@[simp] theorem zab0{d:Option Nat}:pS none d s=none:=rfl
@[simp] theorem zab1{x:AV}{h:Heap}{c:Nat}{d:Option Nat}:pW (some (x,h,c)) d s=some ⟨Zk s.env d x,h,c⟩:=rfl
@[simp] theorem zab2{d:Option Nat}:pW none d s=none:=rfl
@[simp] theorem zab3{x:AV}{h:Heap}{d:Option Nat}:pB (some (x,h)) d s=some ⟨Zk s.env d x,h,s.clk⟩:=rfl
@[simp] theorem zab4{d:Option Nat}:pB none d s=none:=rfl
@[simp] theorem zae7{res:List RV}{ex:Bool}:Zhg res ex (some (.r,s))=(Zci s res).bind fun x=>(frz s.heap x).map (wkIf ex):=rfl
@[simp] theorem zae8{res:List RV}{ex:Bool}:Zhg res ex (some (.n,s))=(Zci s res).bind fun x=>(frz s.heap x).map (wkIf ex):=rfl
@[simp] theorem zae9{res:List RV}{ex:Bool}{k:Nat}:Zhv res ex k (some (.r,s))=(Zci s res).map fun x=>((Zcv ex k [0] ⟨[(0,x)],s.heap,s.clk⟩).env.get 0,(Zcv ex k [0] ⟨[(0,x)],s.heap,s.clk⟩).heap):=rfl
@[simp] theorem zafa{res:List RV}{ex:Bool}{k:Nat}:Zhv res ex k (some (.n,s))=(Zci s res).map fun x=>((Zcv ex k [0] ⟨[(0,x)],s.heap,s.clk⟩).env.get 0,(Zcv ex k [0] ⟨[(0,x)],s.heap,s.clk⟩).heap):=rfl
end
section
variable{T:Tbl}{k:Nat}{st:St}{d:Option Nat}
noncomputable abbrev X(T:Tbl)(k:Nat)(c:AX)(st:St):Option (Ex×St):=evX (orc T) T k c st
noncomputable abbrev R(T:Tbl)(l:List AO)(st:St):Option St:=Zdc (orc T) T l st
@[congr] theorem z4j{O:Orc}{c:AX}{st st':St}(h:st=st'):evX O T k c st=evX O T k c st':=by rw[h]
@[congr] theorem z4k{O:Orc}{op:AOp}{d:Option Nat}{st st':St}(h:st=st'):opX O T op d st=opX O T op d st':=by rw[h]
@[simp] theorem zafb:evX (orc T) T k .skip st=some (.n,st):=rfl
@[simp] theorem zag4{l:List AO}:evX (orc T) T k (.reg l) st=stX (Zdc (orc T) T l st):=rfl
@[simp] theorem zafc{l:List DO}:evX (orc T) T k (.draw l) st=stX (Zbf (orc T) T l st.env st.heap st.clk [] []):=rfl
@[simp] theorem zag5{a b:AX}:evX (orc T) T k (.seq a b) st=bX (evX (orc T) T k a st) fun s=>evX (orc T) T k b s:=rfl
@[simp] theorem zafd{c:Opd}{x y:AX}:evX (orc T) T k (.cond c x y) st=cnX (ev st.env.get c) (evX (orc T) T k x st) (evX (orc T) T k y st):=rfl
@[simp] theorem zab5{id:Nat}{c:AX}:evX (orc T) T k (.block id c) st=Zgd id (evX (orc T) T k c st):=rfl
@[simp] theorem zafe{c:AX}:evX (orc T) T k (.loop c) st=Zhf T k c st:=rfl
def scX(o:Option (Ex×St)):Option (Ex×St):=o.bind fun r=>match r.1 with | .g _=>none | _=>some r
@[congr] theorem z4l{o o':Option (Ex×St)}(h:o=o'):scX o=scX o':=by rw[h]
@[simp] theorem zag6{s:St}:scX (some (.n,s))=some (.n,s):=rfl
@[simp] theorem zag7{j:Nat}{s:St}:scX (some (.x j,s))=some (.x j,s):=rfl
@[simp] theorem zag8{s:St}:scX (some (.r,s))=some (.r,s):=rfl
@[simp] theorem zab6{c:Prop}[Decidable c]{a b:Option (Ex×St)}:scX (if c then a else b)=if c then scX a else scX b:=by split<;>rfl
@[simp] theorem zab7{c:AX}:evX (orc T) T k (.scope c) st=scX (evX (orc T) T k c st):=rfl
@[simp] theorem zab8{l:Nat}:evX (orc T) T k (.label l) st=some (.n,st):=rfl
@[simp] theorem zaff{l:Nat}:evX (orc T) T k (.goto l) st=some (.g l,st):=rfl
@[simp] theorem bX_g{l:Nat}{s:St}{f:St→Option (Ex×St)}:bX (some (.g l,s)) f=some (.g l,s):=rfl
@[simp] theorem zafg{id l:Nat}{s:St}:Zgd id (some (.g l,s))=some (.g l,s):=rfl
@[simp] theorem zafh{id:Nat}:evX (orc T) T k (.exit id) st=some (.x id,st):=rfl
@[simp] theorem zag9:evX (orc T) T k .ret st=some (.r,st):=rfl
@[simp] theorem zafi{c:AX}{g:Gh}:evX (orc T) T k (.note c g) st=bX (evX (orc T) T k c st) fun s=>stX (ghS k g s):=rfl
def prX(o:Option St)(f:St→Option (Ex×St)):Option (Ex×St):=o.bind f
@[congr] theorem z4m{o o':Option St}{f:St→Option (Ex×St)}(h:o=o'):prX o f=prX o' f:=by rw[h]
@[simp] theorem z73{s:St}{f:St→Option (Ex×St)}:prX (some s) f=f s:=rfl
@[simp] theorem zaha{c:AX}{g:Gh}:evX (orc T) T k (.pre g c) st=prX (ghS k g st) fun s=>evX (orc T) T k c s:=rfl
noncomputable def Zfe(k id:Nat)(g2:Gh)(o:Option (Ex×St)):Option (Ex×St):=bX (Zgd id o) fun s=>stX (ghS k g2 s)
noncomputable def Zw(T:Tbl)(k id:Nat)(g2:Gh)(c:AX)(st:St):Option (Ex×St):=Zfe k id g2 (Zhf T k c st)
@[congr] theorem zzf{id:Nat}{g2:Gh}{c:AX}{st st':St}(h:st=st'):Zw T k id g2 c st=Zw T k id g2 c st':=by rw[h]
@[congr] theorem z12{id:Nat}{g2:Gh}{o o':Option (Ex×St)}(h:o=o'):Zfe k id g2 o=Zfe k id g2 o':=by rw[h]
@[simp] theorem zafj{id j:Nat}{g2:Gh}{s:St}:Zfe k id g2 (some (.x j,s))=if j=id then stX (ghS k g2 s) else some (.x j,s):=by
 unfold Zfe;rw[z4h];split<;>simp
@[simp] theorem zafk{id:Nat}{g2:Gh}{s:St}:Zfe k id g2 (some (.r,s))=some (.r,s):=rfl
@[simp] theorem X_lp{id:Nat}{g g2:Gh}{c:AX}:evX (orc T) T k (.lp id g c g2) st=prX (ghS k g st) fun s=>Zw T k id g2 c s:=by
 simp only[evX,prX,Zw,Zfe,bX,Zgd,stX,Zhf];cases ghS k g st with
 | none=>rfl
 | some s=>
  simp only[Yu];cases (orc T).loop k c s with
  | none=>rfl
  | some r=>
   obtain⟨e,s'⟩:=r;cases e with
   | n=>rfl
   | r=>rfl
   | g l=>rfl
   | x j=>
    simp only[Yu];split<;>rfl
def Zff:Option (Ex×St)→Bool
 | some (.x _,_)=>true
 | some (.r,_)=>true
 | _=>false
@[simp] theorem zafl{j:Nat}{s:St}:Zff (some (.x j,s))=true:=rfl
@[simp] theorem zafm{s:St}:Zff (some (.r,s))=true:=rfl
@[simp] theorem z74{c:Prop}[Decidable c]{a b:Option (Ex×St)}:Zff (if c then a else b)=if c then Zff a else Zff b:=by split<;>rfl
@[congr] theorem z13{o o':Option (Ex×St)}(h:o=o'):Zff o=Zff o':=by rw[h]
theorem zor{c:AX}:Zhf T k c st=bX (evX (orc T) T k c st) fun s=>Zhf T k c s:=zv2 T k c st
theorem za4{α:Type}{id:Nat}{g2:Gh}{c:AX}(F:α→St)(I:α→Prop)(μ:α→Nat)(Q:Ex×St→Prop)
  (step:∀x,I x→(∃y,I y∧μ y<μ x∧evX (orc T) T k c (F x)=some (.n,F y))∨(∃r,Q r∧Zff (evX (orc T) T k c (F x))=true∧Zfe k id g2 (evX (orc T) T k c (F x))=some r)) :
  ∀x,I x→∃r,Q r∧Zw T k id g2 c (F x)=some r:=by
 have key:∀n x,μ x=n→I x→∃r,Q r∧Zw T k id g2 c (F x)=some r:=by
  intro n
  induction n using Nat.strongRecOn with
  | _ n ih=>
   intro x hn hI;unfold Zw;rw[zor];rcases step x hI with ⟨y,h1,h2,h3⟩ | ⟨r,h1,h2,h3⟩
   ·rw[h3,bX_n];exact ih (μ y) (hn▸h2) y rfl h1
   ·refine⟨r,h1,?_⟩;rw[←h3];generalize evX (orc T) T k c (F x)=o at h2 ⊢;cases o with
    | none=>cases h2
    | some q=>
     obtain⟨e,s⟩:=q;cases e
     ·cases h2
     ·rfl
     ·rfl
     ·cases h2
 exact fun x hI=>key _ x rfl hI
theorem zau{α:Type}{id:Nat}{g2:Gh}{c:AX}(F:α→St)(I:α→Prop)(μ:α→Nat)(G:α→Option (Ex×St))
  (step:∀x,I x→(∃y,I y∧μ y<μ x∧evX (orc T) T k c (F x)=some (.n,F y)∧G y=G x)∨(Zff (evX (orc T) T k c (F x))=true∧Zfe k id g2 (evX (orc T) T k c (F x))=G x)) :
  ∀x,I x→Zw T k id g2 c (F x)=G x:=by
 have key:∀n x,μ x=n→I x→Zw T k id g2 c (F x)=G x:=by
  intro n
  induction n using Nat.strongRecOn with
  | _ n ih=>
   intro x hn hI;unfold Zw;rw[zor];rcases step x hI with ⟨y,h1,h2,h3,h4⟩ | ⟨h2,h3⟩
   ·rw[h3,bX_n,←h4];exact ih (μ y) (hn▸h2) y rfl h1
   ·rw[←h3];generalize evX (orc T) T k c (F x)=o at h2 ⊢;cases o with
    | none=>cases h2
    | some q=>
     obtain⟨e,s⟩:=q;cases e
     ·cases h2
     ·rfl
     ·rfl
     ·cases h2
 exact fun x hI=>key _ x rfl hI
@[simp] theorem zahb:Zdc (orc T) T [] st=some st:=rfl
@[simp] theorem zafn{d:Option Nat}{op:AOp}{l:List AO}:Zdc (orc T) T (⟨d,none,op⟩::l) st=bS (opX (orc T) T op d st) fun s=>Zdc (orc T) T l s:=rfl
noncomputable def gS(T:Tbl)(x:AV)(want:Bool)(op:AOp)(d:Option Nat)(st:St):Option St:=gX (orc T) T x want op d st
@[congr] theorem z77{x x':AV}{want:Bool}{op:AOp}(h:x=x'):gS T x want op d st=gS T x' want op d st:=by rw[h]
@[simp] theorem zab9{d:Option Nat}{op:AOp}{l:List AO}{t:Nat}{w:Bool}:Zdc (orc T) T (⟨d,some (t,w),op⟩::l) st=bS (gS T (st.env.get t) w op d st) fun s=>Zdc (orc T) T l s:=rfl
@[simp] theorem gS_b{v want:Bool}{op:AOp}:gS T (.b v) want op d st=if v=want then opX (orc T) T op d st else some ⟨Zk st.env d (.tup []),st.heap,st.clk⟩:=rfl
@[simp] theorem zafo{vs:List AV}{want:Bool}{op:AOp}:gS T (.tup vs) want op d st=some ⟨Zk st.env d (.tup []),st.heap,st.clk⟩:=rfl
@[simp] theorem zahc{x}:opX (orc T) T (.mov x) d st=some ⟨Zk st.env d (ev st.env.get x),st.heap,st.clk⟩:=rfl
@[simp] theorem zafp{c a b}:opX (orc T) T (.pick c a b) d st=pS (Zfw (ev st.env.get c) (ev st.env.get a) (ev st.env.get b)) d st:=rfl
@[simp] theorem zaca{zs ps}:opX (orc T) T (.build zs ps) d st=pS ((Zfl zs (ps.map fun p=>(p.1,p.2.1,ev st.env.get p.2.2))).map .agg) d st:=rfl
@[simp] theorem zafq{n x}:opX (orc T) T (.load n x) d st=pS (Zd2 n st.heap (ev st.env.get x)) d st:=rfl
@[simp] theorem zahd{o x y}:opX (orc T) T (.bin o x y) d st=pS (Z4 o (ev st.env.get x) (ev st.env.get y)) d st:=rfl
@[simp] theorem zahe{g ls x y}:opX (orc T) T (.eqs g ls x y) d st=pS (Zgl g ls (ev st.env.get x) (ev st.env.get y)) d st:=rfl
@[simp] theorem zacb{g x}:opX (orc T) T (.eqnil g x) d st=pS (Zee g (ev st.env.get x)) d st:=rfl
@[simp] theorem zahf{g x y}:opX (orc T) T (.eqb g x y) d st=pS (Zgm g (ev st.env.get x) (ev st.env.get y)) d st:=rfl
@[simp] theorem O_un{o x}:opX (orc T) T (.un o x) d st=pS (Zfx o (ev st.env.get x)) d st:=rfl
@[simp] theorem zafr{n x}:opX (orc T) T (.conv n x) d st=pS (Za3 n (ev st.env.get x)) d st:=rfl
@[simp] theorem zahg{z x lo hi mx}:opX (orc T) T (.slc z x lo hi mx) d st=pS (Zfm z st.heap (ev st.env.get x) (evO st.env.get lo) (evO st.env.get hi) (evO st.env.get mx)) d st:=rfl
@[simp] theorem zacc{x lo hi}:opX (orc T) T (.slstr x lo hi) d st=pS (Zef (ev st.env.get x) (evO st.env.get lo) (evO st.env.get hi)) d st:=rfl
@[simp] theorem zahh{o x}:opX (orc T) T (.fad o x) d st=pS (Zfy o st.heap (ev st.env.get x)) d st:=rfl
@[simp] theorem zahi{o n x}:opX (orc T) T (.fld o n x) d st=pS (Zgn o n (ev st.env.get x)) d st:=rfl
@[simp] theorem zahj{z x i}:opX (orc T) T (.iad z x i) d st=pS (Zfz z st.heap (ev st.env.get x) (ev st.env.get i)) d st:=rfl
@[simp] theorem zahk{z n x i}:opX (orc T) T (.iaa z n x i) d st=pS (Zf0 z n st.heap (ev st.env.get x) (ev st.env.get i)) d st:=rfl
@[simp] theorem zahl{x i}:opX (orc T) T (.ixs x i) d st=pS (Zgo (ev st.env.get x) (ev st.env.get i)) d st:=rfl
@[simp] theorem zahm{z l n x i}:opX (orc T) T (.ixa z l n x i) d st=pS (Zd3 z l n (ev st.env.get x) (ev st.env.get i)) d st:=rfl
@[simp] theorem zahn{x}:opX (orc T) T (.len x) d st=pS (Zf1 st.heap (ev st.env.get x)) d st:=rfl
@[simp] theorem zafs{x}:opX (orc T) T (.lens x) d st=pS (Zfa (ev st.env.get x)) d st:=rfl
@[simp] theorem zaft{n}:opX (orc T) T (.lenc n) d st=some ⟨Zk st.env d (.i .i64 n),st.heap,st.clk⟩:=rfl
@[simp] theorem O_mm{m xs}:opX (orc T) T (.mm m xs) d st=pS (Zis m (xs.map (ev st.env.get))) d st:=rfl
@[simp] theorem zaho{x n}:opX (orc T) T (.ext x n) d st=pS (Zgp n (ev st.env.get x)) d st:=rfl
@[simp] theorem zafu{x}:opX (orc T) T (.nilc x) d st=pS (Zes st.heap (ev st.env.get x)) d st:=rfl
@[simp] theorem zacd{zs}:opX (orc T) T (.alloc zs) d st=pW (Zdr zs d st.heap st.clk) d st:=rfl
@[simp] theorem zace{n x v}:opX (orc T) T (.store n x v) d st=pW ((Zch n st.heap (ev st.env.get x) (ev st.env.get v)).map fun h'=>(.tup [],h',st.clk)) d st:=rfl
@[simp] theorem zahp{z zs l c}:opX (orc T) T (.mks z zs l c) d st=pW (Zfo z zs d st.heap st.clk (ev st.env.get l) (ev st.env.get c)) d st:=rfl
@[simp] theorem zahq{z x y}:opX (orc T) T (.app z x y) d st=pW (Zf5 z d st.heap st.clk (ev st.env.get x) (ev st.env.get y)) d st:=rfl
@[simp] theorem zafv{n xs}:opX (orc T) T (.xop (.box n) xs) d st=pW (Zau (.box n) (xs.map (ev st.env.get)) d st.heap st.clk) d st:=rfl
@[simp] theorem zafw{xs}:opX (orc T) T (.xop .cpy xs) d st=pW (Zau .cpy (xs.map (ev st.env.get)) d st.heap st.clk) d st:=rfl
@[simp] theorem zacf{xs}:opX (orc T) T (.xop .bstr xs) d st=pW (Zau .bstr (xs.map (ev st.env.get)) d st.heap st.clk) d st:=rfl
@[simp] theorem zacg{n xs}:opX (orc T) T (.xop (.arsl n) xs) d st=pW (Zau (.arsl n) (xs.map (ev st.env.get)) d st.heap st.clk) d st:=rfl
@[simp] theorem zach{xs}:opX (orc T) T (.xop .apps xs) d st=pW (Zau .apps (xs.map (ev st.env.get)) d st.heap st.clk) d st:=rfl
@[simp] theorem zafx{xs}:opX (orc T) T (.xop .bad xs) d st=pW (Zau .bad (xs.map (ev st.env.get)) d st.heap st.clk) d st:=rfl
@[simp] theorem zahr{n xs}:opX (orc T) T (.xop (.mkf n) xs) d st=pW (Zau (.mkf (Zl T n)) (xs.map (ev st.env.get)) d st.heap st.clk) d st:=rfl
@[simp] theorem zahs{n xs}:opX (orc T) T (.xop (.mkv n) xs) d st=pW (Zau (.mkv (Zl T n)) (xs.map (ev st.env.get)) d st.heap st.clk) d st:=rfl
@[simp] theorem z14{f:Nat}{x:AV}{dd:Option Nat}{h:Heap}{clk:Nat}:Zau (.mkv f) [x] dd h clk=if noRef x=true then some (.fnv f x,h,clk) else none:=rfl
@[simp] theorem z15{f:Nat}{id:BId}{g z i o:Nat}{dd:Option Nat}{h:Heap}{clk:Nat}:Zau (.mkf f) [.ptr id g z i o] dd h clk=some (.fnp f id g z i o,h,clk):=rfl
@[simp] theorem zaht{z zs n ps}:opX (orc T) T (.bsl z zs n ps) d st=pB (Zdk z zs n st.heap (ps.map fun p=>(p.1,ev st.env.get p.2))) d st:=rfl
@[simp] theorem zafy{u args}:opX (orc T) T (.call u args) d st=Zc (orc T) T u (args.map (ev st.env.get)) d st:=rfl
def cR(r:Option AV)(xs:List AV)(d:Option Nat)(st:St):Option St:=
 r.map fun r=>⟨Zk st.env d r,if scalar r then st.heap else Zj (xs.flatMap refs) st.heap,st.clk⟩
@[congr] theorem z78{r r':Option AV}{xs:List AV}(h:r=r'):cR r xs d st=cR r' xs d st:=by rw[h]
@[simp] theorem zaci{r:AV}{xs:List AV}:cR (some r) xs d st=some ⟨Zk st.env d r,if scalar r then st.heap else Zj (xs.flatMap refs) st.heap,st.clk⟩:=rfl
def bL(o:Option (List AV))(f:List AV→Option St):Option St:=o.bind f
@[congr] theorem z79{o o':Option (List AV)}{f:List AV→Option St}(h:o=o'):bL o f=bL o' f:=by rw[h]
@[simp] theorem zacj{xs:List AV}{f:List AV→Option St}:bL (some xs) f=f xs:=rfl
def Zii(h:Heap):List AV→Option (List AV)
 | []=>some []
 | x::l=>(Zas h x).bind fun y=>(Zii h l).map fun ys=>y::ys
theorem zsy(h:Heap):∀l:List AV,l.mapM (Zas h)=Zii h l
 | []=>rfl
 | x::l=>by simp only[Ya5,Zii,zsy h l,Yb5,Ycz,Option.map_eq_bind,Function.comp_def]
attribute [simp] Zii Zej Zav Zcc
theorem zaa{u:Nat}{xs:List AV}{np nt:Nat}{res:List RV}{b:AX}{ex:Bool}(hT:T u=some ⟨np,nt,res,b,none,ex⟩) :
  Zc (orc T) T u xs d st=bL (Zii st.heap xs) fun ys=>cR (Zb T u (ys.map (wkIf ex))) xs d st:=by
 unfold Zc bL cR Zb;rw[hT];simp only[zsy];congr 1
 funext ys
 cases (orc T).call u (ys.map (wkIf ex)) []<;>rfl
theorem zab{u:Nat}{xs:List AV}{np nt:Nat}{res:List RV}{b:AX}{ex:Bool}(hT:T u=some ⟨np,nt,res,b,none,ex⟩)(hn:xs.length=np)(hp:b.isPrim=none:=by rfl) :
  Zb T u xs=Zhg res ex (evX (orc T) T 0 b ⟨Zca xs,[],1⟩):=by
 unfold Zb Zhg;rw[zjj];simp only[Zb9,hT,hp];rw[if_pos ⟨hn,by simp⟩];simp only[Y5,Yas];cases evX (orc T) T 0 b ⟨Zca xs,[],1⟩ with
 | none=>rfl
 | some r=>
  obtain⟨e,s⟩:=r;cases e<;>simp only[Yu,Zi6,Yed]<;>(cases Zci s res<;>simp only[Option.bind_none,Yed,Yu]<;>cases frz s.heap _<;>rfl)
theorem zbp{u:Nat}{xs:List AV}{np nt:Nat}{res:List RV}{f:List AV→Option AV}{ex:Bool}(hT:T u=some ⟨np,nt,res,.prim f,none,ex⟩):Zb T u xs=f xs:=by
 unfold Zb;rw[zjj];simp only[Zb9,hT,AX.isPrim];cases f xs<;>simp
theorem zbl{u:Nat}{xs:List AV}{hb:Heap}{np nt:Nat}{res:List RV}{b:AX}{ms:List Bool}{ex:Bool}(hT:T u=some ⟨np,nt,res,b,some ms,ex⟩)(hn:xs.length=np)(hp:b.isPrim=none:=by rfl) :
  Zcj T u xs hb=Zhv res ex hb.length (evX (orc T) T hb.length b ⟨Zca xs,hb,hb.length+1⟩):=by
 unfold Zcj Zhv;rw[zjj];simp only[Zb9,hT,hp];rw[if_pos ⟨hn,by simp⟩];cases evX (orc T) T hb.length b ⟨Zca xs,hb,hb.length+1⟩ with
 | none=>rfl
 | some r=>
  obtain⟨e,s⟩:=r;cases e<;>simp only[Yu,Zi6]<;>(cases Zci s res<;>rfl)
def Zi8(l:List BId)(hp h1:Heap)(r:Option (AV×Heap))(d:Option Nat)(st:St):Option St:=
 r.bind fun r=>
  let hb':=r.2.map fun p=>(Zaq l (d.getD 0) p.1,Zab true (Zaq l (d.getD 0)) (Zax hp st.clk) p.2)
  let r':=rlA (Zaq l (d.getD 0)) (Zax hp st.clk) r.1
  if (hb'.map (·.1)).Nodup&&Zbq hb' r'&&Zf6 hb' then
   some ⟨Zk st.env d r',hb'++(h1.filter fun p=>!(l.contains p.1 || (hb'.map (·.1)).contains p.1)),st.clk+r.2.length+2⟩
  else none
@[congr] theorem z16{l:List BId}{hp h1:Heap}{r r':Option (AV×Heap)}(h:r=r'):Zi8 l hp h1 r d st=Zi8 l hp h1 r' d st:=by rw[h]
noncomputable def Zd8(ys:List AV)(h1:Heap)(l:List BId)(T:Tbl)(u:Nat)(ex:Bool)(d:Option Nat)(st:St):Option St:=
 if (Zdo h1 l).map (·.1)=l∧l.Nodup then
  Zi8 l (Zdo h1 l) h1 (Zcj T u (ys.map fun y=>rlA (inN l) (inG (Zdo h1 l)) (wkIf ex y)) ((Zdo h1 l).map fun p=>(inN l p.1,Zab ex (inN l) (inG (Zdo h1 l)) p.2))) d st
 else none
@[simp] theorem z4n{l:List BId}{hp h1:Heap}{r:AV}{h2:Heap}:Zi8 l hp h1 (some (r,h2)) d st =
  (if ((h2.map fun p=>(Zaq l (d.getD 0) p.1,Zab true (Zaq l (d.getD 0)) (Zax hp st.clk) p.2)).map (·.1)).Nodup&&Zbq (h2.map fun p=>(Zaq l (d.getD 0) p.1,Zab true (Zaq l (d.getD 0)) (Zax hp st.clk) p.2)) (rlA (Zaq l (d.getD 0)) (Zax hp st.clk) r)&&Zf6 (h2.map fun p=>(Zaq l (d.getD 0) p.1,Zab true (Zaq l (d.getD 0)) (Zax hp st.clk) p.2)) then
   some ⟨Zk st.env d (rlA (Zaq l (d.getD 0)) (Zax hp st.clk) r),(h2.map fun p=>(Zaq l (d.getD 0) p.1,Zab true (Zaq l (d.getD 0)) (Zax hp st.clk) p.2))++(h1.filter fun p=>!(l.contains p.1 || ((h2.map fun p=>(Zaq l (d.getD 0) p.1,Zab true (Zaq l (d.getD 0)) (Zax hp st.clk) p.2)).map (·.1)).contains p.1)),st.clk+h2.length+2⟩
  else none):=rfl
attribute [simp] Zd8 Zaq Zax inN inG Zd6 Zf6
theorem za1{u:Nat}{xs:List AV}{np nt:Nat}{res:List RV}{b:AX}{ms:List Bool}{ex:Bool}(hT:T u=some ⟨np,nt,res,b,some ms,ex⟩) :
  Zc (orc T) T u xs d st=bL (Zej st.heap ms xs) fun ys=>Zd8 ys (Zj (Zav ms xs) st.heap) (Zcu (Zj (Zav ms xs) st.heap) 40 (Zcc ms xs) []) T u ex d st:=by
 unfold Zc bL Zd8 Zi8 Zcj;rw[hT]
def bD(o:Option (AV×Bool))(f:AV×Bool→Option St):Option St:=o.bind f
@[congr] theorem z8a{o o':Option (AV×Bool)}{f:AV×Bool→Option St}(h:o=o'):bD o f=bD o' f:=by rw[h]
@[simp] theorem zack{e:AV×Bool}{f:AV×Bool→Option St}:bD (some e) f=f e:=rfl
def bWr(o:Option (AV×Heap×Nat))(f:AV×Heap×Nat→Option St):Option St:=o.bind f
@[congr] theorem z4o{o o':Option (AV×Heap×Nat)}{f:AV×Heap×Nat→Option St}(h:o=o'):bWr o f=bWr o' f:=by rw[h]
@[simp] theorem z8b{q:AV×Heap×Nat}{f:AV×Heap×Nat→Option St}:bWr (some q) f=f q:=rfl
def iP(b:Bool)(x:Option St):Option St:=if b then x else none
@[congr] theorem z8c{b b':Bool}{x:Option St}(h:b=b'):iP b x=iP b' x:=by rw[h]
@[simp] theorem zacl{x:Option St}:iP true x=x:=rfl
@[simp] theorem z17{h:Heap}:Zcd [] h=true:=by
 classical
 unfold Zcd;exact decide_eq_true fun p hp=>by cases hp
@[simp] theorem zzg{q:AOp×Env×AV}{l:Zbz}{h:Heap}:Zcd ((0,q)::l) h=Zcd l h:=by
 classical
 unfold Zcd;refine decide_eq_decide.2 ⟨fun h1 p hp=>h1 p (Yh _ hp),fun h1 p hp h0=>?_⟩;rcases Ym.1 hp with rfl | hp
 ·cases h0
 ·exact h1 p hp h0
@[simp] theorem zm9{n:Nat}{op:AOp}{e:Env}{x:AV}{l:Zbz}{h:Heap}(hs:Zgb op e.get h=some x):Zcd ((n,op,e,x)::l) h=Zcd l h:=by
 classical
 unfold Zcd;refine decide_eq_decide.2 ⟨fun h1 p hp=>h1 p (Yh _ hp),fun h1 p hp h0=>?_⟩;rcases Ym.1 hp with rfl | hp
 ·exact hs
 ·exact h1 p hp h0
theorem zp4{op:AOp}{e:Env}{older:List Heap}{x:AV}(hf:op.free=true):Zdv op e older x=true:=by unfold Zdv;rw[hf];rfl
theorem zsz{op:AOp}{e:Env}{x:AV}:Zdv op e [] x=true:=by
 classical
 unfold Zdv;rw[Ya0];exact .inr (decide_eq_true fun h' hh=>by cases hh)
theorem zp5{op:AOp}{e:Env}{h:Heap}{older:List Heap}{x:AV}(h1:Zd op e.get h=some x):Zdv op e (h::older) x=Zdv op e older x:=by
 classical
 unfold Zdv;congr 1;refine decide_eq_decide.2 ?_;simp only[Ym,forall_eq_or_imp,h1,true_and]
noncomputable def rD(T:Tbl)(q:Option (Nat×List AV))(o:DO)(r:List DO)(e:Env)(h:Heap)(clk:Nat)(older:List Heap)(pend:Zbz):Option St:=
 match q with
 | none=>bD (qX (orc T) T o.ao e h (older.take (older.length-o.lo))) fun x=>Zbf (orc T) T r (Zk e o.ao.dst x.1) h clk older (Zeg o older.length e x pend)
 | some p=>(Ze5 (orc T) T p.1 p.2).bind fun x=>Zbf (orc T) T r (Zk e o.ao.dst x) h clk older (if older.length<o.hi then (o.hi-older.length,o.ao.op,e,.tup p.2)::pend else pend)
@[simp] theorem zacm{o:DO}{r:List DO}{e:Env}{h:Heap}{clk:Nat}{older:List Heap}{pend:Zbz}:rD T none o r e h clk older pend=bD (qX (orc T) T o.ao e h (older.take (older.length-o.lo))) fun x=>Zbf (orc T) T r (Zk e o.ao.dst x.1) h clk older (Zeg o older.length e x pend):=rfl
noncomputable def bAV(o:Option AV)(f:AV→Option St):Option St:=o.bind f
@[simp] theorem z8d{x:AV}{f:AV→Option St}:bAV (some x) f=f x:=rfl
@[simp] theorem zacn{u:Nat}{ys:List AV}{o:DO}{r:List DO}{e:Env}{h:Heap}{clk:Nat}{older:List Heap}{pend:Zbz}:rD T (some (u,ys)) o r e h clk older pend=bAV (Ze5 (orc T) T u ys) fun x=>Zbf (orc T) T r (Zk e o.ao.dst x) h clk older (if older.length<o.hi then (o.hi-older.length,o.ao.op,e,.tup ys)::pend else pend):=rfl
open Classical in
noncomputable def rK(u:Nat)(xs ys:List AV)(older:List Heap):Option (Nat×List AV):=if decide (∀h'∈older,Zbe h' xs=some ys)=true then some (u,ys) else none
@[simp] theorem zaco{g:Option (Nat×Bool)}{e:Env}{h:Heap}{older:List Heap}:Zga g none e h older=none:=by cases g<;>rfl
@[simp] theorem zacp{g:Nat×Bool}{c:Option (Nat×List Opd)}{e:Env}{h:Heap}{older:List Heap}:Zga (some g) c e h older=none:=by cases c<;>rfl
noncomputable def rC(c:Bool)(u:Nat)(xs:List AV)(h:Heap)(older:List Heap):Option (Nat×List AV):=
 match c with
 | true=>none
 | false=>(Zbe h xs).bind fun ys=>rK u xs ys older
@[congr] theorem z8e{c c':Bool}{u:Nat}{xs:List AV}{h:Heap}{older:List Heap}(h1:c=c'):rC c u xs h older=rC c' u xs h older:=by rw[h1]
@[simp] theorem zacq{u:Nat}{xs:List AV}{h:Heap}{older:List Heap}:rC true u xs h older=none:=rfl
@[simp] theorem z8f{u:Nat}{xs:List AV}{h:Heap}{older:List Heap}:rC false u xs h older=(Zbe h xs).bind fun ys=>rK u xs ys older:=rfl
@[simp] theorem z4p{q:Nat×List Opd}{e:Env}{h:Heap}{older:List Heap}:Zga none (some q) e h older=rC ((q.2.map (ev e.get)).all noRef) q.1 (q.2.map (ev e.get)) h older:=by
 classical
 unfold Zga Zi4 rC;cases hc:(q.2.map (ev e.get)).all noRef with
 | true=>simp only[hc,if_true,Yed]
 | false=>
  simp only[hc,Y8,if_false];cases Zbe h (q.2.map (ev e.get)) with
  | none=>rfl
  | some ys=>
   simp only[Yu,rK];split<;>rfl
noncomputable def dX(T:Tbl)(wr:Bool)(o:DO)(r:List DO)(e:Env)(h:Heap)(clk:Nat)(older:List Heap)(pend:Zbz):Option St:=
 match wr with
 | true=>if o.ao.guard.isNone then bWr (stepW o.ao.op o.ao.dst e.get h clk) fun q=>iP (Zcd pend q.2.1) (Zbf (orc T) T r (Zk e o.ao.dst q.1) q.2.1 q.2.2 (h::older) (pend.map fun p=>(p.1-1,p.2))) else none
 | false=>rD T (Zga o.ao.guard o.ao.op.callN e h (older.take (older.length-o.lo))) o r e h clk older pend
@[congr] theorem zzh{l:List DO}{e e':Env}{h h':Heap}{clk clk':Nat}{older older':List Heap}{pend pend':Zbz}(h1:e=e')(h2:h=h')(h3:clk=clk')(h4:older=older')(h5:pend=pend'):Zbf (orc T) T l e h clk older pend=Zbf (orc T) T l e' h' clk' older' pend':=by rw[h1,h2,h3,h4,h5]
@[simp] theorem z4q{e:Env}{h:Heap}{clk:Nat}{older:List Heap}{pend:Zbz}:Zbf (orc T) T [] e h clk older pend=some ⟨e,h,clk⟩:=rfl
@[simp] theorem z18{o:DO}{r:List DO}{e:Env}{h:Heap}{clk:Nat}{older:List Heap}{pend:Zbz}:Zbf (orc T) T (o::r) e h clk older pend=dX T o.ao.op.writes o r e h clk older pend:=by
 unfold dX;rw[Zbf];cases o.ao.op.writes with
 | true=>rfl
 | false=>
  unfold rD;simp only;cases Zga o.ao.guard o.ao.op.callN e h (older.take (older.length-o.lo))<;>rfl
@[simp] theorem zacr{o:DO}{r:List DO}{e:Env}{h:Heap}{clk:Nat}{older:List Heap}{pend:Zbz}:dX T true o r e h clk older pend=if o.ao.guard.isNone then bWr (stepW o.ao.op o.ao.dst e.get h clk) fun q=>iP (Zcd pend q.2.1) (Zbf (orc T) T r (Zk e o.ao.dst q.1) q.2.1 q.2.2 (h::older) (pend.map fun p=>(p.1-1,p.2))) else none:=rfl
@[simp] theorem z8g{o:DO}{r:List DO}{e:Env}{h:Heap}{clk:Nat}{older:List Heap}{pend:Zbz}:dX T false o r e h clk older pend=rD T (Zga o.ao.guard o.ao.op.callN e h (older.take (older.length-o.lo))) o r e h clk older pend:=rfl
def dV(o:Option AV):Option (AV×Bool):=o.map fun x=>(x,true)
@[simp] theorem zacs{x:AV}:dV (some x)=some (x,true):=rfl
@[simp] theorem zact:dV none=none:=rfl
@[simp] theorem zacu{op:AOp}{e:Env}{h:Heap}{older:List Heap}:qX (orc T) T ⟨d,none,op⟩ e h older=dV (opD (orc T) T op e h older):=rfl
noncomputable def gD(T:Tbl)(x:AV)(want:Bool)(op:AOp)(e:Env)(h:Heap)(older:List Heap):Option (AV×Bool):=
 match x with
 | .b v=>if v=want then dV (opD (orc T) T op e h older) else some (.tup [],false)
 | .tup []=>some (.tup [],false)
 | _=>none
@[congr] theorem z8h{x x':AV}{want:Bool}{op:AOp}{e:Env}{h:Heap}{older:List Heap}(h1:x=x'):gD T x want op e h older=gD T x' want op e h older:=by rw[h1]
@[simp] theorem zacv{t:Nat}{want:Bool}{op:AOp}{e:Env}{h:Heap}{older:List Heap}:qX (orc T) T ⟨d,some (t,want),op⟩ e h older=gD T (e.get t) want op e h older:=rfl
@[simp] theorem gD_b{v want:Bool}{op:AOp}{e:Env}{h:Heap}{older:List Heap}:gD T (.b v) want op e h older=if v=want then dV (opD (orc T) T op e h older) else some (.tup [],false):=rfl
@[simp] theorem zafz{want:Bool}{op:AOp}{e:Env}{h:Heap}{older:List Heap}:gD T (.tup []) want op e h older=some (.tup [],false):=rfl
noncomputable def dC(o:Option AV)(op:AOp)(older:List Heap)(e:Env):Option AV:=o.bind fun x=>if Zdv op e older x then some x else none
@[congr] theorem z8i{o o':Option AV}{op:AOp}{older:List Heap}{e:Env}(h1:o=o'):dC o op older e=dC o' op older e:=by rw[h1]
@[simp] theorem zaf0{x:AV}{op:AOp}{e:Env}:dC (some x) op [] e=some x:=by
 unfold dC;rw[Yu,zsz]
 rfl
theorem zzi{x:AV}{op:AOp}{h:Heap}{older:List Heap}{e:Env}(h1:Zd op e.get h=some x):dC (some x) op (h::older) e=dC (some x) op older e:=by
 unfold dC;rw[Yu,Yu,zp5 h1]
theorem zbb{op:AOp}{h:Heap}{older:List Heap}{e:Env}(hf:op.free=true):((Zd op e.get h).bind fun x=>if Zdv op e older x then some x else none)=Zd op e.get h:=by
 cases Zd op e.get h with
 | none=>rfl
 | some x=>rw[Yu,zp4 hf];rfl
@[simp] theorem zahu{x}{e:Env}{h:Heap}{older:List Heap}:opD (orc T) T (.mov x) e h older=some (ev e.get x):=zbb (op:=.mov x) (h:=h) (older:=older) (e:=e) rfl
@[simp] theorem zahv{z y}{e:Env}{h:Heap}{older:List Heap}:opD (orc T) T (.app z (.c (.sl [] .nl)) y) e h older=Zfn z (ev e.get y):=rfl
@[simp] theorem z8j{z:Nat}{els:List (List AV)}{f:Fl}:Zfn z (.sl els f)=if (els.head?.all fun r=>r.length=z)∧els.length≤4294967296 then some (.sl els .an) else none:=rfl
@[simp] theorem zxt{z n y}:(AOp.app z (.t n) y).writes=true:=rfl
@[simp] theorem z19{z n y}:(AOp.app z (.t n) y).free=false:=rfl
@[simp] theorem zzj{z n y}:(AOp.app z (.t n) y).maker=true:=rfl
@[simp] theorem z2a{z y}:(AOp.app z (.c (.sl [] .nl)) y).writes=false:=rfl
@[simp] theorem z8k{z y}:(AOp.app z (.c (.sl [] .nl)) y).free=true:=rfl
@[simp] theorem z4r{z y}:(AOp.app z (.c (.sl [] .nl)) y).maker=false:=rfl
@[simp] theorem zaf1{c a b}{e:Env}{h:Heap}{older:List Heap}:opD (orc T) T (.pick c a b) e h older=Zfw (ev e.get c) (ev e.get a) (ev e.get b):=zbb (op:=.pick c a b) (h:=h) (older:=older) (e:=e) rfl
@[simp] theorem zacw{zs ps}{e:Env}{h:Heap}{older:List Heap}:opD (orc T) T (.build zs ps) e h older=(Zfl zs (ps.map fun p=>(p.1,p.2.1,ev e.get p.2.2))).map .agg:=zbb (op:=.build zs ps) (h:=h) (older:=older) (e:=e) rfl
@[simp] theorem zahw{o x y}{e:Env}{h:Heap}{older:List Heap}:opD (orc T) T (.bin o x y) e h older=Z4 o (ev e.get x) (ev e.get y):=zbb (op:=.bin o x y) (h:=h) (older:=older) (e:=e) rfl
@[simp] theorem zahx{g ls x y}{e:Env}{h:Heap}{older:List Heap}:opD (orc T) T (.eqs g ls x y) e h older=Zgl g ls (ev e.get x) (ev e.get y):=zbb (op:=.eqs g ls x y) (h:=h) (older:=older) (e:=e) rfl
@[simp] theorem zacx{g x}{e:Env}{h:Heap}{older:List Heap}:opD (orc T) T (.eqnil g x) e h older=Zee g (ev e.get x):=zbb (op:=.eqnil g x) (h:=h) (older:=older) (e:=e) rfl
@[simp] theorem zahy{g x y}{e:Env}{h:Heap}{older:List Heap}:opD (orc T) T (.eqb g x y) e h older=Zgm g (ev e.get x) (ev e.get y):=zbb (op:=.eqb g x y) (h:=h) (older:=older) (e:=e) rfl
@[simp] theorem D_un{o x}{e:Env}{h:Heap}{older:List Heap}:opD (orc T) T (.un o x) e h older=Zfx o (ev e.get x):=zbb (op:=.un o x) (h:=h) (older:=older) (e:=e) rfl
@[simp] theorem zaf2{k x}{e:Env}{h:Heap}{older:List Heap}:opD (orc T) T (.conv k x) e h older=Za3 k (ev e.get x):=zbb (op:=.conv k x) (h:=h) (older:=older) (e:=e) rfl
@[simp] theorem zacy{x lo hi}{e:Env}{h:Heap}{older:List Heap}:opD (orc T) T (.slstr x lo hi) e h older=Zef (ev e.get x) (evO e.get lo) (evO e.get hi):=zbb (op:=.slstr x lo hi) (h:=h) (older:=older) (e:=e) rfl
@[simp] theorem zahz{o n x}{e:Env}{h:Heap}{older:List Heap}:opD (orc T) T (.fld o n x) e h older=Zgn o n (ev e.get x):=zbb (op:=.fld o n x) (h:=h) (older:=older) (e:=e) rfl
@[simp] theorem zah0{x i}{e:Env}{h:Heap}{older:List Heap}:opD (orc T) T (.ixs x i) e h older=Zgo (ev e.get x) (ev e.get i):=zbb (op:=.ixs x i) (h:=h) (older:=older) (e:=e) rfl
@[simp] theorem zah1{z l n x i}{e:Env}{h:Heap}{older:List Heap}:opD (orc T) T (.ixa z l n x i) e h older=Zd3 z l n (ev e.get x) (ev e.get i):=zbb (op:=.ixa z l n x i) (h:=h) (older:=older) (e:=e) rfl
@[simp] theorem zaf3{x}{e:Env}{h:Heap}{older:List Heap}:opD (orc T) T (.lens x) e h older=Zfa (ev e.get x):=zbb (op:=.lens x) (h:=h) (older:=older) (e:=e) rfl
@[simp] theorem zaf4{n}{e:Env}{h:Heap}{older:List Heap}:opD (orc T) T (.lenc n) e h older=some (.i .i64 n):=zbb (op:=.lenc n) (h:=h) (older:=older) (e:=e) rfl
@[simp] theorem D_mm{m xs}{e:Env}{h:Heap}{older:List Heap}:opD (orc T) T (.mm m xs) e h older=Zis m (xs.map (ev e.get)):=zbb (op:=.mm m xs) (h:=h) (older:=older) (e:=e) rfl
@[simp] theorem zah2{x n}{e:Env}{h:Heap}{older:List Heap}:opD (orc T) T (.ext x n) e h older=Zgp n (ev e.get x):=zbb (op:=.ext x n) (h:=h) (older:=older) (e:=e) rfl
@[simp] theorem zaf5{n x}{e:Env}{h:Heap}{older:List Heap}:opD (orc T) T (.load n x) e h older=dC (Zd2 n h (ev e.get x)) (.load n x) older e:=rfl
@[simp] theorem zah3{z x lo hi mx}{e:Env}{h:Heap}{older:List Heap}:opD (orc T) T (.slc z x lo hi mx) e h older=dC (Zfm z h (ev e.get x) (evO e.get lo) (evO e.get hi) (evO e.get mx)) (.slc z x lo hi mx) older e:=rfl
@[simp] theorem zah4{o x}{e:Env}{h:Heap}{older:List Heap}:opD (orc T) T (.fad o x) e h older=dC (Zfy o h (ev e.get x)) (.fad o x) older e:=rfl
@[simp] theorem zah5{z x i}{e:Env}{h:Heap}{older:List Heap}:opD (orc T) T (.iad z x i) e h older=dC (Zfz z h (ev e.get x) (ev e.get i)) (.iad z x i) older e:=rfl
@[simp] theorem zah6{z n x i}{e:Env}{h:Heap}{older:List Heap}:opD (orc T) T (.iaa z n x i) e h older=dC (Zf0 z n h (ev e.get x) (ev e.get i)) (.iaa z n x i) older e:=rfl
@[simp] theorem zah7{x}{e:Env}{h:Heap}{older:List Heap}:opD (orc T) T (.len x) e h older=dC (Zf1 h (ev e.get x)) (.len x) older e:=rfl
@[simp] theorem zaf6{x}{e:Env}{h:Heap}{older:List Heap}:opD (orc T) T (.nilc x) e h older=dC (Zes h (ev e.get x)) (.nilc x) older e:=rfl
def dR(r:Option AV)(xs:List AV):Option AV:=if xs.all noRef then r else none
@[congr] theorem z8l{r r':Option AV}{xs:List AV}(h1:r=r'):dR r xs=dR r' xs:=by rw[h1]
@[simp] theorem zacz{r:AV}{xs:List AV}:dR (some r) xs=if xs.all noRef then some r else none:=rfl
theorem zav{u:Nat}{args:List Opd}{np nt:Nat}{res:List RV}{b:AX}{ex:Bool}{e:Env}{h:Heap}{older:List Heap}(hT:T u=some ⟨np,nt,res,b,none,ex⟩) :
  opD (orc T) T (.call u args) e h older=dR (Zb T u ((args.map (ev e.get)).map (wkIf ex))) (args.map (ev e.get)):=by
 unfold dR Zb;simp only[opD,hT,Option.isNone_none,Yem]
@[simp] theorem zah8{z zs n ps}{e:Env}{h:Heap}{older:List Heap}:opD (orc T) T (.bsl z zs n ps) e h older=if (ps.map fun p=>(p.1,ev e.get p.2)).all (fun p=>noRef p.2) then (Zdk z zs n [] (ps.map fun p=>(p.1,ev e.get p.2))).map (·.1) else none:=rfl
@[congr] theorem zzk{tl l:List AO}{e e':Env}{h h':Heap}{clk clk':Nat}(h1:e=e')(h2:h=h')(h3:clk=clk'):Zc1 (orc T) T tl l e h clk=Zc1 (orc T) T tl l e' h' clk':=by rw[h1,h2,h3]
@[simp] theorem z4s{tl:List AO}{e:Env}{h:Heap}{clk:Nat}:Zc1 (orc T) T tl [] e h clk=Zdc (orc T) T tl ⟨e,h,clk⟩:=rfl
@[simp] theorem z2b{tl r:List AO}{o:AO}{e:Env}{h:Heap}{clk:Nat}:Zc1 (orc T) T tl (o::r) e h clk=bD (qX (orc T) T o e h []) fun x=>Zc1 (orc T) T tl r (Zk e o.dst x.1) h clk:=rfl
@[simp] theorem z4t{tl:List AO}{h0:Heap}{c0:Nat}{X:Heap}{e:Env}{h:Heap}{clk:Nat}:Zaz (orc T) T tl h0 c0 X [] e h clk=Zdc (orc T) T tl ⟨e,h,clk⟩:=rfl
noncomputable def kM(T:Tbl)(tl:List AO)(h0:Heap)(c0:Nat)(X:Heap)(op:AOp)(d:Nat)(r:List AO)(e:Env)(h:Heap)(q:Option (AV×Heap×Nat)):Option St:=
 q.bind fun q=>if ((h.lookup (.loc d)).isNone&&Zg7 c0 op e q.2.1)=true then Zaz (orc T) T tl h0 c0 X r (Zk e (some d) q.1) (q.2.1++h) q.2.2 else none
@[simp] theorem zac0{tl:List AO}{h0:Heap}{c0:Nat}{X:Heap}{op:AOp}{d:Nat}{r:List AO}{e:Env}{h:Heap}{q:AV×Heap×Nat}:kM T tl h0 c0 X op d r e h (some q)=if ((h.lookup (.loc d)).isNone&&Zg7 c0 op e q.2.1)=true then Zaz (orc T) T tl h0 c0 X r (Zk e (some d) q.1) (q.2.1++h) q.2.2 else none:=rfl
noncomputable def kN(T:Tbl)(tl:List AO)(h0:Heap)(c0:Nat)(X:Heap)(op:AOp)(d:Nat)(r:List AO)(e:Env)(h:Heap)(q:Option (AV×Heap×Nat)):Option St:=
 q.bind fun q=>if Zg7 c0 op e (q.2.1.take 1)=true then Zaz (orc T) T tl h0 c0 X r (Zk e (some d) q.1) (q.2.1.take 1++h) q.2.2 else none
@[simp] theorem zac1{tl:List AO}{h0:Heap}{c0:Nat}{X:Heap}{op:AOp}{d:Nat}{r:List AO}{e:Env}{h:Heap}{q:AV×Heap×Nat}:kN T tl h0 c0 X op d r e h (some q)=if Zg7 c0 op e (q.2.1.take 1)=true then Zaz (orc T) T tl h0 c0 X r (Zk e (some d) q.1) (q.2.1.take 1++h) q.2.2 else none:=rfl
noncomputable def uX(T:Tbl)(w:Option (BId×Box))(tl:List AO)(h0:Heap)(c0:Nat)(X:Heap)(op:AOp)(d:Nat)(r:List AO)(e:Env)(h:Heap)(clk:Nat):Option St:=
 match w with
 | none=>kM T tl h0 c0 X op d r e h (stepW op (some d) e.get [] clk)
 | some p=>kN T tl h0 c0 X op d r e h (stepW op (some d) e.get [p] clk)
@[simp] theorem zac2{tl:List AO}{h0:Heap}{c0:Nat}{X:Heap}{op:AOp}{d:Nat}{r:List AO}{e:Env}{h:Heap}{clk:Nat}:uX T none tl h0 c0 X op d r e h clk=kM T tl h0 c0 X op d r e h (stepW op (some d) e.get [] clk):=rfl
@[simp] theorem zac3{tl:List AO}{h0:Heap}{c0:Nat}{X:Heap}{op:AOp}{d:Nat}{r:List AO}{e:Env}{h:Heap}{clk:Nat}{p:BId×Box}:uX T (some p) tl h0 c0 X op d r e h clk=kN T tl h0 c0 X op d r e h (stepW op (some d) e.get [p] clk):=rfl
@[simp] theorem z2c{c0:Nat}{h0 X h:Heap}{zs:List AV}{e:Env}:Zg8 c0 h0 X h (.alloc zs) e=none:=rfl
@[simp] theorem z8m{c0:Nat}{h0 X h:Heap}{z:Nat}{zs:List AV}{l c:Opd}{e:Env}:Zg8 c0 h0 X h (.mks z zs l c) e=none:=rfl
@[simp] theorem z8n{c0:Nat}{h0 X h:Heap}{k:XOp}{xs:List Opd}{e:Env}:Zg8 c0 h0 X h (.xop k xs) e=none:=rfl
@[simp] theorem z8o{c0:Nat}{h0 X h:Heap}{z:Nat}{x y:Opd}{e:Env}:Zg8 c0 h0 X h (.app z x y) e=Zig c0 h0 X h (ev e.get x):=rfl
@[simp] theorem zac4{c0:Nat}{h0 X h:Heap}{l:List (List AV)}{f:Fl}:Zig c0 h0 X h (.sl l f)=none:=rfl
@[simp] theorem zac5{c0:Nat}{h0 X h:Heap}{b:BId}{g z o n:Nat}:Zig c0 h0 X h (.bs b g z o n)=Zi5 c0 (h0.lookup b) (X.lookup b) b (h.lookup b):=rfl
@[simp] theorem z4u{c0:Nat}{b:BId}{x o:Box}:Zi5 c0 none (some x) b (some o)=if o.gen<c0 then some (b,o) else none:=rfl
attribute [simp] Zkg
@[simp] theorem z4v{e:Env}:Zd7 [] e=[]:=rfl
@[simp] theorem z2d{o:AO}{r:List AO}{e:Env}:Zd7 (o::r) e=match o.op with | .mov x=>Zd7 r (Zk e o.dst (ev e.get x)) | .app _ x _=>Zkg (ev e.get x)++Zd7 r (Zk e o.dst .dead) | _=>Zd7 r (Zk e o.dst .dead):=rfl
@[simp] theorem zzl{h:Heap}:Zeh [] h=h:=rfl
@[simp] theorem zxu{b:BId}{ids:List BId}{h:Heap}:Zeh (b::ids) h=h.filter fun p=>!(b::ids).contains p.1:=rfl
noncomputable def kB(T:Tbl)(tl:List AO)(h0:Heap)(c0:Nat)(X:Heap)(d:Nat)(r:List AO)(e:Env)(h:Heap)(q:Option (AV×Heap×Nat)):Option St:=
 q.bind fun q=>if q.2.1.all (fun p=>(h.lookup p.1).isNone)=true then Zaz (orc T) T tl h0 c0 X r (Zk e (some d) q.1) (q.2.1++h) q.2.2 else none
@[simp] theorem zac6{tl:List AO}{h0:Heap}{c0:Nat}{X:Heap}{d:Nat}{r:List AO}{e:Env}{h:Heap}{q:AV×Heap×Nat}:kB T tl h0 c0 X d r e h (some q)=if q.2.1.all (fun p=>(h.lookup p.1).isNone)=true then Zaz (orc T) T tl h0 c0 X r (Zk e (some d) q.1) (q.2.1++h) q.2.2 else none:=rfl
noncomputable def lX(T:Tbl)(b:Option (Nat×List Opd))(tl:List AO)(h0:Heap)(c0:Nat)(X:Heap)(o:AO)(r:List AO)(e:Env)(h:Heap)(clk:Nat):Option St:=
 match b with
 | some ua=>
  match o.guard,o.dst with
  | none,some d=>kB T tl h0 c0 X d r e h (Zep (orc T) T ua.1 (ua.2.map (ev e.get)) d clk)
  | _,_=>none
 | none=>bD (qX (orc T) T o e h0 []) fun x=>if Zgc c0 o.op e (gnA x.1)=true then Zaz (orc T) T tl h0 c0 X r (Zk e o.dst x.1) h clk else none
@[simp] theorem zac7{tl r:List AO}{h0:Heap}{c0:Nat}{X:Heap}{op:AOp}{dd u:Nat}{args:List Opd}{e:Env}{h:Heap}{clk:Nat}:lX T (some (u,args)) tl h0 c0 X ⟨some dd,none,op⟩ r e h clk=kB T tl h0 c0 X dd r e h (Zep (orc T) T u (args.map (ev e.get)) dd clk):=rfl
@[simp] theorem zac8{tl r:List AO}{h0:Heap}{c0:Nat}{X:Heap}{o:AO}{e:Env}{h:Heap}{clk:Nat}:lX T none tl h0 c0 X o r e h clk=bD (qX (orc T) T o e h0 []) fun x=>if Zgc c0 o.op e (gnA x.1)=true then Zaz (orc T) T tl h0 c0 X r (Zk e o.dst x.1) h clk else none:=rfl
noncomputable def tX(T:Tbl)(tl:List AO)(h0:Heap)(c0:Nat)(X:Heap)(r:List AO)(b:Bool)(e:Env)(q:Option Heap)(clk:Nat):Option St:=
 q.bind fun h=>if b=true then Zaz (orc T) T tl h0 c0 X r e h clk else none
@[simp] theorem zac9{tl:List AO}{h0:Heap}{c0:Nat}{X:Heap}{r:List AO}{e:Env}{h:Heap}{clk:Nat}:tX T tl h0 c0 X r true e (some h) clk=Zaz (orc T) T tl h0 c0 X r e h clk:=rfl
noncomputable def sX(T:Tbl)(b:Bool)(tl:List AO)(h0:Heap)(c0:Nat)(X:Heap)(o:AO)(r:List AO)(e:Env)(h:Heap)(clk:Nat):Option St:=
 match b with
 | true=>
  match o.guard,o.dst with
  | none,none=>(stepW o.op none e.get h clk).bind fun q=>if Zfd X o.op e=true then Zaz (orc T) T tl h0 c0 X r e q.2.1 q.2.2 else none
  | _,_=>none
 | false=>lX T o.op.lentN tl h0 c0 X o r e h clk
@[simp] theorem zada{tl r:List AO}{h0:Heap}{c0:Nat}{X:Heap}{n:Nat}{x v:Opd}{e:Env}{h:Heap}{clk:Nat}:sX T true tl h0 c0 X ⟨none,none,.store n x v⟩ r e h clk=tX T tl h0 c0 X r (Zfd X (.store n x v) e) e (Zch n h (ev e.get x) (ev e.get v)) clk:=by
 unfold sX tX;simp only[stepW];cases Zch n h (ev e.get x) (ev e.get v)<;>rfl
@[simp] theorem z8p{tl r:List AO}{h0:Heap}{c0:Nat}{X:Heap}{o:AO}{e:Env}{h:Heap}{clk:Nat}:sX T false tl h0 c0 X o r e h clk=lX T o.op.lentN tl h0 c0 X o r e h clk:=rfl
noncomputable def Zkh(r:Option (AV×Heap))(d clk:Nat):Option (AV×Heap×Nat):=
 r.bind fun r=>
  let hb':=r.2.map fun p=>(Zaq [] d p.1,Zab true (Zaq [] d) (Zax [] clk) p.2)
  let r':=rlA (Zaq [] d) (Zax [] clk) r.1
  if (hb'.map (·.1)).Nodup∧geB clk (gnA r')=true∧geH clk hb'=true then some (r',hb',clk+(r.2.length+2)) else none
@[simp] theorem zzm{r:AV×Heap}{dd clk:Nat}:Zkh (some r) dd clk=if ((r.2.map fun p=>(Zaq [] dd p.1,Zab true (Zaq [] dd) (Zax [] clk) p.2)).map (·.1)).Nodup∧geB clk (gnA (rlA (Zaq [] dd) (Zax [] clk) r.1))=true∧geH clk (r.2.map fun p=>(Zaq [] dd p.1,Zab true (Zaq [] dd) (Zax [] clk) p.2))=true then some (rlA (Zaq [] dd) (Zax [] clk) r.1,r.2.map fun p=>(Zaq [] dd p.1,Zab true (Zaq [] dd) (Zax [] clk) p.2),clk+(r.2.length+2)) else none:=rfl
noncomputable def mX(T:Tbl)(b:Bool)(tl:List AO)(h0:Heap)(c0:Nat)(X:Heap)(o:AO)(r:List AO)(e:Env)(h:Heap)(clk:Nat):Option St:=
 match b with
 | true=>
  match o.guard,o.dst with
  | none,some d=>uX T (Zg8 c0 h0 X h o.op e) tl h0 c0 X o.op d r e h clk
  | _,_=>none
 | false=>sX T o.op.isStore tl h0 c0 X o r e h clk
@[simp] theorem z2e{tl r:List AO}{h0:Heap}{c0:Nat}{X:Heap}{o:AO}{e:Env}{h:Heap}{clk:Nat}:Zaz (orc T) T tl h0 c0 X (o::r) e h clk=mX T (AOp.maker o.op) tl h0 c0 X o r e h clk:=by
 unfold mX;simp only[Zaz];cases AOp.maker o.op with
 | false=>
  unfold sX;simp only;cases AOp.isStore o.op with
  | true=>
   obtain⟨dd,g,op⟩:=o;cases g<;>cases dd<;>rfl
  | false=>
   unfold lX;simp only;cases AOp.lentN o.op with
   | none=>rfl
   | some ua=>
    obtain⟨dd,g,op⟩:=o;cases g<;>cases dd<;>rfl
 | true=>
  obtain⟨dd,g,op⟩:=o;cases g<;>cases dd<;>rfl
@[simp] theorem zadb{tl r:List AO}{h0:Heap}{c0:Nat}{X:Heap}{op:AOp}{dd:Nat}{e:Env}{h:Heap}{clk:Nat}:mX T true tl h0 c0 X ⟨some dd,none,op⟩ r e h clk=uX T (Zg8 c0 h0 X h op e) tl h0 c0 X op dd r e h clk:=rfl
@[simp] theorem z8q{tl r:List AO}{h0:Heap}{c0:Nat}{X:Heap}{o:AO}{e:Env}{h:Heap}{clk:Nat}:mX T false tl h0 c0 X o r e h clk=sX T o.op.isStore tl h0 c0 X o r e h clk:=rfl
@[simp] theorem zadc{hd tl:List AO}:evX (orc T) T k (.drawM hd tl) st=stX (Zaz (orc T) T tl (Zeh (Zd7 hd st.env) st.heap) st.clk st.heap hd st.env st.heap st.clk):=rfl
@[simp] theorem zah9{n x}:opX (orc T) T (.ifc n x) d st=some ⟨Zk st.env d (.ifc (Zl T n) (ev st.env.get x)),st.heap,st.clk⟩:=rfl
noncomputable def iS(T:Tbl)(x:AV)(nm:String)(n u:Nat)(args:List AV)(d:Option Nat)(st:St):Option St:=
 match x with
 | .ifc t y=>if t=Zl T n∧(nm,u)∈Zbu T n then Zc (orc T) T u (y::args) d st else none
 | .fnv f x=>if nm="()"∧f=Zl T n∧Zgk T n=some u then Zc (orc T) T u (x::args) d st else none
 | .fnp f id g z i o=>if nm="()"∧f=Zl T n∧Zgk T n=some u then Zc (orc T) T u (args++[.ptr id g z i o]) d st else none
 | _=>none
@[simp] theorem zaia{nm n u r args}:opX (orc T) T (.inv nm n u r args) d st=iS T (ev st.env.get r) nm n u (args.map (ev st.env.get)) d st:=by
 simp only[opX];cases ev st.env.get r<;>rfl
@[simp] theorem zaib{n x}{e:Env}{h:Heap}{older:List Heap}:opD (orc T) T (.ifc n x) e h older=some (.ifc (Zl T n) (ev e.get x)):=rfl
noncomputable def dI(T:Tbl)(u:Nat)(xs:List AV):Option AV:=
 match T u with
 | none=>none
 | some af=>if (af.lent.isNone&&xs.all noRef)=true then ((orc T).call u (xs.map (wkIf af.exact)) []).map (·.1) else none
noncomputable def iD(T:Tbl)(x:AV)(nm:String)(n u:Nat)(args:List AV):Option AV:=
 match x with
 | .ifc t y=>if t=Zl T n∧(nm,u)∈Zbu T n then dI T u (drp1 y::args) else none
 | _=>none
@[simp] theorem zaic{nm n u r args}{e:Env}{h:Heap}{older:List Heap}:opD (orc T) T (.inv nm n u r args) e h older=iD T (ev e.get r) nm n u (args.map (ev e.get)):=by
 simp only[opD];cases ev e.get r<;>rfl
@[simp] theorem zadd{hd tl:List AO}:evX (orc T) T k (.drawT hd tl) st=stX (Zc1 (orc T) T tl hd st.env st.heap st.clk):=rfl
attribute [simp] Zeg Zau Zhe Zh5 Zhu Zg4 Zg5 ghS Zcv Zcu Zjv Zdo Zcb Zbr kids Zab
attribute [simp] gnA gnR Zgc Zg7 Zev Zdt AOp.maker drp1 drpC AOp.lentN AOp.isStore Zfd geB geH
attribute [simp] AOp.writes AOp.free Zfm Zei Zen Zch Zdr Zfo
attribute [simp] AOp.callN Zgb Zbe Zg3 shR
end
end Go.Ab
end
section
namespace Go.Ab
open Go.RowKit
def Zfr(a b:Nat):Nat:=(((a:Int)-b)%4294967296).toNat
def Zh6(a b:Nat):Nat:=(((a:Int)-b)%18446744073709551616).toNat
def Zi9(a b:Nat):Nat:=(((a:Int)-b)%256).toNat
theorem zzn{a b:Nat}(h:b≤a)(h2:a<256):Zi9 a b=a-b:=by unfold Zi9;omega
theorem zs0(n:Int):IntKind.wrap .u32 n=(((n%4294967296).toNat:Nat):Int):=by
 simp[IntKind.wrap,IntKind.signed,IntKind.bits];omega
theorem zlf(n:Int):IntKind.wrap .u64 n=(((n%18446744073709551616).toNat:Nat):Int):=by
 simp[IntKind.wrap,IntKind.signed,IntKind.bits];omega
theorem zv3(n:Int):IntKind.wrap .u8 n=(((n%256).toNat:Nat):Int):=by
 simp[IntKind.wrap,IntKind.signed,IntKind.bits];omega
@[simp] theorem z4w(n:Int)(h1:-9223372036854775808≤n)(h2:n<9223372036854775808):IntKind.wrap .i64 n=n:=zac n ⟨h1,h2⟩
@[simp] theorem z2f(a b:Nat):((a:Int)+(b:Int)).toNat=a+b:=by omega
@[simp] theorem zzo(a b:Nat):(0:Int)≤(a:Int)+(b:Int):=by omega
@[simp] theorem zzp(a:Nat):(0:Int)≤(a:Int)+1:=by omega
@[simp] theorem zzq(a b:Nat):((a:Int)+(b:Int)+1).toNat=a+b+1:=by omega
@[simp] theorem zxv(a b:Nat):(0:Int)≤(a:Int)+(b:Int)+1:=by omega
section
variable(a b:Nat)(k:IntKind)(n:Int)
@[simp] theorem zaid:Z4 .add (u32 a) (u32 b)=some (u32 ((a+b)%4294967296)):=by
 simp only[u32,zn8,←Ydm,zdv]
@[simp] theorem zaie:Z4 .add (u64 a) (u64 b)=some (u64 ((a+b)%18446744073709551616)):=by
 simp only[u64,zn8,←Ydm,zdw]
@[simp] theorem zaif:Z4 .mul (u32 a) (u32 b)=some (u32 ((a*b)%4294967296)):=by
 simp only[u32,zoa,←Yd9,zdv]
@[simp] theorem zaig:Z4 .mul (u64 a) (u64 b)=some (u64 ((a*b)%18446744073709551616)):=by
 simp only[u64,zoa,←Yd9,zdw]
@[simp] theorem zaf7:Z4 .sub (u32 a) (u32 b)=some (u32 (Zfr a b)):=by
 simp only[u32,zn9,zs0,Zfr]
@[simp] theorem zaih:Z4 .sub (u8 a) (u8 b)=some (u8 (Zi9 a b)):=by
 simp only[u8,zn9,zv3,Zi9]
theorem zos:((a:Int).tdiv (b:Int))=((a/b:Nat):Int):=by rw[Int.ofNat_tdiv]
theorem zot:((a:Int).tmod (b:Int))=((a%b:Nat):Int):=by rw[Int.ofNat_tmod]
@[simp] theorem zaii:Z4 .quo (u32 a) (u32 b)=if b=0 then none else some (u32 (a/b%4294967296)):=by
 simp only[u32,zob,zos,zdv,Yct]
@[simp] theorem zaij:Z4 .quo (u64 a) (u64 b)=if b=0 then none else some (u64 (a/b%18446744073709551616)):=by
 simp only[u64,zob,zos,zdw,Yct]
@[simp] theorem zaik:Z4 .rem (u32 a) (u32 b)=if b=0 then none else some (u32 (a%b)):=by
 simp only[u32,zoc,zot,Yct]
@[simp] theorem zail:Z4 .rem (u64 a) (u64 b)=if b=0 then none else some (u64 (a%b)):=by
 simp only[u64,zoc,zot,Yct]
theorem bvn(w:Nat):(BitVec.ofInt w (a:Int)).toNat=a%2^w:=by simp
@[simp] theorem or32:Z4 .or (u32 a) (u32 b)=some (u32 ((a ||| b)%4294967296)):=by
 have h:=Nat.or_mod_two_pow (a:=a) (b:=b) (n:=32);have e:((BitVec.ofInt 32 (a:Int) ||| BitVec.ofInt 32 (b:Int)).toNat)=(a ||| b)%2^32:=by rw[BitVec.toNat_or,bvn,bvn,←h]
 show some (AV.i .u32 (IntKind.wrap .u32 (((BitVec.ofInt 32 (a:Int) ||| BitVec.ofInt 32 (b:Int)).toNat:Nat):Int)))=_;rw[e,zdv];simp[u32]
@[simp] theorem or64:Z4 .or (u64 a) (u64 b)=some (u64 ((a ||| b)%18446744073709551616)):=by
 have h:=Nat.or_mod_two_pow (a:=a) (b:=b) (n:=64);have e:((BitVec.ofInt 64 (a:Int) ||| BitVec.ofInt 64 (b:Int)).toNat)=(a ||| b)%2^64:=by rw[BitVec.toNat_or,bvn,bvn,←h]
 show some (AV.i .u64 (IntKind.wrap .u64 (((BitVec.ofInt 64 (a:Int) ||| BitVec.ofInt 64 (b:Int)).toNat:Nat):Int)))=_;rw[e,zdw];simp[u64]
theorem zs1(m:Nat):((a:Int)*2^m)=((a*2^m:Nat):Int):=by simp
theorem zih(m:Nat):((a:Int).fdiv (2^m))=((a/2^m:Nat):Int):=by
 rw[Ydt _ (Int.pow_nonneg (by decide))];simp
@[simp] theorem zade:Z4 .shl (u64 a) (.i k n)=if n<0 then none else some (u64 (a*2^(min n.toNat 64)%18446744073709551616)):=by
 simp only[u64,Z4,IntKind.bits,zs1,zdw]
@[simp] theorem zaim:Z4 .shr (u32 a) (.i k n)=if n<0 then none else some (u32 (a/2^(min n.toNat 32))):=by
 simp only[u32,Z4,IntKind.bits,zih]
@[simp] theorem zadf:Z4 .shr (u64 a) (.i k n)=if n<0 then none else some (u64 (a/2^(min n.toNat 64))):=by
 simp only[u64,Z4,IntKind.bits,zih]
@[simp] theorem zxw:¬ ((b:Int)<0):=by omega
@[simp] theorem zaf8:Z4 .shl (u64 a) (u64 b)=some (u64 (a*2^(min b 64)%18446744073709551616)):=by
 rw[show u64 b=.i .u64 (b:Int) from rfl,zade,if_neg (zxw b),Ycj]
@[simp] theorem zaf9:Z4 .shr (u64 a) (u64 b)=some (u64 (a/2^(min b 64))):=by
 rw[show u64 b=.i .u64 (b:Int) from rfl,zadf,if_neg (zxw b),Ycj]
@[simp] theorem zain:Z4 .eql (u32 a) (u32 b)=some (.b (decide (a=b))):=by
 simp only[u32,zod,Option.some.injEq,AV.b.injEq];rw[Yb3];simp[Yce]
@[simp] theorem zaio:Z4 .neq (u32 a) (u32 b)=some (.b (!decide (a=b))):=by
 simp only[u32,zoe,Option.some.injEq,AV.b.injEq];rw[Yb3];simp[Yce]
@[simp] theorem zaip:Z4 .lss (u32 a) (u32 b)=some (.b (decide (a<b))):=by simp[u32,zof]
@[simp] theorem zaiq:Z4 .leq (u32 a) (u32 b)=some (.b (decide (a≤b))):=by simp[u32,zog]
@[simp] theorem zair:Z4 .gtr (u32 a) (u32 b)=some (.b (decide (b<a))):=by simp[u32,zoh]
@[simp] theorem zais:Z4 .geq (u32 a) (u32 b)=some (.b (decide (b≤a))):=by simp[u32,zoi]
@[simp] theorem zait:Z4 .neq (u64 a) (u64 b)=some (.b (!decide (a=b))):=by
 simp only[u64,zoe,Option.some.injEq,AV.b.injEq];rw[Yb3];simp[Yce]
@[simp] theorem eql8:Z4 .eql (u8 a) (u8 b)=some (.b (decide (a=b))):=by
 simp only[u8,zod,Option.some.injEq,AV.b.injEq];rw[Yb3];simp[Yce]
@[simp] theorem lss8:Z4 .lss (u8 a) (u8 b)=some (.b (decide (a<b))):=by simp[u8,zof]
@[simp] theorem leq8:Z4 .leq (u8 a) (u8 b)=some (.b (decide (a≤b))):=by simp[u8,zog]
@[simp] theorem gtr8:Z4 .gtr (u8 a) (u8 b)=some (.b (decide (b<a))):=by simp[u8,zoh]
@[simp] theorem geq8:Z4 .geq (u8 a) (u8 b)=some (.b (decide (b≤a))):=by simp[u8,zoi]
@[simp] theorem z2g:Za3 .u64 (u32 a)=some (u64 (a%18446744073709551616)):=by simp only[u32,u64,Za3,zdw]
@[simp] theorem z2h:Za3 .u32 (u64 a)=some (u32 (a%4294967296)):=by simp only[u32,u64,Za3,zdv]
@[simp] theorem z4x:Za3 .u32 (u8 a)=some (u32 (a%4294967296)):=by simp only[u32,u8,Za3,zdv]
@[simp] theorem z4y:Za3 .u8 (u32 a)=some (u8 (a%256)):=by simp only[u32,u8,Za3,wrap_u8]
@[simp] theorem z4z:Za3 .u64 (.i .i64 n)=some (u64 (n%18446744073709551616).toNat):=by simp only[u64,Za3,zlf]
@[simp] theorem z40:Za3 .i64 (u32 a)=some (.i .i64 (IntKind.wrap .i64 a)):=rfl
@[simp] theorem z41:Za3 .i64 (u64 a)=some (.i .i64 (IntKind.wrap .i64 a)):=rfl
@[simp] theorem z8r:Za3 .i64 (u8 a)=some (.i .i64 (IntKind.wrap .i64 a)):=rfl
@[simp] theorem z8s:Za3 .i64 (.i .i64 n)=some (.i .i64 (IntKind.wrap .i64 n)):=rfl
@[simp] theorem zaiu:Zfx .neg (u64 a)=some (u64 (Zh6 0 a)):=by simp[u64,Zfx,zlf,Zh6]
@[simp] theorem zaiv:Zfx .neg (.i .i64 n)=some (.i .i64 (IntKind.wrap .i64 (0-n))):=rfl
@[simp] theorem zaiw(t:Bool):Zfx .not (.b t)=some (.b (!t)):=rfl
@[simp] theorem zaga(m:Nat)(y:Int):bnd (u8 m) y=if 0≤(m:Int)∧(m:Int)≤y then some m else none:=rfl
@[simp] theorem zadg(m:Nat)(y:Int):bnd (u32 m) y=if 0≤(m:Int)∧(m:Int)≤y then some m else none:=rfl
@[simp] theorem zadh(m:Nat)(y:Int):bnd (u64 m) y=if 0≤(m:Int)∧(m:Int)≤y then some m else none:=rfl
attribute [simp] Zef Zf0 Zd3
@[simp] theorem zagb(l:List UInt8):Zgo (.s l) (.i k n)=if 0≤n∧n<l.length then (l[n.toNat]?).map fun b=>u8 b.toNat else none:=rfl
@[simp] theorem z8t(k':IntKind)(x y:Int):Ze9 .int (.i k x) (.i k' y)=if k=k' then some (x == y) else none:=rfl
end
@[simp] theorem zadi(a b:Nat):u32 a=u32 b↔a=b:=by simp[u32,Yce]
@[simp] theorem zadj(a b:Nat):u64 a=u64 b↔a=b:=by simp[u64,Yce]
theorem zam(x:UInt32):x.toNat<4294967296:=x.toNat_lt
@[simp] theorem zadk(x:UInt32):x.toNat<4294967296:=x.toNat_lt
def w32(n:Nat):UInt32:=UInt32.ofNat n
theorem za6(n:Nat):(w32 n).toNat=n%4294967296:=UInt32.toNat_ofNat' ..
theorem zag{n:Nat}(h:n<4294967296):(w32 n).toNat=n:=by rw[za6,Yt h]
@[simp] theorem z2i(x:UInt32):w32 x.toNat=x:=UInt32.ofNat_toNat
def Za(l:List UInt32):List (List AV):=l.map fun x=>[u32 x.toNat]
def ints(l:List Int):List (List AV):=l.map fun x=>[.i .i64 x]
def u8s(l:List UInt8):List (List AV):=l.map fun x=>[u8 x.toNat]
section
variable(l m:List UInt32)(x:UInt32)
@[simp] theorem z8u:Za []=[]:=rfl
@[simp] theorem zg5:(Za l).length=l.length:=by simp[Za]
@[simp] theorem zadl:wkL (Za l)=Za l:=by
 rw[zb1];simp[Za,wkR]
@[simp] theorem z42(n:Nat):(Za l).take n=Za (l.take n):=by simp[Za]
@[simp] theorem z43(n:Nat):(Za l).drop n=Za (l.drop n):=by simp[Za]
@[simp] theorem zzr:Za l++Za m=Za (l++m):=by simp[Za]
@[simp] theorem z44(n:Nat)(h:n<4294967296):Za l++[[u32 n]]=Za (l++[w32 n]):=by simp[Za,zag h]
@[simp] theorem u32s_getElem?(i:Nat):(Za l)[i]? = (l[i]?).map fun x=>[u32 x.toNat]:=by simp[Za]
@[simp] theorem zxx(i:Nat)(h:i<(Za l).length):(Za l)[i]=[u32 (l[i]'(by simpa using h)).toNat]:=by simp[Za]
theorem zbe(i:Nat)(n:Nat)(h:n<4294967296):(Za l).set i [u32 n]=Za (l.set i (w32 n)):=by simp[Za,Yee,zag h]
@[simp] theorem z45(i n:Nat):(Za l).set i [u32 (n%4294967296)]=Za (l.set i (w32 n)):=by simp[Za,Yee,za6]
@[simp] theorem z8v(n:Nat):List.replicate n [u32 0]=Za (List.replicate n 0):=by simp[Za]
@[simp] theorem z47(z:Nat):((Za l).head?.all fun r=>decide (r.length=z))=(l.isEmpty || decide (z=1)):=by
 cases l<;>simp[Za,eq_comm]
end
end Go.Ab
end
section
namespace Go.Ab
open Go.RowKit
abbrev mv(d s:Nat):AO:=⟨some d,none,.mov (.t s)⟩
abbrev rg(d:Nat)(op:AOp):AO:=⟨some d,none,op⟩
abbrev gd(d t:Nat)(b:Bool)(op:AOp):AO:=⟨some d,some (t,b),op⟩
abbrev so(op:AOp):AO:=⟨none,none,op⟩
section
variable(T:Tbl)(u:Nat)(ex:Bool)(ms:List Bool)(xs:List AV)(d:Option Nat)(st:St)(ps:List Opd)(e:Env)
@[simp] noncomputable def cP:Option St:=bL (Zii st.heap xs) fun ys=>cR (Zb T u (ys.map (wkIf ex))) xs d st
@[simp] noncomputable def cL:Option St:=bL (Zej st.heap ms xs) fun ys=>Zd8 ys (Zj (Zav ms xs) st.heap) (Zcu (Zj (Zav ms xs) st.heap) 40 (Zcc ms xs) []) T u ex d st
@[simp] noncomputable def dP:Option AV:=dR (Zb T u ((ps.map (ev e.get)).map (wkIf ex))) (ps.map (ev e.get))
end
section
variable{T:Tbl}{k:Nat}
theorem zb5{id:Nat}{g2:Gh}{c:AX}(S:Nat→St)(n:Nat)(G:Option (Ex×St))(step:∀i,i<n→evX (orc T) T k c (S i)=some (.n,S (i+1)))
  (fin:Zff (evX (orc T) T k c (S n))=true∧Zfe k id g2 (evX (orc T) T k c (S n))=G):Zw T k id g2 c (S 0)=G:=
 zau S (fun i=>i≤n) (fun i=>n-i) (fun _=>G) (by
  intro i hi;by_cases h:i<n
  ·exact .inl ⟨i+1,h,by show n-(i+1)<n-i;omega,step i h,rfl⟩
  ·have:i=n:=by omega
   subst this;exact .inr fin) 0 (Yz _)
theorem zbq{id:Nat}{g2:Gh}{c:AX}(S:Nat→St)(n:Nat)(G:Nat→Option (Ex×St))
  (step:∀i,i<n→(evX (orc T) T k c (S i)=some (.n,S (i+1))∧G (i+1)=G i)∨(Zff (evX (orc T) T k c (S i))=true∧Zfe k id g2 (evX (orc T) T k c (S i))=G i))
  (fin:Zff (evX (orc T) T k c (S n))=true∧Zfe k id g2 (evX (orc T) T k c (S n))=G n):Zw T k id g2 c (S 0)=G 0:=
 zau S (fun i=>i≤n) (fun i=>n-i) G (by
  intro i hi;by_cases h:i<n
  ·rcases step i h with ⟨h1,h2⟩ | h1
   ·exact .inl ⟨i+1,h,by show n-(i+1)<n-i;omega,h1,h2⟩
   ·exact .inr h1
  ·have:i=n:=by omega
   subst this;exact .inr fin) 0 (Yz _)
end
theorem ze0{i n:Nat}(h:i<n)(hn:n≤4294967296):IntKind.wrap .i64 ((i:Int)+1)=((i+1:Nat):Int):=zac _ (by omega)
end Go.Ab
end
section
namespace Go.Ab
def b115:AX:=
 (.seq
 (.reg [rg 6 (.mov (.c (u32 0))),rg 7 (.mov (.c (u32 0)))])
 (.seq
 (.reg [mv 8 0,mv 9 1,rg 10 (.bin .add (.t 8) (.t 9)),mv 6 10])
 (.seq
 (.seq
 (.reg [mv 11 6,mv 12 0,rg 13 (.bin .lss (.t 11) (.t 12))])
 (.cond (.t 13)
 (.reg [mv 14 7,rg 15 (.bin .add (.t 14) (.c (u32 1))),mv 7 15])
 .skip))
 (.seq
 (.reg [mv 16 6,mv 17 2,rg 18 (.bin .add (.t 16) (.t 17)),mv 6 18])
 (.seq
 (.seq
 (.reg [mv 19 6,mv 20 2,rg 21 (.bin .lss (.t 19) (.t 20))])
 (.cond (.t 21)
 (.reg [mv 22 7,rg 23 (.bin .add (.t 22) (.c (u32 1))),mv 7 23])
 .skip))
 (.seq
 (.reg [mv 24 6,mv 25 7,mv 6 24,mv 7 25])
 (.pre (.norm false [6,7]) .ret)))))))
def b116:AX:=
 (.seq
 (.reg [rg 6 (.mov (.c (u32 0))),rg 7 (.mov (.c (u32 0)))])
 (.seq
 (.reg [mv 8 0,mv 9 1,rg 10 (.bin .sub (.t 8) (.t 9)),mv 6 10])
 (.seq
 (.seq
 (.reg [mv 11 0,mv 12 1,rg 13 (.bin .lss (.t 11) (.t 12))])
 (.cond (.t 13)
 (.reg [mv 14 7,rg 15 (.bin .add (.t 14) (.c (u32 1))),mv 7 15])
 .skip))
 (.seq
 (.seq
 (.reg [mv 16 6,mv 17 2,rg 18 (.bin .lss (.t 16) (.t 17))])
 (.cond (.t 18)
 (.reg [mv 19 7,rg 20 (.bin .add (.t 19) (.c (u32 1))),mv 7 20])
 .skip))
 (.seq
 (.reg [mv 21 6,mv 22 2,rg 23 (.bin .sub (.t 21) (.t 22)),mv 24 7,mv 6 23,mv 7 24])
 (.pre (.norm false [6,7]) .ret))))))
def b117:AX:=
 (.seq
 (.reg [rg 8 (.mov (.c (u32 0))),rg 9 (.mov (.c (u32 0)))])
 (.seq
 (.reg [mv 11 0,rg 12 (.conv .u64 (.t 11)),mv 13 1,rg 14 (.conv .u64 (.t 13)),rg 15 (.bin .mul (.t 12) (.t 14)),mv 16 2,rg 17 (.conv .u64 (.t 16)),rg 18 (.bin .add (.t 15) (.t 17)),mv 19 3,rg 20 (.conv .u64 (.t 19)),rg 21 (.bin .add (.t 18) (.t 20)),mv 10 21])
 (.seq
 (.reg [mv 22 10,rg 23 (.bin .shr (.t 22) (.c (u64 32))),rg 24 (.conv .u32 (.t 23)),mv 25 10,rg 26 (.conv .u32 (.t 25)),mv 8 24,mv 9 26])
 (.pre (.norm false [8,9]) .ret))))
def b118:AX:=
 (.seq
 (.reg [rg 6 (.mov (.c (u32 0))),rg 7 (.mov (.c (u32 0))),rg 8 (.mov (.c (.b false)))])
 (.seq
 (.seq
 (.reg [mv 10 0,mv 11 2,rg 12 (.bin .geq (.t 10) (.t 11))])
 (.cond (.t 12)
 (.seq
 (.reg [rg 6 (.mov (.c (u32 0))),rg 7 (.mov (.c (u32 0))),rg 8 (.mov (.c (.b false)))])
 (.pre (.norm false [6,7,8]) .ret))
 .skip))
 (.seq
 (.reg [mv 13 0,rg 14 (.conv .u64 (.t 13)),rg 15 (.bin .shl (.t 14) (.c (u64 32))),mv 16 1,rg 17 (.conv .u64 (.t 16)),rg 18 (.bin .or (.t 15) (.t 17)),mv 9 18])
 (.seq
 (.drawT [mv 19 9,mv 20 2,rg 21 (.conv .u64 (.t 20)),rg 22 (.bin .quo (.t 19) (.t 21)),rg 23 (.conv .u32 (.t 22)),mv 24 9,mv 25 2,rg 26 (.conv .u64 (.t 25)),rg 27 (.bin .rem (.t 24) (.t 26)),rg 28 (.conv .u32 (.t 27)),mv 6 23]
 [mv 7 28,rg 8 (.mov (.c (.b true)))])
 (.pre (.norm false [6,7,8]) .ret)))))
def l91_0:AX:=
 (.note
 (.seq
 (.seq
 (.reg [mv 5 4,rg 6 (.bin .gtr (.t 5) (.c (.i .i64 0)))])
 (.cond (.t 6)
 .skip
 (.exit 0)))
 (.seq
 (.block 1
 (.seq
 (.reg [mv 9 0,mv 10 4,rg 11 (.bin .shr (.t 9) (.t 10)),rg 12 (.bin .neq (.t 11) (.c (u32 0)))])
 (.cond (.t 12)
 (.seq
 (.reg [mv 13 0,mv 14 4,rg 15 (.bin .shr (.t 13) (.t 14)),mv 0 15])
 (.reg [mv 16 3,mv 17 4,rg 18 (.bin .add (.t 16) (.t 17)),mv 3 18]))
 .skip)))
 (.reg [mv 7 4,rg 8 (.bin .quo (.t 7) (.c (.i .i64 2))),mv 4 8])))
 (.norm false [0,3,4]))
def b91:AX:=
 (.seq
 (.reg [rg 2 (.mov (.c (.i .i64 0)))])
 (.seq
 (.reg [rg 3 (.mov (.c (.i .i64 0)))])
 (.seq
 (.seq
 (.reg [rg 4 (.mov (.c (.i .i64 16)))])
 (.lp 0 (.norm false [0,3,4]) l91_0 (.norm false [0,3])))
 (.seq
 (.reg [mv 19 3,mv 20 0,rg 21 (.conv .i64 (.t 20)),rg 22 (.bin .add (.t 19) (.t 21)),mv 2 22])
 (.pre (.norm false [2]) .ret)))))
def row115:AFx:=⟨3,26,[.t 6,.t 7],b115,none,false⟩
def row116:AFx:=⟨3,25,[.t 6,.t 7],b116,none,false⟩
def row117:AFx:=⟨4,27,[.t 8,.t 9],b117,none,false⟩
def row118:AFx:=⟨3,29,[.t 6,.t 7,.t 8],b118,none,false⟩
def row91:AFx:=⟨1,23,[.t 2],b91,none,false⟩
class Z9 (T:Tbl):Prop where
 h115:T 115=some row115
 h116:T 116=some row116
 h117:T 117=some row117
 h118:T 118=some row118
 h91:T 91=some row91
section
variable{T:Tbl}[Z9 T]{d:Option Nat}{st:St}
@[simp] theorem x115(xs:List AV):Zc (orc T) T 115 xs d st=cP T 115 false xs d st:=zaa Z9.h115
@[simp] theorem x116(xs:List AV):Zc (orc T) T 116 xs d st=cP T 116 false xs d st:=zaa Z9.h116
@[simp] theorem x117(xs:List AV):Zc (orc T) T 117 xs d st=cP T 117 false xs d st:=zaa Z9.h117
@[simp] theorem x118(xs:List AV):Zc (orc T) T 118 xs d st=cP T 118 false xs d st:=zaa Z9.h118
@[simp] theorem x91(xs:List AV):Zc (orc T) T 91 xs d st=cP T 91 false xs d st:=zaa Z9.h91
end
end Go.Ab
end
section
namespace Go.Ab
section
variable{T:Tbl}[Z9 T]
theorem zwh(x y c:UInt32):Zb T 115 [u32 x.toNat,u32 y.toNat,u32 c.toNat] =
  some (.tup [u32 (w32 (x.toNat+y.toNat+c.toNat)).toNat,u32 (w32 ((x.toNat+y.toNat+c.toNat)/4294967296)).toNat]):=by
 have hx:=zam x;have hy:=zam y;have hc:=zam c;rw[zab Z9.h115 rfl,b115];simp[za6]
 repeat' split
 all_goals simp
 all_goals omega
theorem zwi(x y b:UInt32):Zb T 116 [u32 x.toNat,u32 y.toNat,u32 b.toNat] =
  some (.tup [u32 (w32 (x.toNat+8589934592-(y.toNat+b.toNat))).toNat,u32 (w32 (2-(x.toNat+8589934592-(y.toNat+b.toNat))/4294967296)).toNat]):=by
 have hx:=zam x;have hy:=zam y;have hb:=zam b;rw[zab Z9.h116 rfl,b116];by_cases h1:x.toNat<y.toNat <;>
 by_cases h2:Zfr x.toNat y.toNat<b.toNat <;>
 ·simp[h1,h2,za6];unfold Zfr at *
  omega
theorem zg8{a b:Nat}(ha:a<4294967296)(hb:b<4294967296):a*b≤18446744065119617025:=by
 have:a*b≤4294967295*4294967295:=Ydw (by omega) (by omega);omega
theorem zoz(x y c d:UInt32):Zb T 117 [u32 x.toNat,u32 y.toNat,u32 c.toNat,u32 d.toNat] =
  some (.tup [u32 (w32 ((x.toNat*y.toNat+c.toNat+d.toNat)/4294967296)).toNat,u32 (w32 (x.toNat*y.toNat+c.toNat+d.toNat)).toNat]):=by
 have hx:=zam x;have hy:=zam y;have hc:=zam c;have hd:=zam d;have hm:=zg8 hx hy;rw[zab Z9.h117 rfl,b117];simp[za6];generalize x.toNat*y.toNat=m at *
 omega
theorem zo0(hi lo y:UInt32):Zb T 118 [u32 hi.toNat,u32 lo.toNat,u32 y.toNat] =
  some (if y.toNat≤hi.toNat then .tup [u32 0,u32 0,.b false]
   else .tup [u32 (w32 ((hi.toNat*4294967296+lo.toNat)/y.toNat)).toNat,u32 (w32 ((hi.toNat*4294967296+lo.toNat)%y.toNat)).toNat,.b true]):=by
 have hx:=zam hi;have hy:=zam y;have hl:=zam lo;rw[zab Z9.h118 rfl,b118];by_cases h1:y.toNat≤hi.toNat
 ·simp[h1]
 ·have h2:¬ y.toNat=0:=by omega
  simp[h1,h2,za6];have e:hi.toNat*4294967296%18446744073709551616=hi.toNat*4294967296:=Yt (by omega);have e2:(hi.toNat*4294967296) ||| lo.toNat=hi.toNat*4294967296+lo.toNat:=by
   have:=Ycg (i:=32) hl hi.toNat;rw[Yac hi.toNat,show (4294967296:Nat)=2^32 from rfl,this]
  have h3:(hi.toNat*4294967296+lo.toNat)/y.toNat<4294967296:=by
   rw[Ya8 (by omega)];have:=Yay 4294967296 (show hi.toNat+1≤y.toNat by omega);omega
  rw[e,e2,Yt (show hi.toNat*4294967296+lo.toNat<18446744073709551616 by omega)];exact⟨rfl,rfl⟩
theorem zdj(x y c:Nat)(hx:x<4294967296)(hy:y<4294967296)(hc:c<4294967296):Zb T 115 [u32 x,u32 y,u32 c]=some (.tup [u32 ((x+y+c)%4294967296),u32 ((x+y+c)/4294967296)]):=by
 have:=zwh (T:=T) (w32 x) (w32 y) (w32 c);rw[zag hx,zag hy,zag hc,za6,zag (by omega)]at this;exact this
theorem ze4(x y b:Nat)(hx:x<4294967296)(hy:y<4294967296)(hb:b<4294967296):Zb T 116 [u32 x,u32 y,u32 b] =
  some (.tup [u32 ((x+8589934592-(y+b))%4294967296),u32 (2-(x+8589934592-(y+b))/4294967296)]):=by
 have:=zwi (T:=T) (w32 x) (w32 y) (w32 b);rw[zag hx,zag hy,zag hb,za6,zag (by omega)]at this;exact this
theorem zg9(x y c d:Nat)(hx:x<4294967296)(hy:y<4294967296)(hc:c<4294967296)(hd:d<4294967296):Zb T 117 [u32 x,u32 y,u32 c,u32 d] =
  some (.tup [u32 ((x*y+c+d)/4294967296),u32 ((x*y+c+d)%4294967296)]):=by
 have:=zoz (T:=T) (w32 x) (w32 y) (w32 c) (w32 d);have hm:=zg8 hx hy;rw[zag hx,zag hy,zag hc,zag hd,za6 (x*y+c+d),zag (by omega)]at this;exact this
theorem zxy{hi lo y:Nat}(h:hi<y)(hl:lo<4294967296):(hi*4294967296+lo)/y<4294967296:=by
 rw[Ya8 (by omega)];have:=Yay 4294967296 (show hi+1≤y by omega);omega
theorem zln(hi lo y:Nat)(hx:hi<y)(hl:lo<4294967296)(hy:y<4294967296):Zb T 118 [u32 hi,u32 lo,u32 y] =
  some (.tup [u32 ((hi*4294967296+lo)/y),u32 ((hi*4294967296+lo)%y),.b true]):=by
 have:=zo0 (T:=T) (w32 hi) (w32 lo) (w32 y);rw[zag (show hi<4294967296 by omega),zag hl,zag hy,zag (zxy hx hl),zag (by have:=Ybd (hi*4294967296+lo) (show 0<y by omega);omega),if_neg (by omega)]at this;exact this
theorem zqh(hi lo y:Nat)(hx:y≤hi)(hh:hi<4294967296)(hl:lo<4294967296):Zb T 118 [u32 hi,u32 lo,u32 y]=some (.tup [u32 0,u32 0,.b false]):=by
 have:=zo0 (T:=T) (w32 hi) (w32 lo) (w32 y);rw[zag hh,zag hl,zag (show y<4294967296 by omega),if_pos hx]at this;exact this
def Z2(n:Nat):Nat:=if n=0 then 0 else n.log2+1
theorem zik{n s:Nat}(h:n/2^s≠0):Z2 n=s+Z2 (n/2^s):=by
 have hn:n≠0:=by rintro rfl;simp at h
 have hlog:(n/2^s).log2+s=n.log2:=by
  have h1:=Nat.log2_self_le h;have h2:=Ycr (n:=n/2^s);have h3:=Nat.log2_self_le hn;have h4:=Ycr (n:=n);have hp:0<2^s:=Ybm (by decide);have a1:2^((n/2^s).log2+s)≤n:=by
   rw[Ybt];exact(Yby hp).1 h1
  have a2:n<2^((n/2^s).log2+1+s):=by
   rw[Ybt];exact(Ya8 hp).1 h2
  have b1:=(Nat.le_log2 hn).2 a1;have b2:=(Ydn hn).2 a2;omega
 unfold Z2;rw[if_neg h,if_neg hn];omega
theorem zqi{x:Nat}(h:x<2):Z2 x=x:=by
 rcases(show x=0∨x=1 by omega) with rfl | rfl<;>decide
def Zhi(y:Nat×Nat×Nat):St:=⟨[(0,u32 y.1),(3,.i .i64 y.2.1),(4,.i .i64 y.2.2)],[],2⟩
end
section
variable{T:Tbl}
theorem zjn(N:Nat):∀y:Nat×Nat×Nat,((y.2.2=16∨y.2.2=8∨y.2.2=4∨y.2.2=2∨y.2.2=1∨y.2.2=0)∧y.1<2^(2*y.2.2)*(if y.2.2=0 then 2 else 1)∧y.2.1+Z2 y.1=N∧y.2.1+2*y.2.2≤32) →
  ∃r,(∃(x n:Nat),r=(Ex.n,(⟨[(0,u32 x),(3,.i .i64 (n:Int))],[],2⟩:St))∧x<2∧n+Z2 x=N∧n≤32)∧Zw T 0 0 (.norm false [0,3]) l91_0 (Zhi y)=some r:=by
 refine za4 _ _ (fun y=>y.2.2) _ ?_
 rintro⟨x,n,s⟩ ⟨hs,hx,hN,hn⟩
 simp only at hs hx hN hn;by_cases h0:s=0
 ·right;subst h0;refine⟨_,⟨x,n,rfl,by simpa using hx,hN,by omega⟩,?_,?_⟩<;>simp[l91_0,Zhi]
 ·left;by_cases h1:x/2^s=0
  ·refine⟨(x,n,s/2),⟨?_,?_,hN,by simp only;omega⟩,by simp only;omega,?_⟩
   ·rcases hs with rfl | rfl | rfl | rfl | rfl | rfl<;>simp
   ·have h2:x<2^s:=by
     rcases Yq x (2^s) with h | h
     ·exact h
     ·have:=Nat.div_pos h (Ybm (by decide));omega
    rcases hs with rfl | rfl | rfl | rfl | rfl | rfl<;>simp at h2 ⊢<;>omega
   ·rcases hs with rfl | rfl | rfl | rfl | rfl | rfl<;>simp at h1<;>simp[l91_0,Zhi,h1]at h0 ⊢
  ·refine⟨(x/2^s,n+s,s/2),⟨?_,?_,?_,by simp only;omega⟩,by simp only;omega,?_⟩
   ·rcases hs with rfl | rfl | rfl | rfl | rfl | rfl<;>simp
   ·rcases hs with rfl | rfl | rfl | rfl | rfl | rfl<;>simp at hx h0 ⊢<;>omega
   ·have:=zik h1;simp only;omega
   ·have hw:IntKind.wrap .i64 ((n:Int)+s)=((n+s:Nat):Int):=zac _ (by omega);rcases hs with rfl | rfl | rfl | rfl | rfl | rfl<;>simp at h1 hw<;>simp[l91_0,Zhi,h1,hw]at h0 ⊢
end
section
variable{T:Tbl}[Z9 T]
theorem zo1(x:UInt32):Zb T 91 [u32 x.toNat]=some (.i .i64 (Z2 x.toNat)):=by
 have hx:=zam x;obtain⟨_,⟨y,n,rfl,h1,h2,h3⟩,hl⟩:=zjn (T:=T) (Z2 x.toNat) (x.toNat,0,16) ⟨.inl rfl,by simp,by simp,by simp⟩;have hw:IntKind.wrap .i64 (y:Int)=y:=zac _ (by omega);have hw2:IntKind.wrap .i64 ((n:Int)+y)=((n+y:Nat):Int):=zac _ (by omega);have h4:=zqi h1;rw[zab Z9.h91 rfl,b91];simp;unfold Zhi at hl;simp at hl;rw[hl];simp[hw,hw2];omega
end
end Go.Ab
end
section
namespace Go.Ab
def l86_0:AX:=
 (.note
 (.seq
 (.seq
 (.reg [mv 6 3,rg 7 (.bin .gtr (.t 6) (.c (.i .i64 0))),mv 8 7,gd 9 8 true (.mov (.t 0)),gd 10 8 true (.mov (.t 3)),gd 11 8 true (.bin .sub (.t 10) (.c (.i .i64 1))),gd 12 8 true (.iad 1 (.t 9) (.t 11)),gd 13 8 true (.load none (.t 12)),gd 14 8 true (.bin .eql (.t 13) (.c (u32 0))),rg 15 (.pick (.t 8) (.t 14) (.c (.b false)))])
 (.cond (.t 15)
 .skip
 (.exit 0)))
 (.block 1
 (.reg [mv 16 3,rg 17 (.bin .sub (.t 16) (.c (.i .i64 1))),mv 3 17])))
 (.norm false [0,3]))
def b86:AX:=
 (.seq
 (.reg [rg 2 (.mov (.c (.sl [] .nl)))])
 (.seq
 (.reg [mv 4 0,rg 5 (.len (.t 4)),mv 3 5])
 (.seq
 (.lp 0 (.norm false [0,3]) l86_0 (.norm false [0,3]))
 (.seq
 (.reg [mv 18 0,mv 19 3,rg 20 (.slc 1 (.t 18) none (some (.t 19)) none),mv 2 20])
 (.pre (.norm false [2]) .ret)))))
def b106:AX:=
 (.seq
 (.reg [rg 4 (.mov (.c (.sl [] .nl)))])
 (.seq
 (.reg [mv 6 0,rg 7 (.len (.t 6)),mv 8 1,rg 9 (.bin .add (.t 7) (.t 8)),rg 10 (.mks 1 [(u32 0)] (.t 9) (.t 9)),mv 5 10])
 (.seq
 (.reg [mv 11 5,mv 12 0,rg 13 (.xop .cpy [(.t 11),(.t 12)])])
 (.seq
 (.reg [mv 14 5,mv 4 14])
 (.pre (.norm false [4]) .ret)))))
def b71:AX:=
 (.seq
 (.reg [rg 2 (.mov (.c (.sl [] .nl)))])
 (.seq
 (.reg [mv 3 0,rg 4 (.call 86 [(.t 3)]),rg 5 (.call 106 [(.t 4),(.c (.i .i64 0))]),mv 2 5])
 (.pre (.norm false [2]) .ret)))
def b72:AX:=
 (.seq
 (.reg [rg 2 (.mov (.c (.sl [] .nl)))])
 (.seq
 (.reg [mv 3 0,rg 4 (.conv .u32 (.t 3)),mv 5 0,rg 6 (.bin .shr (.t 5) (.c (u64 32))),rg 7 (.conv .u32 (.t 6)),rg 8 (.bsl 1 [(u32 0)] 2 [(0,(.t 4)),(1,(.t 7))]),rg 9 (.call 86 [(.t 8)]),mv 2 9])
 (.pre (.norm false [2]) .ret)))
def l73_0:AX:=
 (.note
 (.seq
 (.reg [rg 15 (.bin .lss (.t 14) (.t 13))])
 (.seq
 (.cond (.t 15)
 .skip
 (.exit 0))
 (.seq
 (.block 1
 (.seq
 (.reg [mv 16 14,rg 17 (.iad 1 (.t 12) (.t 14)),rg 18 (.load none (.t 17)),mv 5 16,mv 6 18])
 (.reg [mv 19 4,mv 20 6,rg 21 (.conv .u64 (.t 20)),mv 22 5,rg 23 (.bin .mul (.c (.i .i64 32)) (.t 22)),rg 24 (.bin .shl (.t 21) (.t 23)),rg 25 (.bin .or (.t 19) (.t 24)),mv 4 25])))
 (.reg [rg 26 (.bin .add (.t 14) (.c (.i .i64 1))),mv 14 26]))))
 (.norm false [4,12,13,14]))
def b73:AX:=
 (.seq
 (.reg [rg 2 (.mov (.c (u64 0))),rg 3 (.mov (.c (.b false)))])
 (.seq
 (.reg [mv 7 0,rg 8 (.call 86 [(.t 7)]),mv 0 8])
 (.seq
 (.seq
 (.reg [mv 9 0,rg 10 (.len (.t 9)),rg 11 (.bin .gtr (.t 10) (.c (.i .i64 2)))])
 (.cond (.t 11)
 (.seq
 (.reg [rg 2 (.mov (.c (u64 0))),rg 3 (.mov (.c (.b false)))])
 (.pre (.norm false [2,3]) .ret))
 .skip))
 (.seq
 (.reg [rg 4 (.mov (.c (u64 0)))])
 (.seq
 (.seq
 (.reg [mv 12 0,rg 13 (.len (.t 12)),rg 14 (.mov (.c (.i .i64 0)))])
 (.lp 0 (.norm false [4,12,13,14]) l73_0 (.norm false [4])))
 (.seq
 (.reg [mv 27 4,mv 2 27,rg 3 (.mov (.c (.b true)))])
 (.pre (.norm false [2,3]) .ret)))))))
def b70:AX:=
 (.seq
 (.reg [rg 2 (.mov (.c (.b false)))])
 (.seq
 (.reg [mv 3 0,rg 4 (.call 86 [(.t 3)]),rg 5 (.len (.t 4)),rg 6 (.bin .eql (.t 5) (.c (.i .i64 0))),mv 2 6])
 (.pre (.norm false [2]) .ret)))
def l87_0:AX:=
 (.note
 (.seq
 (.seq
 (.reg [mv 25 5,rg 26 (.bin .geq (.t 25) (.c (.i .i64 0)))])
 (.cond (.t 26)
 .skip
 (.exit 1)))
 (.seq
 (.block 2
 (.block 3
 (.seq
 (.drawT [mv 30 0,mv 31 5,rg 32 (.iad 1 (.t 30) (.t 31)),rg 33 (.load none (.t 32)),mv 34 1,mv 35 5,rg 36 (.iad 1 (.t 34) (.t 35)),rg 37 (.load none (.t 36))]
 [rg 38 (.bin .lss (.t 33) (.t 37)),mv 29 38])
 (.cond (.t 29)
 (.seq
 (.reg [rg 4 (.mov (.c (.i .i64 (-1))))])
 (.pre (.norm false [4]) .ret))
 (.seq
 (.drawT [mv 40 0,mv 41 5,rg 42 (.iad 1 (.t 40) (.t 41)),rg 43 (.load none (.t 42)),mv 44 1,mv 45 5,rg 46 (.iad 1 (.t 44) (.t 45)),rg 47 (.load none (.t 46))]
 [rg 48 (.bin .gtr (.t 43) (.t 47)),mv 39 48])
 (.cond (.t 39)
 (.seq
 (.reg [rg 4 (.mov (.c (.i .i64 1)))])
 (.pre (.norm false [4]) .ret))
 .skip))))))
 (.reg [mv 27 5,rg 28 (.bin .sub (.t 27) (.c (.i .i64 1))),mv 5 28])))
 (.norm false [0,1,5]))
def b87:AX:=
 (.seq
 (.reg [rg 4 (.mov (.c (.i .i64 0)))])
 (.seq
 (.reg [mv 6 0,rg 7 (.call 86 [(.t 6)]),mv 8 1,rg 9 (.call 86 [(.t 8)]),mv 0 7,mv 1 9])
 (.seq
 (.block 0
 (.seq
 (.reg [mv 11 0,rg 12 (.len (.t 11)),mv 13 1,rg 14 (.len (.t 13)),rg 15 (.bin .lss (.t 12) (.t 14)),mv 10 15])
 (.cond (.t 10)
 (.seq
 (.reg [rg 4 (.mov (.c (.i .i64 (-1))))])
 (.pre (.norm false [4]) .ret))
 (.seq
 (.reg [mv 17 0,rg 18 (.len (.t 17)),mv 19 1,rg 20 (.len (.t 19)),rg 21 (.bin .gtr (.t 18) (.t 20)),mv 16 21])
 (.cond (.t 16)
 (.seq
 (.reg [rg 4 (.mov (.c (.i .i64 1)))])
 (.pre (.norm false [4]) .ret))
 .skip)))))
 (.seq
 (.seq
 (.reg [mv 22 0,rg 23 (.len (.t 22)),rg 24 (.bin .sub (.t 23) (.c (.i .i64 1))),mv 5 24])
 (.lp 1 (.norm false [0,1,5]) l87_0 (.norm false [])))
 (.seq
 (.reg [rg 4 (.mov (.c (.i .i64 0)))])
 (.pre (.norm false [4]) .ret))))))
def l85_0:AX:=
 (.note
 (.seq
 (.reg [rg 21 (.bin .lss (.t 20) (.t 19))])
 (.seq
 (.cond (.t 21)
 .skip
 (.exit 0))
 (.seq
 (.block 1
 (.seq
 (.reg [mv 22 20,mv 7 22])
 (.seq
 (.reg [rg 8 (.mov (.c (u32 0)))])
 (.seq
 (.seq
 (.reg [mv 23 7,mv 24 1,rg 25 (.len (.t 24)),rg 26 (.bin .lss (.t 23) (.t 25))])
 (.cond (.t 26)
 (.reg [mv 27 1,mv 28 7,rg 29 (.iad 1 (.t 27) (.t 28)),rg 30 (.load none (.t 29)),mv 8 30])
 .skip))
 (.reg [mv 32 5,mv 33 7,mv 34 0,mv 35 7,rg 36 (.iad 1 (.t 34) (.t 35)),rg 37 (.load none (.t 36)),mv 38 8,mv 39 6,rg 40 (.call 115 [(.t 37),(.t 38),(.t 39)]),mv 31 40,rg 41 (.ext (.t 31) 0),rg 42 (.ext (.t 31) 1),rg 43 (.iad 1 (.t 32) (.t 33)),so (.store 1 (.t 43) (.t 41)),mv 6 42])))))
 (.reg [rg 44 (.bin .add (.t 20) (.c (.i .i64 1))),mv 20 44]))))
 (.norm false [0,1,5,6,19,20]))
def b85:AX:=
 (.seq
 (.reg [rg 4 (.mov (.c (.sl [] .nl)))])
 (.seq
 (.seq
 (.reg [mv 9 0,rg 10 (.len (.t 9)),mv 11 1,rg 12 (.len (.t 11)),rg 13 (.bin .lss (.t 10) (.t 12))])
 (.cond (.t 13)
 (.reg [mv 14 1,mv 15 0,mv 0 14,mv 1 15])
 .skip))
 (.seq
 (.reg [mv 16 0,rg 17 (.call 2106 [(.t 16),(.c (.i .i64 1))]),mv 5 17])
 (.seq
 (.reg [rg 6 (.mov (.c (u32 0)))])
 (.seq
 (.seq
 (.reg [mv 18 0,rg 19 (.len (.t 18)),rg 20 (.mov (.c (.i .i64 0)))])
 (.lp 0 (.norm false [0,1,5,6,19,20]) l85_0 (.norm false [0,5,6])))
 (.seq
 (.reg [mv 45 5,mv 46 0,rg 47 (.len (.t 46)),mv 48 6,rg 49 (.iad 1 (.t 45) (.t 47)),so (.store 1 (.t 49) (.t 48))])
 (.seq
 (.reg [mv 50 5,rg 51 (.call 86 [(.t 50)]),mv 4 51])
 (.pre (.norm false [4]) .ret))))))))
def l56_0:AX:=
 (.note
 (.seq
 (.reg [rg 9 (.bin .lss (.t 8) (.t 7))])
 (.seq
 (.cond (.t 9)
 .skip
 (.exit 0))
 (.seq
 (.block 1
 (.seq
 (.reg [rg 10 (.iad 1 (.t 6) (.t 8)),rg 11 (.load none (.t 10)),mv 5 11])
 (.reg [mv 12 3,mv 13 5,rg 14 (.call 86 [(.t 13)]),rg 15 (.call 85 [(.t 12),(.t 14)]),mv 3 15])))
 (.reg [rg 16 (.bin .add (.t 8) (.c (.i .i64 1))),mv 8 16]))))
 (.norm false [3,6,7,8]))
def b56:AX:=
 (.seq
 (.reg [rg 2 (.mov (.c (.sl [] .nl)))])
 (.seq
 (.reg [rg 3 (.mov (.c (.sl [] .nl)))])
 (.seq
 (.seq
 (.reg [mv 6 0,rg 7 (.len (.t 6)),rg 8 (.mov (.c (.i .i64 0)))])
 (.lp 0 (.norm false [3,6,7,8]) l56_0 (.norm false [3])))
 (.seq
 (.reg [mv 17 3,mv 2 17])
 (.pre (.norm false [2]) .ret)))))
def l88_0:AX:=
 (.note
 (.seq
 (.reg [rg 23 (.bin .lss (.t 22) (.t 21))])
 (.seq
 (.cond (.t 23)
 .skip
 (.exit 0))
 (.seq
 (.block 1
 (.seq
 (.reg [mv 24 22,mv 8 24])
 (.seq
 (.reg [rg 9 (.mov (.c (u32 0)))])
 (.seq
 (.seq
 (.reg [mv 25 8,mv 26 1,rg 27 (.len (.t 26)),rg 28 (.bin .lss (.t 25) (.t 27))])
 (.cond (.t 28)
 (.reg [mv 29 1,mv 30 8,rg 31 (.iad 1 (.t 29) (.t 30)),rg 32 (.load none (.t 31)),mv 9 32])
 .skip))
 (.reg [mv 34 6,mv 35 8,mv 36 0,mv 37 8,rg 38 (.iad 1 (.t 36) (.t 37)),rg 39 (.load none (.t 38)),mv 40 9,mv 41 7,rg 42 (.call 116 [(.t 39),(.t 40),(.t 41)]),mv 33 42,rg 43 (.ext (.t 33) 0),rg 44 (.ext (.t 33) 1),rg 45 (.iad 1 (.t 34) (.t 35)),so (.store 1 (.t 45) (.t 43)),mv 7 44])))))
 (.reg [rg 46 (.bin .add (.t 22) (.c (.i .i64 1))),mv 22 46]))))
 (.norm false [0,1,6,7,21,22]))
def b88:AX:=
 (.seq
 (.reg [rg 4 (.mov (.c (.sl [] .nl))),rg 5 (.mov (.c (.b false)))])
 (.seq
 (.reg [mv 10 0,rg 11 (.call 86 [(.t 10)]),mv 12 1,rg 13 (.call 86 [(.t 12)]),mv 0 11,mv 1 13])
 (.seq
 (.seq
 (.reg [mv 14 0,mv 15 1,rg 16 (.call 87 [(.t 14),(.t 15)]),rg 17 (.bin .lss (.t 16) (.c (.i .i64 0)))])
 (.cond (.t 17)
 (.seq
 (.reg [rg 4 (.mov (.c (.sl [] .nl))),rg 5 (.mov (.c (.b false)))])
 (.pre (.norm false [4,5]) .ret))
 .skip))
 (.seq
 (.reg [mv 18 0,rg 19 (.call 2106 [(.t 18),(.c (.i .i64 0))]),mv 6 19])
 (.seq
 (.reg [rg 7 (.mov (.c (u32 0)))])
 (.seq
 (.seq
 (.reg [mv 20 0,rg 21 (.len (.t 20)),rg 22 (.mov (.c (.i .i64 0)))])
 (.lp 0 (.norm false [0,1,6,7,21,22]) l88_0 (.norm false [6])))
 (.seq
 (.reg [mv 47 6,rg 48 (.call 86 [(.t 47)]),mv 4 48,rg 5 (.mov (.c (.b true)))])
 (.pre (.norm false [4,5]) .ret))))))))
def b57:AX:=
 (.seq
 (.reg [rg 4 (.mov (.c (.sl [] .nl))),rg 5 (.mov (.c (.i .i64 0)))])
 (.seq
 (.reg [mv 9 0,mv 10 1,rg 11 (.call 87 [(.t 9),(.t 10)]),mv 6 11])
 (.seq
 (.seq
 (.reg [mv 12 6,rg 13 (.bin .lss (.t 12) (.c (.i .i64 0)))])
 (.cond (.t 13)
 (.reg [mv 14 1,mv 15 0,mv 0 14,mv 1 15])
 .skip))
 (.seq
 (.reg [mv 17 0,mv 18 1,rg 19 (.call 88 [(.t 17),(.t 18)]),mv 16 19,rg 20 (.ext (.t 16) 0),rg 21 (.ext (.t 16) 1),mv 7 20,mv 8 21])
 (.seq
 (.reg [mv 22 7,mv 23 6,mv 4 22,mv 5 23])
 (.pre (.norm false [4,5]) .ret))))))
def b2106:AX:=
 (.seq
 (.reg [rg 4 (.mov (.c (.sl [] .nl)))])
 (.seq
 (.reg [mv 6 0,rg 7 (.len (.t 6)),mv 8 1,rg 9 (.bin .add (.t 7) (.t 8)),rg 10 (.mks 1 [(u32 0)] (.t 9) (.t 9)),mv 5 10])
 (.seq
 (.reg [mv 11 5,mv 12 0,rg 13 (.xop .cpy [(.t 11),(.t 12)])])
 (.seq
 (.reg [mv 14 5,mv 4 14])
 (.pre (.norm false [4]) .ret)))))
def row86:AFx:=⟨1,21,[.t 2],b86,none,false⟩
def row106:AFx:=⟨2,15,[.t 4],b106,none,false⟩
def row71:AFx:=⟨1,6,[.t 2],b71,none,false⟩
def row72:AFx:=⟨1,10,[.t 2],b72,none,false⟩
def row73:AFx:=⟨1,28,[.t 2,.t 3],b73,none,false⟩
def row70:AFx:=⟨1,7,[.t 2],b70,none,false⟩
def row87:AFx:=⟨2,49,[.t 4],b87,none,false⟩
def row85:AFx:=⟨2,52,[.t 4],b85,none,false⟩
def row56:AFx:=⟨1,18,[.t 2],b56,none,false⟩
def row88:AFx:=⟨2,49,[.t 4,.t 5],b88,none,false⟩
def row57:AFx:=⟨2,24,[.t 4,.t 5],b57,none,false⟩
def row2106:AFx:=⟨2,15,[.t 4],b2106,(some [false,false]),false⟩
class Zp (T:Tbl):Prop extends Z9 T where
 h86:T 86=some row86
 h106:T 106=some row106
 h71:T 71=some row71
 h72:T 72=some row72
 h73:T 73=some row73
 h70:T 70=some row70
 h87:T 87=some row87
 h85:T 85=some row85
 h56:T 56=some row56
 h88:T 88=some row88
 h57:T 57=some row57
 h2106:T 2106=some row2106
section
variable{T:Tbl}[Zp T]{d:Option Nat}{st:St}
@[simp] theorem x86(xs:List AV):Zc (orc T) T 86 xs d st=cP T 86 false xs d st:=zaa Zp.h86
@[simp] theorem x106(xs:List AV):Zc (orc T) T 106 xs d st=cP T 106 false xs d st:=zaa Zp.h106
@[simp] theorem x71(xs:List AV):Zc (orc T) T 71 xs d st=cP T 71 false xs d st:=zaa Zp.h71
@[simp] theorem y71{e:Env}{h:Heap}{older:List Heap}(args:List Opd):opD (orc T) T (.call 71 args) e h older=dR (Zb T 71 ((args.map (ev e.get)).map (wkIf false))) (args.map (ev e.get)):=zav Zp.h71
@[simp] theorem x72(xs:List AV):Zc (orc T) T 72 xs d st=cP T 72 false xs d st:=zaa Zp.h72
@[simp] theorem y72{e:Env}{h:Heap}{older:List Heap}(args:List Opd):opD (orc T) T (.call 72 args) e h older=dR (Zb T 72 ((args.map (ev e.get)).map (wkIf false))) (args.map (ev e.get)):=zav Zp.h72
@[simp] theorem x73(xs:List AV):Zc (orc T) T 73 xs d st=cP T 73 false xs d st:=zaa Zp.h73
@[simp] theorem x70(xs:List AV):Zc (orc T) T 70 xs d st=cP T 70 false xs d st:=zaa Zp.h70
@[simp] theorem x87(xs:List AV):Zc (orc T) T 87 xs d st=cP T 87 false xs d st:=zaa Zp.h87
@[simp] theorem x85(xs:List AV):Zc (orc T) T 85 xs d st=cP T 85 false xs d st:=zaa Zp.h85
@[simp] theorem x56(xs:List AV):Zc (orc T) T 56 xs d st=cP T 56 false xs d st:=zaa Zp.h56
@[simp] theorem y56{e:Env}{h:Heap}{older:List Heap}(args:List Opd):opD (orc T) T (.call 56 args) e h older=dR (Zb T 56 ((args.map (ev e.get)).map (wkIf false))) (args.map (ev e.get)):=zav Zp.h56
@[simp] theorem x88(xs:List AV):Zc (orc T) T 88 xs d st=cP T 88 false xs d st:=zaa Zp.h88
@[simp] theorem x57(xs:List AV):Zc (orc T) T 57 xs d st=cP T 57 false xs d st:=zaa Zp.h57
@[simp] theorem x2106(xs:List AV):Zc (orc T) T 2106 xs d st=bL (Zej st.heap [false,false] xs) fun ys=>Zd8 ys (Zj (Zav [false,false] xs) st.heap) (Zcu (Zj (Zav [false,false] xs) st.heap) 40 (Zcc [false,false] xs) []) T 2106 false d st:=za1 Zp.h2106
end
end Go.Ab
end
section
namespace Go.Ab
def val:List UInt32→Nat
 | []=>0
 | x::l=>x.toNat+4294967296*val l
def ofN(n:Nat):List UInt32:=if n=0 then [] else w32 n::ofN (n/4294967296)
termination_by n
decreasing_by omega
def Zhn(l:List UInt32):Prop:=∀x,l.getLast? = some x→x.toNat≠0
@[simp] theorem zbh:val []=0:=rfl
@[simp] theorem zap(x:UInt32)(l:List UInt32):val (x::l)=x.toNat+4294967296*val l:=rfl
@[simp] theorem zj3:ofN 0=[]:=by rw[ofN];rfl
theorem zhm{n:Nat}(h:n≠0):ofN n=w32 n::ofN (n/4294967296):=by rw[ofN,if_neg h]
theorem zc4(n:Nat):(w32 n).toNat=n%4294967296:=za6 n
theorem zx7{x:UInt32}{n:Nat}(h:n%4294967296=x.toNat):w32 n=x:=by
 rw[←UInt32.toNat_inj,zc4,h]
theorem zae(n:Nat):val (ofN n)=n:=by
 induction n using Nat.strongRecOn with
 | _ n ih=>
  by_cases h:n=0
  ·subst h;simp
  ·rw[zhm h,zap,ih (n/4294967296) (by omega),zc4];omega
theorem zai(l m:List UInt32):val (l++m)=val l+4294967296^l.length*val m:=by
 induction l with
 | nil=>simp
 | cons x l ih=>
  simp only[Ya2,zap,ih,Yc,Y7,Yao,Yap];congr 2;rw[←Yax,Yac 4294967296 (4294967296^l.length)]
theorem zaw(l:List UInt32):val l<4294967296^l.length:=by
 induction l with
 | nil=>simp
 | cons x l ih=>
  have:=zam x;simp only[zap,Yc,Y7];omega
theorem ziw{x:UInt32}{l:List UInt32}(h:Zhn (x::l)):Zhn l:=by
 intro y hy;apply h;cases l with
 | nil=>simp at hy
 | cons z l=>rw[List.getLast?_cons_cons];exact hy
theorem zw8{l:List UInt32}(h:Zhn l):val l=0↔l=[]:=by
 constructor
 ·intro h0
  induction l with
  | nil=>rfl
  | cons x l ih=>
   exfalso;simp only[zap]at h0;have h1:=ih (ziw h) (by omega);subst h1;exact h x (by simp) (by omega)
 ·rintro rfl;rfl
theorem z0n{l:List UInt32}(h:Zhn l):ofN (val l)=l:=by
 induction l with
 | nil=>simp
 | cons x l ih=>
  have hx:=zam x;have hne:val (x::l)≠0:=fun h0=>by have:=(zw8 h).1 h0;cases this
  rw[zhm hne];congr 1
  ·exact zx7 (by simp only[zap];omega)
  ·rw[show val (x::l)/4294967296=val l by simp only[zap];omega];exact ih (ziw h)
theorem za2{n:Nat}:ofN n=[]↔n=0:=⟨fun h=>by rw[←zae n,h];rfl,fun h=>by rw[h];simp⟩
theorem zq6{a:List UInt32}{n:Nat}(hn:n≤a.length)(h0:∀(i:Nat) (x:UInt32),n≤i→a[i]? = some x→x.toNat=0)(h1:∀x:UInt32,0<n→a[n-1]? = some x→x.toNat≠0):a.take n=ofN (val a):=by
 have hr:Zhn (a.take n):=by
  intro x hx;have hn0:0<n:=by
   rcases Ybj n with h | h
   ·subst h;simp at hx
   ·exact h
  apply h1 x hn0;rw[List.getLast?_eq_getElem?,Ya1,Yds hn,Yv,if_pos (by omega)]at hx;exact hx
 have hz:∀l:List UInt32,(∀(i:Nat) (x:UInt32),l[i]? = some x→x.toNat=0)→val l=0:=by
  intro l
  induction l with
  | nil=>intro _;rfl
  | cons x l ih=>
   intro h;have h2:=h 0 x rfl;have h3:=ih fun i y hy=>h (i+1) y (by simpa using hy);simp only[zap,h2,h3]
 have hv:val a=val (a.take n):=by
  have e:=zai (a.take n) (a.drop n);rw[Yav,hz (a.drop n) (fun i x hx=>h0 (n+i) x (by omega) (by rw[Yab]at hx;exact hx))]at e;omega
 rw[hv,z0n hr]
theorem zpe(a:List UInt32):∃n,n≤a.length∧a.take n=ofN (val a)∧(∀(i:Nat) (x:UInt32),n≤i→a[i]? = some x→x.toNat=0)∧(∀x:UInt32,0<n→a[n-1]? = some x→x.toNat≠0):=by
 have key:∀k,k≤a.length→(∀(i:Nat) (x:UInt32),k≤i→a[i]? = some x→x.toNat=0)→∃n,n≤k∧(∀(i:Nat) (x:UInt32),n≤i→a[i]? = some x→x.toNat=0)∧(∀x:UInt32,0<n→a[n-1]? = some x→x.toNat≠0):=by
  intro k
  induction k with
  | zero=>intro _ h;exact⟨0,Yi _,h,fun x hx=>by omega⟩
  | succ k ih=>
   intro hk h;by_cases hz:(a[k]'(by omega)).toNat=0
   ·obtain⟨n,h1,h2,h3⟩:=ih (by omega) fun i x hi hx=>by
     rcases Yq k i with h4 | h4
     ·exact h i x h4 hx
     ·have:i=k:=by omega
      subst this;rw[Ya (by omega)]at hx;cases hx;exact hz
    exact⟨n,by omega,h2,h3⟩
   ·refine⟨k+1,Yi _,h,fun x _ hx=>?_⟩;rw[Nat.add_sub_cancel,Ya (by omega)]at hx;cases hx;exact hz
 obtain⟨n,h1,h2,h3⟩:=key a.length (Yi _) fun i x hi hx=>by rw[Yam hi]at hx;cases hx
 exact⟨n,h1,zq6 h1 h2 h3,h2,h3⟩
theorem zad(a:List UInt32):(ofN (val a)).length≤a.length:=by
 obtain⟨n,h1,h2,_⟩:=zpe a;rw[←h2,Ya1];omega
theorem zah{n k:Nat}(h:n<4294967296^k):(ofN n).length≤k:=by
 induction k generalizing n with
 | zero=>
  have:n=0:=by simp at h;omega
  subst this;simp
 | succ k ih=>
  by_cases h0:n=0
  ·subst h0;simp
  ·rw[zhm h0,Yc];have:=ih (n:=n/4294967296) (by rw[Y7]at h;omega);omega
theorem zaf{a:List UInt32}{i:Nat}{x:UInt32}(h:a[i]? = some x):val (a.take (i+1))=val (a.take i)+4294967296^i*x.toNat:=by
 have hi:i<a.length:=by
  rcases Yq i a.length with h1 | h1
  ·exact h1
  ·rw[Yam h1]at h;cases h
 rw[Ycl,h,zai];simp only[Option.toList_some,zap,zbh,Yaz,Y2,Ya1];rw[Yds (by omega)]
theorem zb0{a:List UInt32}{i:Nat}(x:UInt32)(h:i<a.length):val ((a.set i x).take (i+1))=val (a.take i)+4294967296^i*x.toNat:=by
 rw[zaf (x:=x) (by rw[Yc7 h]),List.take_set_of_le (Yi i)]
theorem zbc{a:List UInt32}{i:Nat}(h:a.length≤i):val (a.take i)=val a:=by rw[Yb h]
theorem zaz(n:Nat):val (List.replicate n 0)=0:=by
 induction n with
 | zero=>rfl
 | succ n ih=>simp[Ya7,ih]
theorem zft{m n:Nat}(h:(ofN m).length<(ofN n).length):m<n:=by
 rcases Yq m n with h1 | h1
 ·exact h1
 ·exfalso;have h2:=zaw (ofN m);rw[zae]at h2;have:=zah (show n<4294967296^(ofN m).length by omega);omega
theorem za7{m n:Nat}(h:m≤n):(ofN m).length≤(ofN n).length:=by
 rcases Yq (ofN n).length (ofN m).length with h1 | h1
 ·have:=zft h1;omega
 ·exact h1
def Zel(x y:Nat):Int:=if x<y then -1 else if y<x then 1 else 0
theorem zu0{a b:List UInt32}{i:Nat}{x y:UInt32}(hx:a[i]? = some x)(hy:b[i]? = some y)(h:x.toNat<y.toNat):val (a.take (i+1))<val (b.take (i+1)):=by
 rw[zaf hx,zaf hy];have h1:=zaw (a.take i);have h2:4294967296^(a.take i).length≤4294967296^i:=Yr (by decide) (by simp;omega);have h3:=Yay (4294967296^i) (show x.toNat+1≤y.toNat from h);rw[Yao]at h3;omega
theorem zj4{x y c:Nat}(hx:x<4294967296)(hy:y<4294967296)(hc:c≤1) :
  (x+8589934592-(y+c))%4294967296+(y+c)=x+4294967296*(2-(x+8589934592-(y+c))/4294967296)∧2-(x+8589934592-(y+c))/4294967296≤1:=by omega
def lls(l:List (List UInt32)):List (List AV):=l.map fun a=>[.sl (Za a) .an]
@[simp] theorem z2j(l:List (List UInt32)):(lls l).length=l.length:=by simp[lls]
@[simp] theorem zagc(l:List (List UInt32)):wkL (lls l)=lls l:=by rw[zb1];simp[lls,wkR]
@[simp] theorem z0o(l:List (List UInt32))(i:Nat)(h:i<(lls l).length):(lls l)[i]=[.sl (Za (l[i]'(by simpa using h))) .an]:=by simp[lls]
end Go.Ab
end
section
namespace Go.Ab
section
variable{T:Tbl}
theorem ztm(a:List UInt32)(hl:a.length<9223372036854775808){n:Nat}(hn:n≤a.length)(h0:∀(i:Nat) (x:UInt32),n≤i→a[i]? = some x→x.toNat=0)(h1:∀x:UInt32,0<n→a[n-1]? = some x→x.toNat≠0) :
  ∀m:Nat,(n≤m∧m≤a.length)→Zw T 0 0 (.norm false [0,3]) l86_0 ⟨[(0,.sl (Za a) .an),(3,.i .i64 (m:Int))],[],2⟩=some (.n,⟨[(0,.sl (Za a) .an),(3,.i .i64 (n:Int))],[],2⟩):=by
 refine zau (fun m:Nat=>⟨[(0,.sl (Za a) .an),(3,.i .i64 (m:Int))],[],2⟩) _ (fun m=>m) _ ?_
 rintro m ⟨hm,hma⟩
 by_cases h2:m=0
 ·right;subst h2;have:n=0:=by omega
  subst this;constructor<;>simp[l86_0]
 ·have hw:IntKind.wrap .i64 ((m:Int)-1)=((m-1:Nat):Int):=by rw[zac _ (by omega)];omega
  have hm1:m-1<a.length:=by omega
  have hg:a[m-1]? = some (a[m-1]'hm1):=Ya hm1;have hpos:0<m:=by omega
  by_cases h3:m=n
  ·right;subst h3;have hx:=h1 _ hpos hg;constructor<;>simp[l86_0,hpos,hw,hm1,hx]
  ·left;refine⟨m-1,⟨by omega,by omega⟩,by show m-1<m;omega,?_,rfl⟩;have hx:=h0 (m-1) _ (by omega) hg;simp[l86_0,hpos,hw,hm1,hx]
end
section
variable{T:Tbl}[Zp T]
theorem zbf(a:List UInt32)(hl:a.length≤4294967296):Zb T 86 [.sl (Za a) .an]=some (.sl (Za (ofN (val a))) .an):=by
 obtain⟨n,h1,h2,h3,h4⟩:=zpe a;have hr:=ztm (T:=T) a (by omega) h1 h3 h4 a.length ⟨h1,Yi _⟩;rw[zab Zp.h86 rfl,b86];simp[hr,h1,h2]
theorem ztn(a:List UInt32)(m:Nat)(hl:a.length+m≤4294967296):Zb T 106 [.sl (Za a) .an,.i .i64 (m:Int)]=some (.sl (Za (a++List.replicate m 0)) .an):=by
 have hw:IntKind.wrap .i64 ((a.length:Int)+m)=((a.length+m:Nat):Int):=zac _ (by omega);have h0:(0:Int)≤(a.length:Int)+m:=by omega
 have h2:(a.length:Int)+m≤4294967296:=by omega
 have h3:((a.length:Int)+m).toNat=a.length+m:=by omega
 rw[zab Zp.h106 rfl,b106];simp[hw,h0,h2,h3,Yb]
theorem zb3(a:List UInt32)(m:Nat)(hl:a.length+m≤4294967296):Zcj T 2106 [.sl (Za a) .an,.i .i64 (m:Int)] [] =
  some (.bs (.loc 10) 1 1 0 (a.length+m),[(.loc 10,⟨1,.own,1,Za (a++List.replicate m 0)⟩)]):=by
 have hw:IntKind.wrap .i64 ((a.length:Int)+m)=((a.length+m:Nat):Int):=zac _ (by omega);have h0:(0:Int)≤(a.length:Int)+m:=by omega
 have h2:(a.length:Int)+m≤4294967296:=by omega
 have h3:((a.length:Int)+m).toNat=a.length+m:=by omega
 rw[zbl Zp.h2106 rfl,b2106];simp[hw,h0,h2,h3]
theorem za5(a:List UInt32)(hl:a.length≤4294967296):Zb T 71 [.sl (Za a) .an]=some (.sl (Za (ofN (val a))) .an):=by
 have h1:=zad a;have h2:=ztn (T:=T) (ofN (val a)) 0 (by omega);simp only[Yai]at h2;rw[zab Zp.h71 rfl,b71];simp[zbf a hl,h2]
theorem zdk(n:Nat)(h:n<18446744073709551616):Zb T 72 [u64 n]=some (.sl (Za (ofN n)) .an):=by
 have e2:val [w32 n,w32 (n/4294967296)]=n:=by simp[zc4];omega
 have h2:=zbf (T:=T) [w32 n,w32 (n/4294967296)] (by simp);rw[e2]at h2;have h3:n/4294967296%4294967296=n/4294967296:=Yt (by omega);rw[zab Zp.h72 rfl,b72];simp[h3,zbe _ _ _ (show n/4294967296<4294967296 by omega),h2]
theorem zdx(a:List UInt32)(hl:a.length≤4294967296):Zb T 70 [.sl (Za a) .an]=some (.b (decide (val a=0))):=by
 rw[zab Zp.h70 rfl,b70];have:((((ofN (val a)).length:Int) == 0))=decide (val a=0):=by
  rw[Yb3];simp[za2]
 simp[zbf a hl,this]
def Zfi(a b:List UInt32)(y:Nat×Nat×List UInt32):St:=
 ⟨[(0,.sl (Za a) .an),(1,.sl (Za b) .an),(5,.bs (.fld (.loc 17) 10) 1 1 0 (a.length+1)),(6,u32 y.2.1),(19,.i .i64 a.length),(20,.i .i64 y.1)],
  [(.fld (.loc 17) 10,⟨1,.own,1,Za y.2.2⟩)],3⟩
theorem zlp(a b:List UInt32)(hb:b.length≤a.length)(hl:a.length≤1000000):∀y:Nat×Nat×List UInt32,
  (y.1≤a.length∧y.2.1≤1∧y.2.2.length=a.length+1∧val (y.2.2.take y.1)+4294967296^y.1*y.2.1=val (a.take y.1)+val (b.take y.1)) →
  ∃r,(∃(c:Nat) (out:List UInt32),r=(Ex.n,(⟨[(0,.sl (Za a) .an),(5,.bs (.fld (.loc 17) 10) 1 1 0 (a.length+1)),(6,u32 c)],[(.fld (.loc 17) 10,⟨1,.own,1,Za out⟩)],3⟩:St)) ∧
   out.length=a.length+1∧c≤1∧val (out.take a.length)+4294967296^a.length*c=val a+val b)∧Zw T 0 0 (.norm false [0,5,6]) l85_0 (Zfi a b y)=some r:=by
 refine za4 _ _ (fun y=>a.length-y.1) _ ?_
 rintro⟨i,c,out⟩ ⟨hi,hc,ho,hv⟩
 simp only at hi hc ho hv;by_cases h0:i<a.length
 ·left;have ha:a[i]? = some (a[i]'h0):=Ya h0;have hoi:i<out.length:=by omega
  have hog:out[i]? = some (out[i]'hoi):=Ya hoi;have hw:IntKind.wrap .i64 ((i:Int)+1)=((i+1:Nat):Int):=zac _ (by omega);have hc2:c<4294967296:=by omega
  have hil:(i:Int)<(a.length:Int)+1:=by omega
  have h1:=zaf ha;by_cases h2:i<b.length
  ·have hbg:b[i]? = some (b[i]'h2):=Ya h2;have h3:=zaf hbg;refine⟨(i+1,((a[i]'h0).toNat+(b[i]'h2).toNat+c)/4294967296,out.set i (w32 ((a[i]'h0).toNat+(b[i]'h2).toNat+c))),⟨by simp only;omega,?_,by simp[ho],?_⟩,by simp only;omega,?_⟩
   ·have:=zam (a[i]'h0);have:=zam (b[i]'h2);simp only;omega
   ·simp only;rw[zb0 _ hoi,h1,h3,zc4,Y7];generalize 4294967296^i=p at *
    generalize (a[i]'h0).toNat=x at *
    generalize (b[i]'h2).toNat=z at *
    have e:=Yb1 (x+z+c) 4294967296;have e2:p*((x+z+c)%4294967296)+p*4294967296*((x+z+c)/4294967296)=p*(x+z+c):=by
     conv=>rhs;rw[←e]
     rw[Yao,Yax];omega
    rw[Yao,Yao]at e2;omega
   ·simp[l85_0,Zfi,h0,h2,hog,hw,hil,zdj,hc2]
  ·have h3:val (b.take (i+1))=val (b.take i):=by rw[zbc (by omega),zbc (by omega)]
   refine⟨(i+1,((a[i]'h0).toNat+0+c)/4294967296,out.set i (w32 ((a[i]'h0).toNat+0+c))),⟨by simp only;omega,?_,by simp[ho],?_⟩,by simp only;omega,?_⟩
   ·have:=zam (a[i]'h0);simp only;omega
   ·simp only;rw[zb0 _ hoi,h1,h3,zc4,Y7];generalize 4294967296^i=p at *
    generalize (a[i]'h0).toNat=x at *
    have e:=Yb1 (x+0+c) 4294967296;have e2:p*((x+0+c)%4294967296)+p*4294967296*((x+0+c)/4294967296)=p*(x+0+c):=by
     conv=>rhs;rw[←e]
     rw[Yao,Yax];omega
    rw[Yao,Yao]at e2;omega
   ·simp[l85_0,Zfi,h0,h2,hog,hw,hil,zdj,hc2]
 ·right;have:i=a.length:=by omega
  subst this;rw[Yb (Yi _),Yb hb]at hv;refine⟨_,⟨c,out,rfl,ho,hc,hv⟩,?_,?_⟩<;>simp[l85_0,Zfi]
theorem zto(a b:List UInt32)(hb:b.length≤a.length)(hl:a.length≤1000000):Zb T 85 [.sl (Za a) .an,.sl (Za b) .an]=some (.sl (Za (ofN (val a+val b))) .an):=by
 have hf:=zb3 (T:=T) a 1 (by omega);simp only[Yeh]at hf;obtain⟨_,⟨c,out,rfl,ho,hc,hv⟩,hr⟩:=zlp (T:=T) a b hb hl (0,0,a++List.replicate 1 0) ⟨Yz _,Yz _,by simp,by simp⟩;unfold Zfi at hr;simp at hr;have hog:out[a.length]? = some (out[a.length]'(by omega)):=Ya _;have h1:¬ (a.length:Int)<b.length:=by omega
 have h2:¬ a.length<b.length:=by omega
 have h3:(a.length:Int)<(a.length:Int)+1:=by omega
 have hval:val (out.set a.length (w32 c))=val a+val b:=by
  rw[←Yb (l:=out.set a.length (w32 c)) (i:=a.length+1) (by simp;omega),zb0 _ (by omega),zag (by omega)];exact hv
 have ht:=zbf (T:=T) (out.set a.length (w32 c)) (by simp;omega);rw[hval]at ht;have htk:List.take (a.length+1) (out.set a.length (w32 c))=out.set a.length (w32 c):=Yb (by simp;omega);rw[zab Zp.h85 rfl,b85];simp[h1,hf,hr,h3,zbe _ _ _ (show c<4294967296 by omega),htk,ht,ho]
theorem zqm(a b:List UInt32)(hb:a.length<b.length)(hl:b.length≤1000000):Zb T 85 [.sl (Za a) .an,.sl (Za b) .an]=some (.sl (Za (ofN (val a+val b))) .an):=by
 have hf:=zb3 (T:=T) b 1 (by omega);simp only[Yeh]at hf;obtain⟨_,⟨c,out,rfl,ho,hc,hv⟩,hr⟩:=zlp (T:=T) b a (by omega) hl (0,0,b++List.replicate 1 0) ⟨Yz _,Yz _,by simp,by simp⟩;unfold Zfi at hr;simp at hr;have hog:out[b.length]? = some (out[b.length]'(by omega)):=Ya _;have h1:(a.length:Int)<b.length:=by omega
 have h3:(b.length:Int)<(b.length:Int)+1:=by omega
 have hval:val (out.set b.length (w32 c))=val a+val b:=by
  rw[←Yb (l:=out.set b.length (w32 c)) (i:=b.length+1) (by simp;omega),zb0 _ (by omega),zag (by omega),hv,Ybf]
 have ht:=zbf (T:=T) (out.set b.length (w32 c)) (by simp;omega);rw[hval]at ht;have htk:List.take (b.length+1) (out.set b.length (w32 c))=out.set b.length (w32 c):=Yb (by simp;omega);rw[zab Zp.h85 rfl,b85];simp[h1,hf,hr,h3,zbe _ _ _ (show c<4294967296 by omega),htk,ht,ho]
theorem zwk(a b:List UInt32)(ha:a.length≤1000000)(hb:b.length≤1000000):Zb T 85 [.sl (Za a) .an,.sl (Za b) .an]=some (.sl (Za (ofN (val a+val b))) .an):=by
 rcases Yq a.length b.length with h | h
 ·exact zqm a b h hb
 ·exact zto a b h ha
def Zdd(l:List (List UInt32)):Nat:=(l.map val).sum
theorem zwl(K:Nat):∀m:List (List UInt32),m.length≤1000→(∀a∈m,a.length≤K)→(ofN (Zdd m)).length≤K+1:=by
 intro m hm hw;apply zah;rw[Y7];have hp0:0<4294967296^K:=Ybm (by decide);have hall:∀a∈m,val a<4294967296^K:=fun a ha=>Yo (zaw a) (Yr (by decide) (hw a ha));generalize 4294967296^K=p at *
 have h1:Zdd m≤m.length*p:=by
  clear hm hw
  induction m with
  | nil=>simp[Zdd]
  | cons a m ih=>
   have h2:=ih fun a ha=>hall a (Yh _ ha);have h3:=hall a Yl;simp only[Zdd,Ys,Ycm,Yc,Ybl,Yd4]at h2 ⊢;omega
 have h6:=Y0 p hm;omega
theorem zwm(l:List (List UInt32))(hl:l.length≤1000)(hw:∀a∈l,a.length≤90000):∀i:Nat,i≤l.length →
  Zw T 0 0 (.norm false [3]) l56_0 ⟨[(3,.sl (Za (ofN (Zdd (l.take i)))) .an),(6,.sl (lls l) .an),(7,.i .i64 l.length),(8,.i .i64 i)],[],2⟩=some (.n,⟨[(3,.sl (Za (ofN (Zdd l))) .an)],[],2⟩):=by
 refine zau (fun i:Nat=>⟨[(3,.sl (Za (ofN (Zdd (l.take i)))) .an),(6,.sl (lls l) .an),(7,.i .i64 l.length),(8,.i .i64 i)],[],2⟩) _ (fun i=>l.length-i) _ ?_;intro i hi;by_cases h0:i<l.length
 ·left;have hg:l[i]? = some (l[i]'h0):=Ya h0;have hwr:IntKind.wrap .i64 ((i:Int)+1)=((i+1:Nat):Int):=zac _ (by omega);have hw1:=hw _ (Yaa h0);have ht:=zbf (T:=T) (l[i]'h0) (by omega);have hs:=zwl 90000 (l.take i) (by simp;omega) fun a ha=>hw a (Ya3 ha);have hp:=zwk (T:=T) (ofN (Zdd (l.take i))) (ofN (val (l[i]'h0))) (by omega) (by have:=zad (l[i]'h0);omega);rw[zae,zae]at hp;have e:Zdd (l.take i)+val (l[i]'h0)=Zdd (l.take (i+1)):=by
   unfold Zdd;rw[Ycl,hg];simp only[Option.toList_some,Ych,Ys,Ycd,List.sum_append,Ycm,List.sum_nil,Y2]
  rw[e]at hp;have hz:Zht 1 (lls l)=true:=by cases l<;>simp[lls,Zht]
  refine⟨i+1,h0,by show l.length-(i+1)<l.length-i;omega,?_,rfl⟩;simp[l56_0,h0,ht,hp,hwr]
 ·right;have:i=l.length:=by omega
  subst this;rw[Yb (Yi _)];constructor<;>simp[l56_0]
theorem zo2(l:List (List UInt32))(hl:l.length≤1000)(hw:∀a∈l,a.length≤90000):Zb T 56 [.sl (lls l) .an]=some (.sl (Za (ofN (Zdd l))) .an):=by
 have h:=zwm (T:=T) l hl hw 0 (Yz _);simp[Zdd]at h;rw[zab Zp.h56 rfl,b56];simp[h,Zdd]
theorem ztp(l:List (List UInt32))(hl:l.length≤1000)(hw:∀a∈l,a.length≤10000):Zb T 56 [.sl (lls l) .an]=some (.sl (Za (ofN (Zdd l))) .an):=zo2 (T:=T) l hl (fun a h=>Yg (hw a h) (by decide))
end
section
variable{T:Tbl}
theorem zwn(a b:List UInt32)(hab:a.length=b.length)(hl:a.length≤1000000):∀m:Nat,m≤a.length →
  Zw T 0 1 (.norm false []) l87_0 ⟨[(0,.sl (Za a) .an),(1,.sl (Za b) .an),(5,.i .i64 ((m:Int)-1))],[],2⟩ =
   if val (a.take m)<val (b.take m) then some (.r,⟨[(4,.i .i64 (-1))],[],2⟩) else if val (b.take m)<val (a.take m) then some (.r,⟨[(4,.i .i64 1)],[],2⟩) else some (.n,⟨[],[],2⟩):=by
 refine zau (fun m:Nat=>⟨[(0,.sl (Za a) .an),(1,.sl (Za b) .an),(5,.i .i64 ((m:Int)-1))],[],2⟩) _ (fun m=>m) _ ?_;intro m hm;cases m with
 | zero=>
  right;constructor<;>simp[l87_0]
 | succ i=>
  have ha:a[i]? = some (a[i]'(by omega)):=Ya _;have hb:b[i]? = some (b[i]'(by omega)):=Ya _;have hia:i<a.length:=by omega
  have hib:i<b.length:=by omega
  have hw:IntKind.wrap .i64 ((i:Int)-1)=(i:Int)-1:=zac _ (by omega);rcases Yb2 (a[i]'hia).toNat (b[i]'hib).toNat with h1 | h1 | h1
  ·right;have h2:=zu0 ha hb h1;constructor<;>simp[l87_0,hia,hib,h1,h2]
  ·left;refine⟨i,by omega,Y1 i,?_,?_⟩
   ·simp[l87_0,hia,hib,h1,hw]
   ·have e1:=zaf ha;have e2:=zaf hb;rw[e1,e2,h1];have e3:(val (a.take i)+4294967296^i*(b[i]'hib).toNat<val (b.take i)+4294967296^i*(b[i]'hib).toNat)=(val (a.take i)<val (b.take i)):=by
     apply propext;omega
    have e4:(val (b.take i)+4294967296^i*(b[i]'hib).toNat<val (a.take i)+4294967296^i*(b[i]'hib).toNat)=(val (b.take i)<val (a.take i)):=by
     apply propext;omega
    simp only[e3,e4]
  ·right;have h2:=zu0 hb ha h1;have h3:¬ val (a.take (i+1))<val (b.take (i+1)):=by omega
   have h4:¬ (a[i]'hia).toNat<(b[i]'hib).toNat:=by omega
   constructor<;>simp[l87_0,hia,hib,h1,h2,h3,h4]
end
section
variable{T:Tbl}[Zp T]
theorem zfk(a b:List UInt32)(ha:a.length≤1000000)(hb:b.length≤1000000):Zb T 87 [.sl (Za a) .an,.sl (Za b) .an]=some (.i .i64 (Zel (val a) (val b))):=by
 have hta:=zbf (T:=T) a (by omega);have htb:=zbf (T:=T) b (by omega);have hla:=zad a;have hlb:=zad b;rw[zab Zp.h87 rfl,b87];rcases Yb2 (ofN (val a)).length (ofN (val b)).length with h | h | h
 ·have h1:=zft h;simp[hta,htb,h,Zel,h1]
 ·have hc:=zwn (T:=T) (ofN (val a)) (ofN (val b)) h (by omega) (ofN (val a)).length (Yi _);rw[Yb (Yi _),Yb (by omega),zae,zae]at hc;have hw:IntKind.wrap .i64 (((ofN (val a)).length:Int)-1)=((ofN (val a)).length:Int)-1:=zac _ (by omega);have h1:¬ (ofN (val a)).length<(ofN (val b)).length:=by omega
  have h2:¬ (ofN (val b)).length<(ofN (val a)).length:=by omega
  simp[hta,htb,h1,h2,hw,hc,Zel]
  repeat' split
  all_goals simp
 ·have h1:=zft h;have h2:¬ val a<val b:=by omega
  have h3:¬ (ofN (val a)).length<(ofN (val b)).length:=by omega
  simp[hta,htb,h,Zel,h1,h2,h3]
def Zhj(a b:List UInt32)(y:Nat×Nat×List UInt32):St:=
 ⟨[(0,.sl (Za a) .an),(1,.sl (Za b) .an),(6,.bs (.fld (.loc 19) 10) 1 1 0 a.length),(7,u32 y.2.1),(21,.i .i64 a.length),(22,.i .i64 y.1)],
  [(.fld (.loc 19) 10,⟨1,.own,1,Za y.2.2⟩)],3⟩
theorem zwo(a b:List UInt32)(hb:b.length≤a.length)(hl:a.length≤1000000):∀y:Nat×Nat×List UInt32,
  (y.1≤a.length∧y.2.1≤1∧y.2.2.length=a.length∧val (y.2.2.take y.1)+val (b.take y.1)=val (a.take y.1)+4294967296^y.1*y.2.1) →
  ∃r,(∃(c:Nat) (out:List UInt32),r=(Ex.n,(⟨[(6,.bs (.fld (.loc 19) 10) 1 1 0 a.length)],[(.fld (.loc 19) 10,⟨1,.own,1,Za out⟩)],3⟩:St)) ∧
   out.length=a.length∧c≤1∧val out+val b=val a+4294967296^a.length*c)∧Zw T 0 0 (.norm false [6]) l88_0 (Zhj a b y)=some r:=by
 refine za4 _ _ (fun y=>a.length-y.1) _ ?_
 rintro⟨i,c,out⟩ ⟨hi,hc,ho,hv⟩
 simp only at hi hc ho hv;by_cases h0:i<a.length
 ·left;have ha:a[i]? = some (a[i]'h0):=Ya h0;have hoi:i<out.length:=by omega
  have hog:out[i]? = some (out[i]'hoi):=Ya hoi;have hw:IntKind.wrap .i64 ((i:Int)+1)=((i+1:Nat):Int):=zac _ (by omega);have hc2:c<4294967296:=by omega
  have hx:=zam (a[i]'h0);have h1:=zaf ha;have fin:∀z:Nat,z<4294967296→val (b.take (i+1))=val (b.take i)+4294967296^i*z →
    val ((out.set i (w32 ((a[i]'h0).toNat+8589934592-(z+c)))).take (i+1))+val (b.take (i+1))=val (a.take (i+1))+4294967296^(i+1)*(2-((a[i]'h0).toNat+8589934592-(z+c))/4294967296):=by
   intro z hz h3;have hs:=(zj4 hx hz hc).1;rw[zb0 _ hoi,h1,h3,zc4,Y7];generalize 4294967296^i=p at *
   generalize (a[i]'h0).toNat=x at *
   generalize (x+8589934592-(z+c))%4294967296=s at *
   generalize 2-(x+8589934592-(z+c))/4294967296=d at *
   have e2:p*s+p*(z+c)=p*x+p*4294967296*d:=by rw[←Yao,hs,Yao,Yax]
   rw[Yao]at e2;omega
  by_cases h2:i<b.length
  ·have hbg:b[i]? = some (b[i]'h2):=Ya h2;have h3:=zaf hbg;refine⟨(i+1,2-((a[i]'h0).toNat+8589934592-((b[i]'h2).toNat+c))/4294967296,out.set i (w32 ((a[i]'h0).toNat+8589934592-((b[i]'h2).toNat+c)))),⟨h0,(zj4 hx (zam _) hc).2,by simp[ho],fin _ (zam _) h3⟩,by simp only;omega,?_⟩;simp[l88_0,Zhj,h0,h2,hog,hw,ze4,hc2]
  ·have h3:val (b.take (i+1))=val (b.take i)+4294967296^i*0:=by rw[zbc (by omega),zbc (by omega)];simp
   refine⟨(i+1,2-((a[i]'h0).toNat+8589934592-(0+c))/4294967296,out.set i (w32 ((a[i]'h0).toNat+8589934592-(0+c)))),⟨h0,(zj4 hx (by decide) hc).2,by simp[ho],fin 0 (by decide) h3⟩,by simp only;omega,?_⟩;simp[l88_0,Zhj,h0,h2,hog,hw,ze4,hc2]
 ·right;have:i=a.length:=by omega
  subst this;rw[Yb (Yi _),Yb hb,Yb (by omega)]at hv;refine⟨_,⟨c,out,rfl,ho,hc,hv⟩,?_,?_⟩<;>simp[l88_0,Zhj]
theorem zc2{x y:Nat}:Zel x y<0↔x<y:=by
 unfold Zel;split
 ·simp[*]
 ·split<;>simp[*]
theorem ztq(a b:List UInt32)(ha:a.length≤1000000)(hb:b.length≤1000000):Zb T 88 [.sl (Za a) .an,.sl (Za b) .an] =
  some (if val a<val b then .tup [.sl [] .an,.b false] else .tup [.sl (Za (ofN (val a-val b))) .an,.b true]):=by
 have hta:=zbf (T:=T) a (by omega);have htb:=zbf (T:=T) b (by omega);have hla:=zad a;have hlb:=zad b;have hc:=zfk (T:=T) (ofN (val a)) (ofN (val b)) (by omega) (by omega);rw[zae,zae]at hc;rw[zab Zp.h88 rfl,b88];by_cases h:val a<val b
 ·simp[hta,htb,hc,zc2,h]
 ·have hle:=za7 (show val b≤val a by omega);have hf:=zb3 (T:=T) (ofN (val a)) 0 (by omega);simp only[Yai,Y2,List.replicate_zero,Yat]at hf;obtain⟨_,⟨c,out,rfl,ho,hc1,hv⟩,hr⟩:=zwo (T:=T) (ofN (val a)) (ofN (val b)) hle (by omega) (0,0,ofN (val a)) ⟨Yz _,Yz _,rfl,by simp⟩;unfold Zhj at hr;simp at hr;rw[zae,zae]at hv;have hlt:=zaw out;rw[ho]at hlt;have hc0:c=0:=by
   rcases Ybj c with h1 | h1
   ·exact h1
   ·have:c=1:=by omega
    subst this;omega
  subst hc0;have hval:val out=val a-val b:=by omega
  have ht:=zbf (T:=T) out (by omega);rw[hval]at ht;have htk:List.take (ofN (val a)).length out=out:=Yb (by omega);simp[hta,htb,hc,zc2,h,hf,hr,ho,htk,ht]
theorem zz0(a b:List UInt32)(ha:a.length≤1000000)(hb:b.length≤1000000):Zb T 57 [.sl (Za a) .an,.sl (Za b) .an] =
  some (.tup [.sl (Za (ofN (if val a<val b then val b-val a else val a-val b))) .an,.i .i64 (Zel (val a) (val b))]):=by
 have hc:=zfk (T:=T) a b ha hb;rw[zab Zp.h57 rfl,b57];by_cases h:val a<val b
 ·have h2:¬ val b<val a:=by omega
  have hs:=ztq (T:=T) b a hb ha;rw[if_neg h2]at hs;simp[hc,zc2,h,hs]
 ·have hs:=ztq (T:=T) a b ha hb;rw[if_neg h]at hs;simp[hc,zc2,h,hs]
theorem zwp{x y:Nat}(hx:x<4294967296):x ||| (y*4294967296)=x+y*4294967296:=by
 have:=Ycg (i:=32) hx y;rw[Nat.or_comm,Yac y,show (4294967296:Nat)=2^32 from rfl,←this];omega
end
section
variable{T:Tbl}
theorem zqn(l:List UInt32)(hl:l.length≤2):∀i:Nat,i≤l.length →
  Zw T 0 0 (.norm false [4]) l73_0 ⟨[(4,u64 (val (l.take i))),(12,.sl (Za l) .an),(13,.i .i64 l.length),(14,.i .i64 i)],[],2⟩=some (.n,⟨[(4,u64 (val l))],[],2⟩):=by
 refine zau (fun i:Nat=>⟨[(4,u64 (val (l.take i))),(12,.sl (Za l) .an),(13,.i .i64 l.length),(14,.i .i64 i)],[],2⟩) _ (fun i=>l.length-i) _ ?_;intro i hi;by_cases h0:i<l.length
 ·left;have hg:l[i]? = some (l[i]'h0):=Ya h0;have hx:=zam (l[i]'h0);have h1:=zaf hg;refine⟨i+1,h0,by show l.length-(i+1)<l.length-i;omega,?_,rfl⟩;rcases(show i=0∨i=1 by omega) with rfl | rfl
  ·simp[l73_0,h0,h1]
  ·have h2:val (l.take 1)<4294967296:=by
    have:=zaw (l.take 1);have h3:(l.take 1).length=1:=by simp;omega
    rw[h3]at this;simpa using this
   have e1:(l[1]'h0).toNat*4294967296%18446744073709551616=(l[1]'h0).toNat*4294967296:=Yt (by omega);have e2:=zwp (y:=(l[1]'h0).toNat) h2;have e3:(val (l.take 1)+(l[1]'h0).toNat*4294967296)%18446744073709551616=val (l.take 1)+(l[1]'h0).toNat*4294967296:=Yt (by omega);have e4:val (l.take 1)+(l[1]'h0).toNat*4294967296=val (l.take (1+1)):=by rw[h1];omega
   simp at e4;have h0':(1:Int)<(l.length:Int):=by omega
   have e5:val (List.take 2 l)<18446744073709551616:=by omega
   simp[l73_0,h0,h0',e1,e2,e4,e5]
 ·right;have:i=l.length:=by omega
  subst this;rw[Yb (Yi _)];constructor<;>simp[l73_0]
end
section
variable{T:Tbl}[Zp T]
theorem zlq(a:List UInt32)(ha:a.length≤1000000):Zb T 73 [.sl (Za a) .an] =
  some (if val a<18446744073709551616 then .tup [u64 (val a),.b true] else .tup [u64 0,.b false]):=by
 have hta:=zbf (T:=T) a (by omega);have hla:=zad a;have hv:=zae (val a);rw[zab Zp.h73 rfl,b73];generalize hl:ofN (val a)=l at *
 by_cases h:2<l.length
 ·have h2:¬ val a<18446744073709551616:=by
   intro h3;have:=zah (show val a<4294967296^2 from h3);rw[hl]at this;omega
  have h3:(2:Int)<(l.length:Int):=by omega
  simp[hta,h3,h2]
 ·have h2:val a<18446744073709551616:=by
   have:=zaw l;rw[hv]at this;have h3:4294967296^l.length≤4294967296^2:=Yr (by decide) (by omega);omega
  have h3:¬ (2:Int)<(l.length:Int):=by omega
  have hs:=zqn (T:=T) l (by omega) 0 (Yz _);simp at hs;simp[hta,h3,h2,hs,hv]
end
end Go.Ab
end
section
namespace Go.Ab
def l89_0:AX:=
 (.note
 (.seq
 (.reg [rg 15 (.bin .lss (.t 14) (.t 13))])
 (.seq
 (.cond (.t 15)
 .skip
 (.exit 0))
 (.seq
 (.block 1
 (.seq
 (.reg [mv 16 14,rg 17 (.iad 1 (.t 12) (.t 14)),rg 18 (.load none (.t 17)),mv 10 16,mv 11 18])
 (.reg [mv 20 0,mv 21 1,mv 22 10,rg 23 (.bin .add (.t 21) (.t 22)),mv 24 3,mv 25 11,mv 26 0,mv 27 1,mv 28 10,rg 29 (.bin .add (.t 27) (.t 28)),rg 30 (.iad 1 (.t 26) (.t 29)),rg 31 (.load none (.t 30)),mv 32 4,rg 33 (.call 117 [(.t 24),(.t 25),(.t 31),(.t 32)]),mv 19 33,rg 34 (.ext (.t 19) 0),rg 35 (.ext (.t 19) 1),mv 4 34,rg 36 (.iad 1 (.t 20) (.t 23)),so (.store 1 (.t 36) (.t 35))])))
 (.reg [rg 37 (.bin .add (.t 14) (.c (.i .i64 1))),mv 14 37]))))
 (.norm false [0,1,2,3,4,12,13,14]))
def b89:AX:=
 (.seq
 (.seq
 (.reg [mv 12 2,rg 13 (.len (.t 12)),rg 14 (.mov (.c (.i .i64 0)))])
 (.lp 0 (.norm false [0,1,2,3,4,12,13,14]) l89_0 (.norm false [0,1,2,4])))
 (.reg [mv 38 0,mv 39 1,mv 40 2,rg 41 (.len (.t 40)),rg 42 (.bin .add (.t 39) (.t 41)),mv 43 4,rg 44 (.iad 1 (.t 38) (.t 42)),so (.store 1 (.t 44) (.t 43))]))
def b100:AX:=
 (.seq
 (.reg [rg 6 (.mov (.c (.sl [] .nl)))])
 (.seq
 (.reg [mv 8 0,rg 9 (.len (.t 8)),rg 10 (.bin .add (.t 9) (.c (.i .i64 1))),rg 11 (.mks 1 [(u32 0)] (.t 10) (.t 10)),mv 7 11])
 (.seq
 (.reg [mv 12 7,mv 13 0,mv 14 1,mv 15 2,rg 16 (.call 89 [(.t 12),(.c (.i .i64 0)),(.t 13),(.t 14),(.t 15)])])
 (.seq
 (.reg [mv 17 7,rg 18 (.call 71 [(.t 17)]),mv 6 18])
 (.pre (.norm false [6]) .ret)))))
def l60_0:AX:=
 (.note
 (.seq
 (.reg [rg 18 (.bin .lss (.t 17) (.t 16))])
 (.seq
 (.cond (.t 18)
 .skip
 (.exit 0))
 (.seq
 (.block 1
 (.seq
 (.reg [mv 19 17,rg 20 (.iad 1 (.t 15) (.t 17)),rg 21 (.load none (.t 20)),mv 6 19,mv 7 21])
 (.reg [mv 22 5,mv 23 6,mv 24 0,mv 25 7,rg 26 (.call 89 [(.t 22),(.t 23),(.t 24),(.t 25),(.c (u32 0))])])))
 (.reg [rg 27 (.bin .add (.t 17) (.c (.i .i64 1))),mv 17 27]))))
 (.norm false [0,5,15,16,17]))
def b60:AX:=
 (.seq
 (.reg [rg 4 (.mov (.c (.sl [] .nl)))])
 (.seq
 (.reg [mv 8 0,rg 9 (.len (.t 8)),mv 10 1,rg 11 (.len (.t 10)),rg 12 (.bin .add (.t 9) (.t 11)),rg 13 (.bin .add (.t 12) (.c (.i .i64 1))),rg 14 (.mks 1 [(u32 0)] (.t 13) (.t 13)),mv 5 14])
 (.seq
 (.seq
 (.reg [mv 15 1,rg 16 (.len (.t 15)),rg 17 (.mov (.c (.i .i64 0)))])
 (.lp 0 (.norm false [0,5,15,16,17]) l60_0 (.norm false [5])))
 (.seq
 (.reg [mv 28 5,rg 29 (.call 71 [(.t 28)]),mv 4 29])
 (.pre (.norm false [4]) .ret)))))
def row89:AFx:=⟨5,45,[],b89,(some [true,false,false,false,false]),false⟩
def row100:AFx:=⟨3,19,[.t 6],b100,none,false⟩
def row60:AFx:=⟨2,30,[.t 4],b60,none,false⟩
class Zv (T:Tbl):Prop extends Zp T where
 h89:T 89=some row89
 h100:T 100=some row100
 h60:T 60=some row60
section
variable{T:Tbl}[Zv T]{d:Option Nat}{st:St}
@[simp] theorem x89(xs:List AV):Zc (orc T) T 89 xs d st=bL (Zej st.heap [true,false,false,false,false] xs) fun ys=>Zd8 ys (Zj (Zav [true,false,false,false,false] xs) st.heap) (Zcu (Zj (Zav [true,false,false,false,false] xs) st.heap) 40 (Zcc [true,false,false,false,false] xs) []) T 89 false d st:=za1 Zv.h89
@[simp] theorem x100(xs:List AV):Zc (orc T) T 100 xs d st=cP T 100 false xs d st:=zaa Zv.h100
@[simp] theorem x60(xs:List AV):Zc (orc T) T 60 xs d st=cP T 60 false xs d st:=zaa Zv.h60
@[simp] theorem y60{e:Env}{h:Heap}{older:List Heap}(args:List Opd):opD (orc T) T (.call 60 args) e h older=dR (Zb T 60 ((args.map (ev e.get)).map (wkIf false))) (args.map (ev e.get)):=zav Zv.h60
end
end Go.Ab
end
section
namespace Go.Ab
def l92_0:AX:=
 (.note
 (.seq
 (.reg [rg 27 (.bin .lss (.t 26) (.t 25))])
 (.seq
 (.cond (.t 27)
 .skip
 (.exit 0))
 (.seq
 (.block 1
 (.seq
 (.reg [mv 28 26,rg 29 (.iad 1 (.t 24) (.t 26)),rg 30 (.load none (.t 29)),mv 8 28,mv 9 30])
 (.seq
 (.reg [mv 31 9,rg 32 (.conv .u64 (.t 31)),mv 33 6,rg 34 (.bin .shl (.t 32) (.t 33)),mv 10 34])
 (.seq
 (.reg [mv 35 7,mv 36 5,mv 37 8,rg 38 (.bin .add (.t 36) (.t 37)),rg 39 (.iad 1 (.t 35) (.t 38)),rg 40 (.load none (.t 39)),mv 41 10,rg 42 (.conv .u32 (.t 41)),rg 43 (.bin .or (.t 40) (.t 42)),rg 44 (.iad 1 (.t 35) (.t 38)),so (.store 1 (.t 44) (.t 43))])
 (.reg [mv 45 7,mv 46 5,mv 47 8,rg 48 (.bin .add (.t 46) (.t 47)),rg 49 (.bin .add (.t 48) (.c (.i .i64 1))),mv 50 10,rg 51 (.bin .shr (.t 50) (.c (u64 32))),rg 52 (.conv .u32 (.t 51)),rg 53 (.iad 1 (.t 45) (.t 49)),so (.store 1 (.t 53) (.t 52))])))))
 (.reg [rg 54 (.bin .add (.t 26) (.c (.i .i64 1))),mv 26 54]))))
 (.norm false [5,6,7,24,25,26]))
def b92:AX:=
 (.seq
 (.reg [rg 4 (.mov (.c (.sl [] .nl)))])
 (.seq
 (.reg [mv 11 1,rg 12 (.mm true [(.t 11),(.c (.i .i64 0))]),rg 13 (.mm false [(.t 12),(.c (.i .i64 4096))]),mv 1 13])
 (.seq
 (.reg [mv 14 1,rg 15 (.bin .quo (.t 14) (.c (.i .i64 32))),mv 16 1,rg 17 (.bin .rem (.t 16) (.c (.i .i64 32))),mv 5 15,mv 6 17])
 (.seq
 (.reg [mv 18 5,mv 19 0,rg 20 (.len (.t 19)),rg 21 (.bin .add (.t 18) (.t 20)),rg 22 (.bin .add (.t 21) (.c (.i .i64 1))),rg 23 (.mks 1 [(u32 0)] (.t 22) (.t 22)),mv 7 23])
 (.seq
 (.seq
 (.reg [mv 24 0,rg 25 (.len (.t 24)),rg 26 (.mov (.c (.i .i64 0)))])
 (.lp 0 (.norm false [5,6,7,24,25,26]) l92_0 (.norm false [7])))
 (.seq
 (.reg [mv 55 7,rg 56 (.call 71 [(.t 55)]),mv 4 56])
 (.pre (.norm false [4]) .ret)))))))
def l94_0:AX:=
 (.note
 (.seq
 (.reg [rg 28 (.bin .lss (.t 27) (.t 26))])
 (.seq
 (.cond (.t 28)
 .skip
 (.exit 0))
 (.seq
 (.block 1
 (.seq
 (.reg [mv 29 27,mv 8 29])
 (.seq
 (.reg [mv 30 0,mv 31 5,mv 32 8,rg 33 (.bin .add (.t 31) (.t 32)),rg 34 (.iad 1 (.t 30) (.t 33)),rg 35 (.load none (.t 34)),rg 36 (.conv .u64 (.t 35)),mv 9 36])
 (.seq
 (.seq
 (.reg [mv 37 5,mv 38 8,rg 39 (.bin .add (.t 37) (.t 38)),rg 40 (.bin .add (.t 39) (.c (.i .i64 1))),mv 41 0,rg 42 (.len (.t 41)),rg 43 (.bin .lss (.t 40) (.t 42))])
 (.cond (.t 43)
 (.reg [mv 44 9,mv 45 0,mv 46 5,mv 47 8,rg 48 (.bin .add (.t 46) (.t 47)),rg 49 (.bin .add (.t 48) (.c (.i .i64 1))),rg 50 (.iad 1 (.t 45) (.t 49)),rg 51 (.load none (.t 50)),rg 52 (.conv .u64 (.t 51)),rg 53 (.bin .shl (.t 52) (.c (u64 32))),rg 54 (.bin .or (.t 44) (.t 53)),mv 9 54])
 .skip))
 (.reg [mv 55 7,mv 56 8,mv 57 9,mv 58 6,rg 59 (.bin .shr (.t 57) (.t 58)),rg 60 (.conv .u32 (.t 59)),rg 61 (.iad 1 (.t 55) (.t 56)),so (.store 1 (.t 61) (.t 60))])))))
 (.reg [rg 62 (.bin .add (.t 27) (.c (.i .i64 1))),mv 27 62]))))
 (.norm false [0,5,6,7,26,27]))
def b94:AX:=
 (.seq
 (.reg [rg 4 (.mov (.c (.sl [] .nl)))])
 (.seq
 (.reg [mv 10 1,rg 11 (.mm true [(.t 10),(.c (.i .i64 0))]),mv 1 11])
 (.seq
 (.reg [mv 12 1,rg 13 (.bin .quo (.t 12) (.c (.i .i64 32))),mv 14 1,rg 15 (.bin .rem (.t 14) (.c (.i .i64 32))),mv 5 13,mv 6 15])
 (.seq
 (.seq
 (.reg [mv 16 5,mv 17 0,rg 18 (.len (.t 17)),rg 19 (.bin .geq (.t 16) (.t 18))])
 (.cond (.t 19)
 (.seq
 (.reg [rg 4 (.mov (.c (.sl [] .nl)))])
 (.pre (.norm false [4]) .ret))
 .skip))
 (.seq
 (.reg [mv 20 0,rg 21 (.len (.t 20)),mv 22 5,rg 23 (.bin .sub (.t 21) (.t 22)),rg 24 (.mks 1 [(u32 0)] (.t 23) (.t 23)),mv 7 24])
 (.seq
 (.seq
 (.reg [mv 25 7,rg 26 (.len (.t 25)),rg 27 (.mov (.c (.i .i64 0)))])
 (.lp 0 (.norm false [0,5,6,7,26,27]) l94_0 (.norm false [7])))
 (.seq
 (.reg [mv 63 7,rg 64 (.call 71 [(.t 63)]),mv 4 64])
 (.pre (.norm false [4]) .ret))))))))
def row92:AFx:=⟨2,57,[.t 4],b92,none,false⟩
def row94:AFx:=⟨2,65,[.t 4],b94,none,false⟩
class Zy (T:Tbl):Prop where
 h92:T 92=some row92
 h94:T 94=some row94
section
variable{T:Tbl}[Zy T]{d:Option Nat}{st:St}
@[simp] theorem x92(xs:List AV):Zc (orc T) T 92 xs d st=cP T 92 false xs d st:=zaa Zy.h92
@[simp] theorem x94(xs:List AV):Zc (orc T) T 94 xs d st=cP T 94 false xs d st:=zaa Zy.h94
end
end Go.Ab
end
section
namespace Go.Ab
theorem zfl{P m S:List UInt32}{i:Nat}(hm:m.length=i)(hi:i<S.length):(P++(m++S.drop i))[P.length+i]? = some (S[i]'hi):=by
 rw[Yj (by omega),Yb6,Yj (by omega),hm,Ycv,Yab,Y2,Ya hi]
theorem zfm{P m S:List UInt32}{i:Nat}(w:UInt32)(hm:m.length=i)(hi:i<S.length):(P++(m++S.drop i)).set (P.length+i) w=P++((m++[w])++S.drop (i+1)):=by
 rw[Yae (P.length+i) w (by omega),Yb6,Yae i w (by omega),hm,Ycv,Yw hi,Yc4];simp
section
variable{T:Tbl}[Zv T]
def Zh9(P S a:List UInt32)(x:Nat)(y:Nat×Nat×List UInt32):St:=
 ⟨[(0,.bs (.bor 0) 0 1 0 (P.length+S.length)),(1,.i .i64 P.length),(2,.sl (Za a) .an),(3,u32 x),(4,u32 y.2.1),(12,.sl (Za a) .an),(13,.i .i64 a.length),(14,.i .i64 y.1)],
  [(.bor 0,⟨0,.own,1,Za (P++(y.2.2++S.drop y.1))⟩)],4⟩
theorem zwv{p m w c c' s x y t v k:Nat}(h:m+p*c=s+x*t+k)(e:w+4294967296*c'=x*y+v+c):(m+p*w)+p*4294967296*c'=(s+p*v)+x*(t+p*y)+k:=by
 have e2:p*w+p*4294967296*c'=p*(x*y)+p*v+p*c:=by rw[Yax,←Yao,e,Yao,Yao]
 have e3:x*(t+p*y)=x*t+p*(x*y):=by rw[Yao,←Yax,Yac x p,Yax]
 omega
theorem zww(P S a:List UInt32)(x c0:Nat)(hx:x<4294967296)(hS:a.length<S.length)(hl:P.length+S.length≤1000000):∀y:Nat×Nat×List UInt32,
  (y.1≤a.length∧y.2.1<4294967296∧y.2.2.length=y.1∧val y.2.2+4294967296^y.1*y.2.1=val (S.take y.1)+x*val (a.take y.1)+c0) →
  ∃r,(∃(c:Nat) (m:List UInt32),r=(Ex.n,(⟨[(0,.bs (.bor 0) 0 1 0 (P.length+S.length)),(1,.i .i64 P.length),(2,.sl (Za a) .an),(4,u32 c)],[(.bor 0,⟨0,.own,1,Za (P++(m++S.drop a.length))⟩)],4⟩:St)) ∧
   m.length=a.length∧c<4294967296∧val m+4294967296^a.length*c=val (S.take a.length)+x*val a+c0)∧Zw T 1 0 (.norm false [0,1,2,4]) l89_0 (Zh9 P S a x y)=some r:=by
 refine za4 _ _ (fun y=>a.length-y.1) _ ?_
 rintro⟨i,c,m⟩ ⟨hi,hc,hm,hv⟩
 simp only at hi hc hm hv;by_cases h0:i<a.length
 ·left;have ha:a[i]? = some (a[i]'h0):=Ya h0;have hiS:i<S.length:=by omega
  have hs:S[i]? = some (S[i]'hiS):=Ya hiS;have hg:=zfl (P:=P) hm hiS;have hw:IntKind.wrap .i64 ((i:Int)+1)=((i+1:Nat):Int):=zac _ (by omega);have hw2:IntKind.wrap .i64 ((P.length:Int)+i)=((P.length+i:Nat):Int):=zac _ (by omega);have hlt:P.length+i<P.length+S.length:=by omega
  have hlt2:((P.length+i:Nat):Int)<(P.length:Int)+S.length:=by omega
  have hla:=zam (a[i]'h0);have hls:=zam (S[i]'hiS);have hmul:=zg8 hx hla;have hlen:(P++(m++S.drop i)).length=P.length+S.length:=by simp;omega
  have hcall:=zg9 (T:=T) x (a[i]'h0).toNat (S[i]'hiS).toNat c hx hla hls hc;have hset:=zfm (P:=P) (w32 (x*(a[i]'h0).toNat+(S[i]'hiS).toNat+c)) hm hiS;refine⟨(i+1,(x*(a[i]'h0).toNat+(S[i]'hiS).toNat+c)/4294967296,m++[w32 (x*(a[i]'h0).toNat+(S[i]'hiS).toNat+c)]),⟨h0,by simp only;omega,by simp[hm],?_⟩,by simp only;omega,?_⟩
  ·simp only;rw[zai,zaf ha,zaf hs,Y7,hm];simp only[zap,zbh,Yaz,Y2,zc4];exact zwv hv (by have:=Yb1 (x*(a[i]'h0).toNat+(S[i]'hiS).toNat+c) 4294967296;omega)
  ·simp[l89_0,Zh9,h0,hw,hw2,hiS,hg,hcall,hset]
 ·right;have:i=a.length:=by omega
  subst this;rw[Yb (Yi a.length)]at hv;refine⟨_,⟨c,m,rfl,hm,hc,hv⟩,?_,?_⟩<;>simp[l89_0,Zh9]
theorem zjp(P S a:List UInt32)(x c0:Nat)(hx:x<4294967296)(hc:c0<4294967296)(hS:a.length<S.length)(hl:P.length+S.length≤1000000) :
  ∃m,m.length=a.length+1∧val m=val (S.take a.length)+x*val a+c0 ∧
   Zcj T 89 [.bs (.bor 0) 0 1 0 (P.length+S.length),.i .i64 P.length,.sl (Za a) .an,u32 x,u32 c0] [(.bor 0,⟨0,.own,1,Za (P++S)⟩)] =
    some (.tup [],[(.bor 0,⟨0,.own,1,Za (P++(m++S.drop (a.length+1)))⟩)]):=by
 obtain⟨_,⟨c,m,rfl,hm,hc1,hv⟩,hr⟩:=zww (T:=T) P S a x c0 hx hS hl (0,c0,[]) ⟨Yz _,hc,rfl,by simp⟩;unfold Zh9 at hr;simp at hr;refine⟨m++[w32 c],by simp[hm],by rw[zai,hm];simpa[zag hc1]using hv,?_⟩;have hw2:IntKind.wrap .i64 ((P.length:Int)+a.length)=((P.length+a.length:Nat):Int):=zac _ (by omega);have hlt:P.length+a.length<P.length+S.length:=by omega
 have hlt2:((P.length+a.length:Nat):Int)<(P.length:Int)+S.length:=by omega
 have hg:=zfl (P:=P) hm hS;have hset:=zfm (P:=P) (w32 c) hm hS;rw[zbl Zv.h89 rfl,b89];simp[hr,hw2,hg,hS,zbe _ _ _ hc1,hset]
def Zia(a b:List UInt32)(y:Nat×List UInt32):St:=
 ⟨[(0,.sl (Za a) .an),(5,.bs (.loc 14) 1 1 0 (a.length+b.length+1)),(15,.sl (Za b) .an),(16,.i .i64 b.length),(17,.i .i64 y.1)],[(.loc 14,⟨1,.own,1,Za (y.2++List.replicate (b.length+1-y.1) 0)⟩)],3⟩
theorem zwx(a b:List UInt32)(ha:a.length≤100000)(hb:b.length≤100000):∀y:Nat×List UInt32,
  (y.1≤b.length∧y.2.length=a.length+y.1∧val y.2=val a*val (b.take y.1)) →
  ∃r,(∃out:List UInt32,r=(Ex.n,(⟨[(5,.bs (.loc 14) 1 1 0 (a.length+b.length+1))],[(.loc 14,⟨1,.own,1,Za out⟩)],3⟩:St))∧out.length=a.length+b.length+1∧val out=val a*val b) ∧
   Zw T 0 0 (.norm false [5]) l60_0 (Zia a b y)=some r:=by
 refine za4 _ _ (fun y=>b.length-y.1) _ ?_
 rintro⟨i,X⟩ ⟨hi,hX,hv⟩
 simp only at hi hX hv;by_cases h0:i<b.length
 ·left;have hbg:b[i]? = some (b[i]'h0):=Ya h0;have hw:IntKind.wrap .i64 ((i:Int)+1)=((i+1:Nat):Int):=zac _ (by omega);obtain⟨m,hm1,hm2,hc⟩:=zjp (T:=T) (X.take i) (X.drop i++List.replicate (b.length+1-i) 0) a (b[i]'h0).toNat 0 (zam _) (by decide) (by simp;omega) (by simp;omega);have e1:X.take i++(X.drop i++List.replicate (b.length+1-i) 0)=X++List.replicate (b.length+1-i) 0:=by rw[←Y6,Yav]
  have e2:(X.take i).length=i:=by simp;omega
  have e3:(X.drop i++List.replicate (b.length+1-i) 0).length=a.length+b.length+1-i:=by simp;omega
  have e4:i+(a.length+b.length+1-i)=a.length+b.length+1:=by omega
  have e5:(X.drop i++List.replicate (b.length+1-i) 0).drop (a.length+1)=List.replicate (b.length+1-(i+1)) 0:=by
   rw[Yd6,Ybg (by simp;omega),List.drop_replicate];simp only[Yau,Yan];congr 1;omega
  have e6:(X.drop i++List.replicate (b.length+1-i) 0).take a.length=X.drop i:=by
   rw[Yca (by simp;omega),Yb (by simp;omega)]
  rw[e1,e2,e3,e4,e5]at hc;rw[e6]at hm2;simp only[←Y6]at hc;refine⟨(i+1,X.take i++m),⟨h0,by simp only[Yp,e2,hm1];omega,?_⟩,by simp only;omega,?_⟩
  ·simp only;have e7:=zai (X.take i) (X.drop i);rw[Yav,e2]at e7;rw[zai,e2,hm2,zaf hbg,Yao (val a),←hv,e7,Yao,Yao];have e8:4294967296^i*((b[i]'h0).toNat*val a)=val a*(4294967296^i*(b[i]'h0).toNat):=by
    rw[Yac (b[i]'h0).toNat,←Yax,Yac (4294967296^i) (val a),Yax]
   rw[e8];omega
  ·simp[l60_0,Zia,h0,hw,hc]
 ·right;have:i=b.length:=by omega
  subst this;rw[Yb (Yi _)]at hv;refine⟨_,⟨X++List.replicate (b.length+1-b.length) 0,rfl,by simp;omega,by rw[zai,zaz,hv];simp⟩,?_,?_⟩<;>simp[l60_0,Zia]
theorem zf6(a b:List UInt32)(ha:a.length≤100000)(hb:b.length≤100000):Zb T 60 [.sl (Za a) .an,.sl (Za b) .an]=some (.sl (Za (ofN (val a*val b))) .an):=by
 obtain⟨_,⟨out,rfl,ho,hv⟩,hr⟩:=zwx (T:=T) a b ha hb (0,List.replicate a.length 0) ⟨Yz _,by simp,by simp[zaz]⟩;unfold Zia at hr;simp at hr;have hw1:IntKind.wrap .i64 ((a.length:Int)+b.length)=(a.length:Int)+b.length:=zac _ (by omega);have hw:IntKind.wrap .i64 ((a.length:Int)+b.length+1)=(a.length:Int)+b.length+1:=zac _ (by omega);have hle:(a.length:Int)+b.length+1≤4294967296:=by omega
 have hn:=za5 (T:=T) out (by omega);rw[hv]at hn;have htk:List.take (a.length+b.length+1) out=out:=Yb (by omega);have he:a.length+(b.length+1)=a.length+b.length+1:=by omega
 rw[he]at hr;rw[zab Zv.h60 rfl,b60];simp[hw,hw1,hle,hr,ho,htk,hn]
theorem ztt(a:List UInt32)(x c:Nat)(ha:a.length≤100000)(hx:x<4294967296)(hc:c<4294967296):Zb T 100 [.sl (Za a) .an,u32 x,u32 c]=some (.sl (Za (ofN (val a*x+c))) .an):=by
 obtain⟨m,hm1,hm2,hr⟩:=zjp (T:=T) [] (List.replicate (a.length+1) 0) a x c hx hc (by simp) (by simp;omega);simp at hr;have hv:val m=val a*x+c:=by
  rw[hm2];have:val ((List.replicate (a.length+1) (0:UInt32)).take a.length)=0:=by rw[List.take_replicate,zaz]
  rw[this,Yac];omega
 have hw:IntKind.wrap .i64 ((a.length:Int)+1)=(a.length:Int)+1:=zac _ (by omega);have hle:(a.length:Int)+1≤4294967296:=by omega
 have hn:=za5 (T:=T) m (by omega);rw[hv]at hn;have htk:List.take (a.length+1) m=m:=Yb (by omega);rw[zab Zv.h100 rfl,b100];simp[hw,hle,hr,hm1,htk,hn]
end
end Go.Ab
end
section
namespace Go.Ab
theorem zw9(w:Nat):4294967296^w=2^(32*w):=by
 rw[Yci]
theorem zma(a:List UInt32)(w:Nat)(h:w≤a.length):val a=val (a.take w)+4294967296^w*val (a.drop w):=by
 have:=zai (a.take w) (a.drop w);rw[Yav,Ya1,Yds h]at this;exact this
theorem z0p(a:List UInt32)(w:Nat)(h:w≤a.length):val a/4294967296^w=val (a.drop w):=by
 have hp:0<4294967296^w:=Ybm (by decide);have hlt:=zaw (a.take w);rw[Ya1,Yds h]at hlt;rw[zma a w h,Ydf _ _ hp,Ybn hlt,Yas]
theorem zx8{a b n:Nat}(h:a<2^n):a ||| 2^n*b=a+2^n*b:=by
 rw[Nat.or_comm,←Ycg h,Ybf]
theorem z0q{x c n:Nat}(hx:x<4294967296)(hn:n<32)(hc:c<2^n) :
  x*2^n<18446744073709551616∧(c ||| x*2^n%4294967296)=c+x*2^n%4294967296∧c+x*2^n%4294967296<4294967296∧x*2^n/4294967296<2^n∧2^n<4294967296:=by
 have hp:2^(n+(32-n))=4294967296:=by rw[show n+(32-n)=32 by omega]
 rw[Ybt]at hp;have hq:0<2^n:=Ybm (by decide);have hr:1<2^(32-n):=Nat.one_lt_two_pow (by omega);have e1:x*2^n%4294967296=2^n*(x%2^(32-n)):=by rw[←hp,Yac x,Nat.mul_mod_mul_left]
 have e2:=zx8 (b:=x%2^(32-n)) hc;rw[←e1]at e2;have hlt:2^n<4294967296:=by
  have h1:=Yay (2^n) (show 2≤2^(32-n) from hr);rw[hp]at h1;omega
 refine⟨?_,e2,?_,?_,hlt⟩
 ·have:=Nat.mul_lt_mul'' hx hlt;simpa using this
 ·rw[e1];have h1:x%2^(32-n)+1≤2^(32-n):=Ybd _ (by omega);have h2:=Yay (2^n) h1;rw[hp,Yao,Ydl]at h2;omega
 ·exact Ybe (by rw[Yac x];rw[Yac 4294967296];exact Nat.mul_lt_mul_of_pos_left hx hq)
theorem zu1{x y R b:Nat}(hb:b<32)(hx:x<4294967296) :
  (x+4294967296*(y+4294967296*R))/2^b=(x+y*4294967296)/2^b%4294967296+4294967296*((y+4294967296*R)/2^b):=by
 have hq:0<2^b:=Ybm (by decide);have h1:(x+4294967296*(y+4294967296*R))/4294967296=y+4294967296*R:=by omega
 have h2:(x+4294967296*(y+4294967296*R))/2^b/4294967296=(y+4294967296*R)/2^b:=by
  rw[Ybv,Yac (2^b),←Ybv,h1]
 have hp:2^b*2^(32-b)=4294967296:=by rw[←Ybt,show b+(32-b)=32 by omega]
 have h3:x+4294967296*(y+4294967296*R)=(x+y*4294967296)+2^b*(4294967296*(2^(32-b)*R)):=by
  have:2^b*(4294967296*(2^(32-b)*R))=4294967296*(4294967296*R):=by
   rw[Nat.mul_left_comm,←Yax (2^b),hp]
  omega
 have h4:(x+4294967296*(y+4294967296*R))/2^b%4294967296=(x+y*4294967296)/2^b%4294967296:=by
  rw[h3,Ydf _ _ hq,Nat.add_mul_mod_self_left]
 have h5:=Nat.mod_add_div ((x+4294967296*(y+4294967296*R))/2^b) 4294967296;rw[h2,h4]at h5;exact h5.symm
end Go.Ab
end
section
namespace Go.Ab
theorem zpd{P m R:List UInt32}{i:Nat}{c:UInt32}(hm:m.length=i):(P++(m++c::R))[P.length+i]? = some c:=by
 grind
theorem zj2{P m R:List UInt32}{i:Nat}{c:UInt32}(w:UInt32)(hm:m.length=i):(P++(m++c::R)).set (P.length+i) w=P++(m++w::R):=by
 rw[Yae (P.length+i) w (by omega),Yb6,Yae i w (by omega),hm,Ycv,Yc4]
theorem zw5{P m R:List UInt32}{i:Nat}{c d:UInt32}(w:UInt32)(hm:m.length=i):(P++(m++c::d::R)).set (P.length+i+1) w=P++(m++c::w::R):=by
 rw[Yap,Yae (P.length+(i+1)) w (by omega),Yb6,Yae (i+1) w (by omega),hm,show i+1-i=1 by omega]
 rfl
theorem zw6{P m R:List UInt32}{i:Nat}{c d:UInt32}(hm:m.length=i):(P++(m++c::d::R))[P.length+i+1]? = some d:=by
 grind
theorem zga(n:Nat):w32 (n%4294967296)=w32 n:=zx7 (by rw[zc4,Nat.mod_mod])
section
variable{T:Tbl}[Zp T][Zy T]
def Zjn(P a:List UInt32)(n:Nat)(y:Nat×Nat×List UInt32):St:=
 ⟨[(5,.i .i64 P.length),(6,.i .i64 n),(7,.bs (.loc 23) 1 1 0 (P.length+a.length+1)),(24,.sl (Za a) .an),(25,.i .i64 a.length),(26,.i .i64 y.1)],[(.loc 23,⟨1,.own,1,Za (P++(y.2.2++w32 y.2.1::List.replicate (a.length-y.1) 0))⟩)],3⟩
end
section
variable{T:Tbl}
theorem zuu(P a:List UInt32)(n:Nat)(hn:n<32)(hl:P.length+a.length≤1000000):∀y:Nat×Nat×List UInt32,
  (y.1≤a.length∧y.2.1<2^n∧y.2.2.length=y.1∧val y.2.2+4294967296^y.1*y.2.1=2^n*val (a.take y.1)) →
  ∃r,(∃(c:Nat) (m:List UInt32),r=(Ex.n,(⟨[(7,.bs (.loc 23) 1 1 0 (P.length+a.length+1))],[(.loc 23,⟨1,.own,1,Za (P++(m++[w32 c]))⟩)],3⟩:St)) ∧
   m.length=a.length∧c<2^n∧val m+4294967296^a.length*c=2^n*val a)∧Zw T 0 0 (.norm false [7]) l92_0 (Zjn P a n y)=some r:=by
 refine za4 _ _ (fun y=>a.length-y.1) _ ?_
 rintro⟨i,c,m⟩ ⟨hi,hc,hm,hv⟩
 simp only at hi hc hm hv;by_cases h0:i<a.length
 ·left;have ha:a[i]? = some (a[i]'h0):=Ya h0;obtain⟨u1,u2,u3,u4,u5⟩:=z0q (zam (a[i]'h0)) hn hc;have hx:=zam (a[i]'h0);have hrep:List.replicate (a.length-i) (0:UInt32)=0::List.replicate (a.length-(i+1)) 0:=by
   rw[show a.length-i=a.length-(i+1)+1 by omega,Ya7]
  have hw:IntKind.wrap .i64 ((i:Int)+1)=((i+1:Nat):Int):=zac _ (by omega);have hw2:IntKind.wrap .i64 ((P.length:Int)+i)=((P.length+i:Nat):Int):=zac _ (by omega);have hw3:IntKind.wrap .i64 ((P.length:Int)+i+1)=((P.length+i+1:Nat):Int):=zac _ (by omega);have hg:=zpd (P:=P) (c:=w32 c) (R:=0::List.replicate (a.length-(i+1)) 0) hm;have hg3:=zw6 (P:=P) (c:=w32 (c+(a[i]'h0).toNat*2^n%4294967296)) (d:=0) (R:=List.replicate (a.length-(i+1)) 0) hm;have hs1:=zj2 (P:=P) (c:=w32 c) (R:=0::List.replicate (a.length-(i+1)) 0) (w32 (c+(a[i]'h0).toNat*2^n%4294967296)) hm;have hs2:=zw5 (P:=P) (c:=w32 (c+(a[i]'h0).toNat*2^n%4294967296)) (d:=0) (R:=List.replicate (a.length-(i+1)) 0) (w32 ((a[i]'h0).toNat*2^n/4294967296)) hm;have hmin:min n 64=n:=by omega
  have hlt1:(P.length:Int)+i<(P.length:Int)+a.length+1:=by omega
  have hlt2:(P.length:Int)+i<(P.length:Int)+a.length:=by omega
  have m1:(a[i]'h0).toNat%18446744073709551616=(a[i]'h0).toNat:=Yt (by omega);have m2:=Yt u1;have m3:=Yt u3;have hcc:c<4294967296:=by omega
  have m4:(a[i]'h0).toNat*2^n/4294967296%4294967296=(a[i]'h0).toNat*2^n/4294967296:=Yt (by omega);have m5:(a[i]'h0).toNat*2^n/4294967296<4294967296:=by omega
  refine⟨(i+1,(a[i]'h0).toNat*2^n/4294967296,m++[w32 (c+(a[i]'h0).toNat*2^n%4294967296)]),⟨h0,u4,by grind,?_⟩,by omega,?_⟩
  ·grind[zai,zaf,zap,zbh,zag,Nat.div_add_mod]
  ·simp -implicitDefEqProofs[l92_0,Zjn,h0,hrep,hw,hw2,hw3,hg,hg3,hs1,hs2,zbe _ _ _ u3,zbe _ _ _ m5,hmin,hlt1,hlt2,m1,m2,m3,m4,u2,zag hcc]
 ·right;have:i=a.length:=by omega
  subst this;rw[Yb (Yi a.length)]at hv;refine⟨_,⟨c,m,rfl,hm,hc,hv⟩,?_,?_⟩<;>simp -implicitDefEqProofs[l92_0,Zjn]
end
section
variable{T:Tbl}[Zp T][Zy T]
theorem z0m(a:List UInt32)(n:Nat)(hn:n≤4096)(hl:a.length≤100000):Zb T 92 [.sl (Za a) .an,.i .i64 n]=some (.sl (Za (ofN (val a*2^n))) .an):=by
 obtain⟨_,⟨c,m,rfl,hm,hc,hv⟩,hr⟩:=zuu (T:=T) (List.replicate (n/32) 0) a (n%32) (Ybd _ (by decide)) (by grind) (0,0,[]) ⟨Yz _,Ybm (by decide),rfl,by simp⟩;have hc32:c<4294967296:=Yo hc (by
  have:2^(n%32)≤2^32:=Yr (by decide) (by omega);omega)
 have hval:val (List.replicate (n/32) 0++(m++[w32 c]))=val a*2^n:=by
  rw[zai,zaz,Ycc,zai,hm];simp only[zap,zbh,Yaz,Y2,zag hc32,Yas];rw[hv,zw9,←Yax,←Ybt,show 32*(n/32)+n%32=n by omega,Yac]
 have hlen:(List.replicate (n/32) 0++(m++[w32 c])).length=n/32+a.length+1:=by grind
 have hnm:=za5 (T:=T) (List.replicate (n/32) 0++(m++[w32 c])) (by omega);rw[hval]at hnm;unfold Zjn at hr;generalize List.replicate (n/32) 0++(m++[w32 c])=Q at *
 simp at hr;have hz:List.replicate (n/32) (0:UInt32)++w32 0::List.replicate a.length 0=List.replicate (n/32+a.length+1) 0:=by
  have:w32 0=0:=rfl;rw[this,←Ya7,Yb4,Yap]
 rw[hz]at hr;have hn2:¬ (4096:Int)<(n:Int):=by omega
 have hq:(n:Int).tdiv 32=(n:Int)/32:=Ybw (by omega);have hm2:(n:Int).tmod 32=(n:Int)%32:=Yco (by omega);have w1:IntKind.wrap .i64 ((n:Int)/32)=(n:Int)/32:=zac (n/32) (by omega);have w2:IntKind.wrap .i64 ((n:Int)/32+a.length)=(n:Int)/32+a.length:=zac _ (by omega);have w3:IntKind.wrap .i64 ((n:Int)/32+a.length+1)=(n:Int)/32+a.length+1:=zac _ (by omega);have p1:(0:Int)≤(n:Int)/32+a.length+1:=by omega
 have p2:(n:Int)/32+a.length+1≤4294967296:=by omega
 have p3:((n:Int)/32+a.length+1).toNat=n/32+a.length+1:=by omega
 have htk:List.take (n/32+a.length+1) Q=Q:=Yb (by omega);rw[zab Zy.h92 rfl,b92];simp -implicitDefEqProofs[hn2,hq,hm2,w1,w2,w3,p1,p2,p3,hr,hnm,htk,hlen]
def Zjo(a:List UInt32)(W n:Nat)(y:Nat×List UInt32):St:=
 ⟨[(0,.sl (Za a) .an),(5,.i .i64 W),(6,.i .i64 n),(7,.bs (.loc 24) 1 1 0 (a.length-W)),(26,.i .i64 (a.length-W:Nat)),(27,.i .i64 y.1)],[(.loc 24,⟨1,.own,1,Za (y.2++List.replicate (a.length-W-y.1) 0)⟩)],3⟩
end
section
variable{T:Tbl}
theorem zuv(a:List UInt32)(W n:Nat)(hn:n<32)(hW:W≤a.length)(hl:a.length≤1000000):∀y:Nat×List UInt32,
  (y.1≤a.length-W∧y.2.length=y.1∧val y.2+4294967296^y.1*(val (a.drop (W+y.1))/2^n)=val (a.drop W)/2^n) →
  ∃r,(∃m:List UInt32,r=(Ex.n,(⟨[(7,.bs (.loc 24) 1 1 0 (a.length-W))],[(.loc 24,⟨1,.own,1,Za m⟩)],3⟩:St)) ∧
   m.length=a.length-W∧val m=val (a.drop W)/2^n)∧Zw T 0 0 (.norm false [7]) l94_0 (Zjo a W n y)=some r:=by
 refine za4 _ _ (fun y=>a.length-W-y.1) _ ?_
 rintro⟨i,m⟩ ⟨hi,hm,hv⟩
 by_cases h0:i<a.length-W
 ·left;have hWi:W+i<a.length:=by omega
  have ha:a[W+i]? = some (a[W+i]'hWi):=Ya hWi;have hx:=zam (a[W+i]'hWi);have hd:=Yw hWi;have hrep:List.replicate (a.length-W-i) (0:UInt32)=0::List.replicate (a.length-W-(i+1)) 0:=by
   rw[show a.length-W-i=a.length-W-(i+1)+1 by omega,Ya7]
  have hw:IntKind.wrap .i64 ((i:Int)+1)=((i+1:Nat):Int):=zac _ (by omega);have hw2:IntKind.wrap .i64 ((W:Int)+i)=((W+i:Nat):Int):=zac _ (by omega);have hw3:IntKind.wrap .i64 ((W:Int)+i+1)=((W+i+1:Nat):Int):=zac _ (by omega);have hg:=zpd (P:=[]) (c:=0) (R:=List.replicate (a.length-W-(i+1)) 0) hm;have hmin:min n 64=n:=by omega
  have hlt1:(W:Int)+i<(a.length:Int):=by omega
  have hlt3:((W:Int)+i).toNat=W+i:=by omega
  have m1:(a[W+i]'hWi).toNat%18446744073709551616=(a[W+i]'hWi).toNat:=Yt (by omega);have fin:∀y R:Nat,val (a.drop (W+i+1))=y+4294967296*R→val (m++[w32 (((a[W+i]'hWi).toNat+y*4294967296)/2^n%4294967296)])+4294967296^(i+1)*(val (a.drop (W+(i+1)))/2^n)=val (a.drop W)/2^n:=by
   intro y R hR;have hmod:((a[W+i]'hWi).toNat+y*4294967296)/2^n%4294967296<4294967296:=Ybd _ (by decide);have hdw:=zu1 (x:=(a[W+i]'hWi).toNat) (y:=y) (R:=R) hn hx;rw[hd,zap,hR,hdw,←hR]at hv
   grind[zai,zap,zbh,zag]
  by_cases h1:W+i+1<a.length
  ·have hd1:=Yw h1;have hy:=zam (a[W+i+1]'h1);have m2:(a[W+i+1]'h1).toNat%18446744073709551616=(a[W+i+1]'h1).toNat:=Yt (by omega);have m3:(a[W+i+1]'h1).toNat*4294967296%18446744073709551616=(a[W+i+1]'h1).toNat*4294967296:=Yt (by omega);have hor:(a[W+i]'hWi).toNat ||| (a[W+i+1]'h1).toNat*4294967296=(a[W+i]'hWi).toNat+(a[W+i+1]'h1).toNat*4294967296:=by
    have:=zx8 (a:=(a[W+i]'hWi).toNat) (b:=(a[W+i+1]'h1).toNat) (n:=32) (by simp)
    grind
   have m4:((a[W+i]'hWi).toNat+(a[W+i+1]'h1).toNat*4294967296)%18446744073709551616=(a[W+i]'hWi).toNat+(a[W+i+1]'h1).toNat*4294967296:=Yt (by omega);have hs1:=zj2 (P:=[]) (c:=0) (R:=List.replicate (a.length-W-(i+1)) 0) (w32 (((a[W+i]'hWi).toNat+(a[W+i+1]'h1).toNat*4294967296)/2^n%4294967296)) hm;have hlt2:(W:Int)+i+1<(a.length:Int):=by omega
   have hlt4:((W:Int)+i+1).toNat=W+i+1:=by omega
   refine⟨(i+1,m++[w32 (((a[W+i]'hWi).toNat+(a[W+i+1]'h1).toNat*4294967296)/2^n%4294967296)]),⟨h0,by grind,fin _ (val (a.drop (W+i+1+1))) (by rw[hd1,zap])⟩,by omega,?_⟩;simp at hg;simp[zga]at hs1;simp -implicitDefEqProofs[l94_0,Zjo,h0,ha,hrep,hw,hw2,hw3,hg,hs1,zga,hmin,hlt1,hlt2,hlt3,hlt4,m1,m2,m3,m4,hor,h1]
  ·have hs1:=zj2 (P:=[]) (c:=0) (R:=List.replicate (a.length-W-(i+1)) 0) (w32 ((a[W+i]'hWi).toNat/2^n%4294967296)) hm;have hlt2:¬ (W:Int)+i+1<(a.length:Int):=by omega
   have f0:=fin 0 0 (by rw[Ybg (by omega),zbh,Yaz]);refine⟨(i+1,m++[w32 ((a[W+i]'hWi).toNat/2^n%4294967296)]),⟨h0,by grind,f0⟩,by omega,?_⟩;simp at hg;simp[zga]at hs1;simp -implicitDefEqProofs[l94_0,Zjo,h0,ha,hrep,hw,hw2,hw3,hg,hs1,zga,hmin,hlt1,hlt2,hlt3,m1]
 ·right;have:i=a.length-W:=by omega
  subst this;rw[show W+(a.length-W)=a.length by omega,Yar,zbh,Nat.zero_div,Yaz,Y2]at hv;refine⟨_,⟨m++List.replicate (a.length-W-(a.length-W)) 0,rfl,by grind,by grind⟩,?_,?_⟩<;>simp -implicitDefEqProofs[l94_0,Zjo]
end
section
variable{T:Tbl}[Zp T][Zy T]
theorem zuw(a:List UInt32)(n:Nat)(h:n/32≤a.length):val (a.drop (n/32))/2^(n%32)=val a/2^n:=by
 rw[←z0p a _ h,Ybv,zw9,←Ybt,show 32*(n/32)+n%32=n by omega]
theorem zux(a:List UInt32)(n:Nat)(hn:n≤100000000)(hl:a.length≤100000):Zb T 94 [.sl (Za a) .an,.i .i64 n]=some (.sl (Za (ofN (val a/2^n))) .an):=by
 have hn2:¬ (n:Int)<0:=by omega
 have hq:(n:Int).tdiv 32=(n:Int)/32:=Ybw (by omega);have hm2:(n:Int).tmod 32=(n:Int)%32:=Yco (by omega);have w1:IntKind.wrap .i64 ((n:Int)/32)=(n:Int)/32:=zac (n/32) (by omega);rcases Yq (n/32) a.length with h0 | h0
 ·obtain⟨_,⟨m,rfl,hm,hv⟩,hr⟩:=zuv (T:=T) a (n/32) (n%32) (Ybd _ (by decide)) (by omega) (by omega) (0,[]) ⟨Yz _,rfl,by rw[zbh,Yeg,Yd4,Yas,Y2]⟩;rw[zuw a n (by omega)]at hv;have hnm:=za5 (T:=T) m (by omega);rw[hv]at hnm;unfold Zjo at hr;have hsub:((a.length-n/32:Nat):Int)=(a.length:Int)-(n:Int)/32:=by omega
  simp[hsub]at hr;have p0:¬ (a.length:Int)≤(n:Int)/32:=by omega
  have w2:IntKind.wrap .i64 ((a.length:Int)-(n:Int)/32)=(a.length:Int)-(n:Int)/32:=zac _ (by omega);have p1:(n:Int)/32≤(a.length:Int):=by omega
  have p2:(a.length:Int)-(n:Int)/32≤4294967296:=by omega
  have p3:((a.length:Int)-(n:Int)/32).toNat=a.length-n/32:=by omega
  have htk:List.take (a.length-n/32) m=m:=Yb (by omega);have p5:a.length≤a.length-n/32+n/32:=by omega
  rw[zab Zy.h94 rfl,b94];simp -implicitDefEqProofs[hn2,hq,hm2,w1,w2,p0,p5,p1,p2,p3,hsub,hr,hnm,htk,hm]
 ·have hz:val a/2^n=0:=by
   refine Ybn (Yo (zaw a) ?_);rw[zw9];exact Yr (by decide) (by omega)
  have p0:(a.length:Int)≤(n:Int)/32:=by omega
  rw[hz,zj3,zab Zy.h94 rfl,b94];simp -implicitDefEqProofs[hn2,hq,hm2,w1,p0]
end
end Go.Ab
end
section
namespace Go.Ab
def l90_0:AX:=
 (.note
 (.seq
 (.seq
 (.reg [mv 16 7,rg 17 (.bin .geq (.t 16) (.c (.i .i64 0)))])
 (.cond (.t 17)
 .skip
 (.exit 0)))
 (.seq
 (.block 1
 (.reg [mv 21 4,mv 22 7,mv 23 5,mv 24 0,mv 25 7,rg 26 (.iad 1 (.t 24) (.t 25)),rg 27 (.load none (.t 26)),mv 28 1,rg 29 (.call 118 [(.t 23),(.t 27),(.t 28)]),mv 20 29,rg 30 (.ext (.t 20) 0),rg 31 (.ext (.t 20) 1),rg 32 (.ext (.t 20) 2),rg 33 (.iad 1 (.t 21) (.t 22)),so (.store 1 (.t 33) (.t 30)),mv 5 31]))
 (.reg [mv 18 7,rg 19 (.bin .sub (.t 18) (.c (.i .i64 1))),mv 7 19])))
 (.norm false [0,1,4,5,7]))
def b90:AX:=
 (.seq
 (.reg [rg 4 (.mov (.c (.sl [] .nl))),rg 5 (.mov (.c (u32 0))),rg 6 (.mov (.c (.b false)))])
 (.seq
 (.seq
 (.reg [mv 8 1,rg 9 (.bin .eql (.t 8) (.c (u32 0)))])
 (.cond (.t 9)
 (.seq
 (.reg [rg 4 (.mov (.c (.sl [] .nl))),rg 5 (.mov (.c (u32 0))),rg 6 (.mov (.c (.b false)))])
 (.pre (.norm false [4,5,6]) .ret))
 .skip))
 (.seq
 (.reg [mv 10 0,rg 11 (.len (.t 10)),rg 12 (.mks 1 [(u32 0)] (.t 11) (.t 11)),mv 4 12])
 (.seq
 (.seq
 (.reg [mv 13 0,rg 14 (.len (.t 13)),rg 15 (.bin .sub (.t 14) (.c (.i .i64 1))),mv 7 15])
 (.lp 0 (.norm false [0,1,4,5,7]) l90_0 (.norm false [4,5])))
 (.seq
 (.reg [mv 34 4,rg 35 (.call 71 [(.t 34)]),mv 36 5,mv 4 35,mv 5 36,rg 6 (.mov (.c (.b true)))])
 (.pre (.norm false [4,5,6]) .ret))))))
def l119_0:AX:=
 (.note
 (.block 1
 (.seq
 (.reg [mv 46 11,mv 47 4,rg 48 (.call 117 [(.t 46),(.t 47),(.c (u32 0)),(.c (u32 0))]),mv 45 48,rg 49 (.ext (.t 45) 0),rg 50 (.ext (.t 45) 1),mv 16 49,mv 17 50])
 (.seq
 (.seq
 (.reg [mv 51 16,mv 52 12,rg 53 (.bin .lss (.t 51) (.t 52)),mv 54 53,gd 55 54 false (.mov (.t 16)),gd 56 54 false (.mov (.t 12)),gd 57 54 false (.bin .eql (.t 55) (.t 56)),gd 58 54 false (.mov (.t 57)),gd 59 58 true (.mov (.t 17)),gd 60 58 true (.mov (.t 2)),gd 61 58 true (.bin .leq (.t 59) (.t 60)),gd 62 54 false (.pick (.t 58) (.t 61) (.c (.b false))),rg 63 (.pick (.t 54) (.c (.b true)) (.t 62))])
 (.cond (.t 63)
 (.exit 0)
 .skip))
 (.seq
 (.reg [mv 64 11,rg 65 (.bin .sub (.t 64) (.c (u32 1))),mv 11 65])
 (.seq
 (.reg [mv 67 12,mv 68 3,rg 69 (.call 115 [(.t 67),(.t 68),(.c (u32 0))]),mv 66 69,rg 70 (.ext (.t 66) 0),rg 71 (.ext (.t 66) 1),mv 18 70,mv 19 71])
 (.seq
 (.seq
 (.reg [mv 72 19,rg 73 (.bin .gtr (.t 72) (.c (u32 0)))])
 (.cond (.t 73)
 (.exit 0)
 .skip))
 (.reg [mv 74 18,mv 12 74])))))))
 (.norm false [2,3,4,11,12]))
def b119:AX:=
 (.seq
 (.reg [rg 10 (.mov (.c (u32 0)))])
 (.scope
 (.seq
 (.reg [mv 21 0,mv 22 1,mv 23 3,rg 24 (.call 118 [(.t 21),(.t 22),(.t 23)]),mv 20 24,rg 25 (.ext (.t 20) 0),rg 26 (.ext (.t 20) 1),rg 27 (.ext (.t 20) 2),mv 11 25,mv 12 26,mv 13 27])
 (.seq
 (.seq
 (.reg [mv 28 13,rg 29 (.un .not (.t 28))])
 (.cond (.t 29)
 (.seq
 (.reg [rg 11 (.mov (.c (u32 4294967295)))])
 (.seq
 (.reg [mv 31 1,mv 32 3,rg 33 (.call 115 [(.t 31),(.t 32),(.c (u32 0))]),mv 30 33,rg 34 (.ext (.t 30) 0),rg 35 (.ext (.t 30) 1),mv 14 34,mv 15 35])
 (.seq
 (.seq
 (.reg [mv 36 0,mv 37 3,rg 38 (.bin .gtr (.t 36) (.t 37)),mv 39 38,gd 40 39 false (.mov (.t 15)),gd 41 39 false (.bin .gtr (.t 40) (.c (u32 0))),rg 42 (.pick (.t 39) (.c (.b true)) (.t 41))])
 (.cond (.t 42)
 (.seq
 (.reg [mv 43 11,mv 10 43])
 (.pre (.norm false [10]) .ret))
 .skip))
 (.reg [mv 44 14,mv 12 44]))))
 .skip))
 (.seq
 (.label 0)
 (.seq
 (.lp 0 (.norm false [2,3,4,11,12]) l119_0 (.norm false [11]))
 (.seq
 (.reg [mv 75 11,mv 10 75])
 (.pre (.norm false [10]) .ret))))))))
def l120_0:AX:=
 (.note
 (.seq
 (.reg [rg 18 (.bin .lss (.t 17) (.t 16))])
 (.seq
 (.cond (.t 18)
 .skip
 (.exit 0))
 (.seq
 (.block 1
 (.seq
 (.reg [mv 19 17,rg 20 (.iad 1 (.t 15) (.t 17)),rg 21 (.load none (.t 20)),mv 11 19,mv 12 21])
 (.seq
 (.reg [rg 13 (.mov (.c (u32 0)))])
 (.seq
 (.reg [mv 23 3,mv 24 12,mv 25 9,rg 26 (.call 117 [(.t 23),(.t 24),(.t 25),(.c (u32 0))]),mv 22 26,rg 27 (.ext (.t 22) 0),rg 28 (.ext (.t 22) 1),mv 9 27,mv 13 28])
 (.reg [mv 30 0,mv 31 1,mv 32 11,rg 33 (.bin .add (.t 31) (.t 32)),mv 34 0,mv 35 1,mv 36 11,rg 37 (.bin .add (.t 35) (.t 36)),rg 38 (.iad 1 (.t 34) (.t 37)),rg 39 (.load none (.t 38)),mv 40 13,mv 41 10,rg 42 (.call 116 [(.t 39),(.t 40),(.t 41)]),mv 29 42,rg 43 (.ext (.t 29) 0),rg 44 (.ext (.t 29) 1),rg 45 (.iad 1 (.t 30) (.t 33)),so (.store 1 (.t 45) (.t 43)),mv 10 44])))))
 (.reg [rg 46 (.bin .add (.t 17) (.c (.i .i64 1))),mv 17 46]))))
 (.norm false [0,1,2,3,9,10,15,16,17]))
def b120:AX:=
 (.seq
 (.reg [rg 8 (.mov (.c (.b false)))])
 (.seq
 (.reg [rg 9 (.mov (.c (u32 0))),rg 10 (.mov (.c (u32 0)))])
 (.seq
 (.seq
 (.reg [mv 15 2,rg 16 (.len (.t 15)),rg 17 (.mov (.c (.i .i64 0)))])
 (.lp 0 (.norm false [0,1,2,3,9,10,15,16,17]) l120_0 (.norm false [0,1,2,9,10])))
 (.seq
 (.reg [mv 47 1,mv 48 2,rg 49 (.len (.t 48)),rg 50 (.bin .add (.t 47) (.t 49)),mv 14 50])
 (.seq
 (.reg [mv 52 0,mv 53 14,mv 54 0,mv 55 14,rg 56 (.iad 1 (.t 54) (.t 55)),rg 57 (.load none (.t 56)),mv 58 9,mv 59 10,rg 60 (.call 116 [(.t 57),(.t 58),(.t 59)]),mv 51 60,rg 61 (.ext (.t 51) 0),rg 62 (.ext (.t 51) 1),rg 63 (.iad 1 (.t 52) (.t 53)),so (.store 1 (.t 63) (.t 61)),mv 10 62])
 (.seq
 (.reg [mv 64 10,rg 65 (.bin .gtr (.t 64) (.c (u32 0))),mv 8 65])
 (.pre (.norm false [8]) .ret)))))))
def l121_0:AX:=
 (.note
 (.seq
 (.reg [rg 12 (.bin .lss (.t 11) (.t 10))])
 (.seq
 (.cond (.t 12)
 .skip
 (.exit 0))
 (.seq
 (.block 1
 (.seq
 (.reg [mv 13 11,rg 14 (.iad 1 (.t 9) (.t 11)),rg 15 (.load none (.t 14)),mv 7 13,mv 8 15])
 (.reg [mv 17 0,mv 18 1,mv 19 7,rg 20 (.bin .add (.t 18) (.t 19)),mv 21 0,mv 22 1,mv 23 7,rg 24 (.bin .add (.t 22) (.t 23)),rg 25 (.iad 1 (.t 21) (.t 24)),rg 26 (.load none (.t 25)),mv 27 8,mv 28 6,rg 29 (.call 115 [(.t 26),(.t 27),(.t 28)]),mv 16 29,rg 30 (.ext (.t 16) 0),rg 31 (.ext (.t 16) 1),rg 32 (.iad 1 (.t 17) (.t 20)),so (.store 1 (.t 32) (.t 30)),mv 6 31])))
 (.reg [rg 33 (.bin .add (.t 11) (.c (.i .i64 1))),mv 11 33]))))
 (.norm false [0,1,2,6,9,10,11]))
def b121:AX:=
 (.seq
 (.reg [rg 6 (.mov (.c (u32 0)))])
 (.seq
 (.seq
 (.reg [mv 9 2,rg 10 (.len (.t 9)),rg 11 (.mov (.c (.i .i64 0)))])
 (.lp 0 (.norm false [0,1,2,6,9,10,11]) l121_0 (.norm false [0,1,2,6])))
 (.reg [mv 34 0,mv 35 1,mv 36 2,rg 37 (.len (.t 36)),rg 38 (.bin .add (.t 35) (.t 37)),rg 39 (.iad 1 (.t 34) (.t 38)),rg 40 (.load none (.t 39)),mv 41 6,rg 42 (.bin .add (.t 40) (.t 41)),rg 43 (.iad 1 (.t 34) (.t 38)),so (.store 1 (.t 43) (.t 42))])))
def l93_0:AX:=
 (.note
 (.seq
 (.seq
 (.reg [mv 19 7,rg 20 (.bin .geq (.t 19) (.c (.i .i64 0)))])
 (.cond (.t 20)
 .skip
 (.exit 0)))
 (.seq
 (.block 1
 (.seq
 (.drawT [mv 23 0,mv 24 7,mv 25 5,rg 26 (.bin .add (.t 24) (.t 25)),rg 27 (.iad 1 (.t 23) (.t 26)),rg 28 (.load none (.t 27)),mv 29 0,mv 30 7,mv 31 5,rg 32 (.bin .add (.t 30) (.t 31)),rg 33 (.bin .sub (.t 32) (.c (.i .i64 1))),rg 34 (.iad 1 (.t 29) (.t 33)),rg 35 (.load none (.t 34)),mv 36 0,mv 37 7,mv 38 5,rg 39 (.bin .add (.t 37) (.t 38)),rg 40 (.bin .sub (.t 39) (.c (.i .i64 2))),rg 41 (.iad 1 (.t 36) (.t 40)),rg 42 (.load none (.t 41)),mv 43 1,mv 44 5,rg 45 (.bin .sub (.t 44) (.c (.i .i64 1))),rg 46 (.iad 1 (.t 43) (.t 45)),rg 47 (.load none (.t 46)),mv 48 1,mv 49 5,rg 50 (.bin .sub (.t 49) (.c (.i .i64 2))),rg 51 (.iad 1 (.t 48) (.t 50)),rg 52 (.load none (.t 51))]
 [rg 53 (.call 119 [(.t 28),(.t 35),(.t 42),(.t 47),(.t 52)]),mv 8 53])
 (.seq
 (.seq
 (.reg [mv 54 0,mv 55 7,mv 56 1,mv 57 8,rg 58 (.call 120 [(.t 54),(.t 55),(.t 56),(.t 57)])])
 (.cond (.t 58)
 (.seq
 (.reg [mv 59 8,rg 60 (.bin .sub (.t 59) (.c (u32 1))),mv 8 60])
 (.reg [mv 61 0,mv 62 7,mv 63 1,rg 64 (.call 121 [(.t 61),(.t 62),(.t 63)])]))
 .skip))
 (.reg [mv 65 6,mv 66 7,mv 67 8,rg 68 (.iad 1 (.t 65) (.t 66)),so (.store 1 (.t 68) (.t 67))]))))
 (.reg [mv 21 7,rg 22 (.bin .sub (.t 21) (.c (.i .i64 1))),mv 7 22])))
 (.norm false [0,1,5,6,7]))
def b93:AX:=
 (.seq
 (.reg [rg 4 (.mov (.c (.sl [] .nl)))])
 (.seq
 (.reg [mv 9 1,rg 10 (.len (.t 9)),mv 5 10])
 (.seq
 (.reg [mv 11 0,rg 12 (.len (.t 11)),mv 13 5,rg 14 (.bin .sub (.t 12) (.t 13)),rg 15 (.mks 1 [(u32 0)] (.t 14) (.t 14)),mv 6 15])
 (.seq
 (.seq
 (.reg [mv 16 6,rg 17 (.len (.t 16)),rg 18 (.bin .sub (.t 17) (.c (.i .i64 1))),mv 7 18])
 (.lp 0 (.norm false [0,1,5,6,7]) l93_0 (.norm false [6])))
 (.seq
 (.reg [mv 69 6,mv 4 69])
 (.pre (.norm false [4]) .ret))))))
def row90:AFx:=⟨2,37,[.t 4,.t 5,.t 6],b90,none,false⟩
def row119:AFx:=⟨5,76,[.t 10],b119,none,false⟩
def row120:AFx:=⟨4,66,[.t 8],b120,(some [true,false,false,false]),false⟩
def row121:AFx:=⟨3,44,[],b121,(some [true,false,false]),false⟩
def row93:AFx:=⟨2,70,[.t 4],b93,(some [true,false]),false⟩
class Zr (T:Tbl):Prop where
 h90:T 90=some row90
 h119:T 119=some row119
 h120:T 120=some row120
 h121:T 121=some row121
 h93:T 93=some row93
section
variable{T:Tbl}[Zr T]{d:Option Nat}{st:St}
@[simp] theorem x90(xs:List AV):Zc (orc T) T 90 xs d st=cP T 90 false xs d st:=zaa Zr.h90
@[simp] theorem x119(xs:List AV):Zc (orc T) T 119 xs d st=cP T 119 false xs d st:=zaa Zr.h119
theorem f119(xs:List AV)(hn:xs.length=5):Zb T 119 xs=Zhg [.t 10] false (evX (orc T) T 0 b119 ⟨Zca xs,[],1⟩):=zab Zr.h119 hn
@[simp] theorem x120(xs:List AV):Zc (orc T) T 120 xs d st=bL (Zej st.heap [true,false,false,false] xs) fun ys=>Zd8 ys (Zj (Zav [true,false,false,false] xs) st.heap) (Zcu (Zj (Zav [true,false,false,false] xs) st.heap) 40 (Zcc [true,false,false,false] xs) []) T 120 false d st:=za1 Zr.h120
@[simp] theorem x121(xs:List AV):Zc (orc T) T 121 xs d st=bL (Zej st.heap [true,false,false] xs) fun ys=>Zd8 ys (Zj (Zav [true,false,false] xs) st.heap) (Zcu (Zj (Zav [true,false,false] xs) st.heap) 40 (Zcc [true,false,false] xs) []) T 121 false d st:=za1 Zr.h121
@[simp] theorem x93(xs:List AV):Zc (orc T) T 93 xs d st=bL (Zej st.heap [true,false] xs) fun ys=>Zd8 ys (Zj (Zav [true,false] xs) st.heap) (Zcu (Zj (Zav [true,false] xs) st.heap) 40 (Zcc [true,false] xs) []) T 93 false d st:=za1 Zr.h93
end
end Go.Ab
end
section
namespace Go.Ab
theorem zjq{m:List UInt32}{j:Nat}(w:UInt32):(List.replicate (j+1) 0++m).set j w=List.replicate j 0++w::m:=by
 rw[List.set_append_left j w (by simp),List.replicate_succ',Yae j w (by simp)];simp
theorem zjr{m:List UInt32}{j:Nat}:(List.replicate (j+1) (0:UInt32)++m)[j]? = some 0:=by
 rw[Yn (by simp),Ycw,if_pos (by omega)]
section
variable{T:Tbl}[Zp T][Zy T][Zv T][Zr T]
def Zjy(a:List UInt32)(x:Nat)(y:Nat×Nat×List UInt32):St:=
 ⟨[(0,.sl (Za a) .an),(1,u32 x),(4,.bs (.loc 12) 1 1 0 a.length),(5,u32 y.2.1),(7,.i .i64 ((y.1:Int)-1))],[(.loc 12,⟨1,.own,1,Za (List.replicate y.1 0++y.2.2)⟩)],3⟩
end
section
variable{T:Tbl}[Zp T]
theorem zz3(a:List UInt32)(x:Nat)(hx:x<4294967296)(hl:a.length≤1000000):∀y:Nat×Nat×List UInt32,
  (y.1≤a.length∧y.2.1<x∧y.2.2.length=a.length-y.1∧val (a.drop y.1)=x*val y.2.2+y.2.1) →
  ∃r,(∃(c:Nat) (m:List UInt32),r=(Ex.n,(⟨[(4,.bs (.loc 12) 1 1 0 a.length),(5,u32 c)],[(.loc 12,⟨1,.own,1,Za m⟩)],3⟩:St)) ∧
   m.length=a.length∧c<x∧val a=x*val m+c)∧Zw T 0 0 (.norm false [4,5]) l90_0 (Zjy a x y)=some r:=by
 refine za4 _ _ (fun y=>y.1) _ ?_
 rintro⟨k,c,m⟩ ⟨hk,hc,hm,hv⟩
 simp only at hk hc hm hv;cases k with
 | zero=>
  right;refine⟨_,⟨c,m,rfl,by omega,hc,hv⟩,?_,?_⟩<;>simp -implicitDefEqProofs[l90_0,Zjy]
 | succ j=>
  left;have hja:j<a.length:=by omega
  have hy:=zam (a[j]'hja);have hd:=Yw hja;have hw:IntKind.wrap .i64 ((j:Int)-1)=(j:Int)-1:=zac _ (by omega);have hs:=zjq (m:=m) (j:=j) (w32 ((c*4294967296+(a[j]'hja).toNat)/x));have hq:(c*4294967296+(a[j]'hja).toNat)/x<4294967296:=by
   refine Ybe ?_;omega
  have hdv:=zln (T:=T) c (a[j]'hja).toNat x hc hy hx;refine⟨(j,(c*4294967296+(a[j]'hja).toNat)%x,w32 ((c*4294967296+(a[j]'hja).toNat)/x)::m),⟨by omega,Ybd _ (by omega),by grind,?_⟩,Y1 j,?_⟩
  ·grind[zap,zag,Nat.div_add_mod]
  ·simp -implicitDefEqProofs[l90_0,Zjy,hja,hw,hs,zjr,hdv,zbe _ _ _ hq]
end
section
variable{T:Tbl}[Zp T][Zr T]
theorem zlt(a:List UInt32)(x:Nat)(hx:x<4294967296)(h0:0<x)(hl:a.length≤1000000) :
  Zb T 90 [.sl (Za a) .an,u32 x]=some (.tup [.sl (Za (ofN (val a/x))) .an,u32 (val a%x),.b true]):=by
 obtain⟨_,⟨c,m,rfl,hm,hc,hv⟩,hr⟩:=zz3 (T:=T) a x hx hl (a.length,0,[]) ⟨Yi _,h0,by simp,by rw[Yar,zbh,Yaz,Yas]⟩;have e1:val a/x=val m:=by grind[Nat.mul_add_div,Nat.div_eq_of_lt]
 have e2:val a%x=c:=by rw[hv,Nat.mul_add_mod,Yt hc]
 have hnm:=za5 (T:=T) m (by omega);unfold Zjy at hr;simp at hr;have hx0:x≠0:=by omega
 have w1:IntKind.wrap .i64 ((a.length:Int)-1)=(a.length:Int)-1:=zac _ (by omega);have p1:(a.length:Int)≤4294967296:=by omega
 have htk:List.take a.length m=m:=Yb (by omega);rw[e1,e2,zab Zr.h90 rfl,b90];simp -implicitDefEqProofs[hr,hx0,w1,p1,htk,hm,hnm]
end
section
variable{T:Tbl}[Zp T][Zy T][Zv T][Zr T]
theorem zlu{p M w X s t y v D D':Nat}(h:M+X*t=s+p*D)(e:w+X*y+D=v+4294967296*D'):(M+p*w)+X*(t+p*y)=(s+p*v)+p*4294967296*D':=by
 grind
def Zjz(P S b:List UInt32)(x:Nat)(y:Nat×(Nat×Nat)×List UInt32):St:=
 ⟨[(0,.bs (.bor 0) 0 1 0 (P.length+S.length)),(1,.i .i64 P.length),(2,.sl (Za b) .an),(3,u32 x),(9,u32 y.2.1.1),(10,u32 y.2.1.2),(15,.sl (Za b) .an),(16,.i .i64 b.length),(17,.i .i64 y.1)],
  [(.bor 0,⟨0,.own,1,Za (P++(y.2.2++S.drop y.1))⟩)],4⟩
end
section
variable{T:Tbl}[Zp T]
theorem zz4(P S b:List UInt32)(x:Nat)(hx:x<4294967296)(hS:b.length<S.length)(hl:P.length+S.length≤1000000):∀y:Nat×(Nat×Nat)×List UInt32,
  (y.1≤b.length∧y.2.1.1<4294967296∧y.2.1.2≤1∧y.2.2.length=y.1∧val y.2.2+x*val (b.take y.1)=val (S.take y.1)+4294967296^y.1*(y.2.1.2+y.2.1.1)) →
  ∃r,(∃(C B:Nat) (m:List UInt32),r=(Ex.n,(⟨[(0,.bs (.bor 0) 0 1 0 (P.length+S.length)),(1,.i .i64 P.length),(2,.sl (Za b) .an),(9,u32 C),(10,u32 B)],[(.bor 0,⟨0,.own,1,Za (P++(m++S.drop b.length))⟩)],4⟩:St)) ∧
   C<4294967296∧B≤1∧m.length=b.length∧val m+x*val b=val (S.take b.length)+4294967296^b.length*(B+C))∧Zw T 1 0 (.norm false [0,1,2,9,10]) l120_0 (Zjz P S b x y)=some r:=by
 refine za4 _ _ (fun y=>b.length-y.1) _ ?_
 rintro⟨i,⟨C,B⟩,m⟩ ⟨hi,hC,hB,hm,hv⟩
 simp only at hi hC hB hm hv;by_cases h0:i<b.length
 ·left;have hb:b[i]? = some (b[i]'h0):=Ya h0;have hiS:i<S.length:=by omega
  have hs:S[i]? = some (S[i]'hiS):=Ya hiS;have hg:=zfl (P:=P) hm hiS;have hw:IntKind.wrap .i64 ((i:Int)+1)=((i+1:Nat):Int):=zac _ (by omega);have hw2:IntKind.wrap .i64 ((P.length:Int)+i)=((P.length+i:Nat):Int):=zac _ (by omega);have hlt2:(P.length:Int)+i<(P.length:Int)+S.length:=by omega
  have hlb:=zam (b[i]'h0);have hls:=zam (S[i]'hiS);have hmul:=zg8 hx hlb;have c1:=zg9 (T:=T) x (b[i]'h0).toNat C 0 hx hlb hC (by decide);rw[Y2]at c1;obtain⟨lo,hlo⟩:∃lo,lo=(x*(b[i]'h0).toNat+C)%4294967296:=⟨_,rfl⟩;obtain⟨C',hC'⟩:∃C',C'=(x*(b[i]'h0).toNat+C)/4294967296:=⟨_,rfl⟩;rw[←hlo,←hC']at c1;have c2:=ze4 (T:=T) (S[i]'hiS).toNat lo B hls (by omega) (by omega);obtain⟨w,hwd⟩:∃w,w=((S[i]'hiS).toNat+8589934592-(lo+B))%4294967296:=⟨_,rfl⟩;obtain⟨B',hB'⟩:∃B',B'=2-((S[i]'hiS).toNat+8589934592-(lo+B))/4294967296:=⟨_,rfl⟩;rw[←hwd,←hB']at c2;have hwl:w<4294967296:=by omega
  have hset:=zfm (P:=P) (w32 w) hm hiS;refine⟨(i+1,(C',B'),m++[w32 w]),⟨h0,by grind,by simp only;omega,by grind,?_⟩,by omega,?_⟩
  ·simp only;rw[zai,zaf hb,zaf hs,Y7,hm,zap,zbh,Yaz,Y2,zag hwl];exact zlu hv (by omega)
  ·simp -implicitDefEqProofs[l120_0,Zjz,h0,hw,hw2,hlt2,hg,c1,c2,hset,zbe _ _ _ hwl]
 ·right;have:i=b.length:=by omega
  subst this;rw[Yb (Yi b.length)]at hv;refine⟨_,⟨C,B,m,rfl,hC,hB,hm,hv⟩,?_,?_⟩<;>simp -implicitDefEqProofs[l120_0,Zjz]
end
section
variable{T:Tbl}[Zp T][Zr T]
theorem ztu(P S b:List UInt32)(x:Nat)(hx:x<4294967296)(hS:b.length<S.length)(hl:P.length+S.length≤1000000) :
  ∃(B:Nat) (m:List UInt32),B≤1∧m.length=b.length+1∧val m+x*val b=val (S.take (b.length+1))+4294967296^(b.length+1)*B ∧
   Zcj T 120 [.bs (.bor 0) 0 1 0 (P.length+S.length),.i .i64 P.length,.sl (Za b) .an,u32 x] [(.bor 0,⟨0,.own,1,Za (P++S)⟩)] =
    some (.b (decide (0<B)),[(.bor 0,⟨0,.own,1,Za (P++(m++S.drop (b.length+1)))⟩)]):=by
 obtain⟨_,⟨C,B,m,rfl,hC,hB,hm,hv⟩,hr⟩:=zz4 (T:=T) P S b x hx hS hl (0,(0,0),[]) ⟨Yz _,Nat.zero_lt_succ _,Yz _,rfl,by simp⟩;unfold Zjz at hr;simp at hr;have hs:S[b.length]? = some (S[b.length]'hS):=Ya hS;have hls:=zam (S[b.length]'hS);have hg:=zfl (P:=P) hm hS;have hw2:IntKind.wrap .i64 ((P.length:Int)+b.length)=((P.length+b.length:Nat):Int):=zac _ (by omega);have hlt2:(P.length:Int)+b.length<(P.length:Int)+S.length:=by omega
 have c2:=ze4 (T:=T) (S[b.length]'hS).toNat C B hls hC (by omega);obtain⟨w,hwd⟩:∃w,w=((S[b.length]'hS).toNat+8589934592-(C+B))%4294967296:=⟨_,rfl⟩;obtain⟨B',hB'⟩:∃B',B'=2-((S[b.length]'hS).toNat+8589934592-(C+B))/4294967296:=⟨_,rfl⟩;rw[←hwd,←hB']at c2;have hwl:w<4294967296:=by omega
 have hset:=zfm (P:=P) (w32 w) hm hS;refine⟨B',m++[w32 w],by omega,by grind,?_,?_⟩
 ·rw[zai,zaf hs,Y7,hm,zap,zbh,Yaz,Y2,zag hwl];have:=zlu (y:=0) (w:=w) (v:=(S[b.length]'hS).toNat) (D':=B') hv (by omega);omega
 ·rw[zbl Zr.h120 rfl,b120];simp -implicitDefEqProofs[hr,hw2,hlt2,hg,c2,hset,zbe _ _ _ hwl]
end
section
variable{T:Tbl}[Zp T][Zy T][Zv T][Zr T]
theorem zlv{p M w s t y v D D':Nat}(h:M+p*D=s+t)(e:w+4294967296*D'=v+y+D):(M+p*w)+p*4294967296*D'=(s+p*v)+(t+p*y):=by
 grind
def Zj0(P S b:List UInt32)(y:Nat×Nat×List UInt32):St:=
 ⟨[(0,.bs (.bor 0) 0 1 0 (P.length+S.length)),(1,.i .i64 P.length),(2,.sl (Za b) .an),(6,u32 y.2.1),(9,.sl (Za b) .an),(10,.i .i64 b.length),(11,.i .i64 y.1)],
  [(.bor 0,⟨0,.own,1,Za (P++(y.2.2++S.drop y.1))⟩)],4⟩
end
section
variable{T:Tbl}[Zp T]
theorem zz5(P S b:List UInt32)(hS:b.length<S.length)(hl:P.length+S.length≤1000000):∀y:Nat×Nat×List UInt32,
  (y.1≤b.length∧y.2.1≤1∧y.2.2.length=y.1∧val y.2.2+4294967296^y.1*y.2.1=val (S.take y.1)+val (b.take y.1)) →
  ∃r,(∃(C:Nat) (m:List UInt32),r=(Ex.n,(⟨[(0,.bs (.bor 0) 0 1 0 (P.length+S.length)),(1,.i .i64 P.length),(2,.sl (Za b) .an),(6,u32 C)],[(.bor 0,⟨0,.own,1,Za (P++(m++S.drop b.length))⟩)],4⟩:St)) ∧
   C≤1∧m.length=b.length∧val m+4294967296^b.length*C=val (S.take b.length)+val b)∧Zw T 1 0 (.norm false [0,1,2,6]) l121_0 (Zj0 P S b y)=some r:=by
 refine za4 _ _ (fun y=>b.length-y.1) _ ?_
 rintro⟨i,C,m⟩ ⟨hi,hC,hm,hv⟩
 simp only at hi hC hm hv;by_cases h0:i<b.length
 ·left;have hb:b[i]? = some (b[i]'h0):=Ya h0;have hiS:i<S.length:=by omega
  have hs:S[i]? = some (S[i]'hiS):=Ya hiS;have hg:=zfl (P:=P) hm hiS;have hw:IntKind.wrap .i64 ((i:Int)+1)=((i+1:Nat):Int):=zac _ (by omega);have hw2:IntKind.wrap .i64 ((P.length:Int)+i)=((P.length+i:Nat):Int):=zac _ (by omega);have hlt2:(P.length:Int)+i<(P.length:Int)+S.length:=by omega
  have hlb:=zam (b[i]'h0);have hls:=zam (S[i]'hiS);have c2:=zdj (T:=T) (S[i]'hiS).toNat (b[i]'h0).toNat C hls hlb (by omega);obtain⟨w,hwd⟩:∃w,w=((S[i]'hiS).toNat+(b[i]'h0).toNat+C)%4294967296:=⟨_,rfl⟩;obtain⟨C',hC'⟩:∃C',C'=((S[i]'hiS).toNat+(b[i]'h0).toNat+C)/4294967296:=⟨_,rfl⟩;rw[←hwd,←hC']at c2;have hwl:w<4294967296:=by omega
  have hset:=zfm (P:=P) (w32 w) hm hiS;refine⟨(i+1,C',m++[w32 w]),⟨h0,by grind,by grind,?_⟩,by omega,?_⟩
  ·simp only;rw[zai,zaf hb,zaf hs,Y7,hm,zap,zbh,Yaz,Y2,zag hwl];exact zlv hv (by omega)
  ·simp -implicitDefEqProofs[l121_0,Zj0,h0,hw,hw2,hlt2,hg,c2,hset,zbe _ _ _ hwl]
 ·right;have:i=b.length:=by omega
  subst this;rw[Yb (Yi b.length)]at hv;refine⟨_,⟨C,m,rfl,hC,hm,hv⟩,?_,?_⟩<;>simp -implicitDefEqProofs[l121_0,Zj0]
end
section
variable{T:Tbl}[Zp T][Zr T]
theorem ztv(P S b:List UInt32)(hS:b.length<S.length)(hl:P.length+S.length≤1000000) :
  ∃(D:Nat) (m:List UInt32),D≤1∧m.length=b.length+1∧val m+4294967296^(b.length+1)*D=val (S.take (b.length+1))+val b ∧
   Zcj T 121 [.bs (.bor 0) 0 1 0 (P.length+S.length),.i .i64 P.length,.sl (Za b) .an] [(.bor 0,⟨0,.own,1,Za (P++S)⟩)] =
    some (.tup [],[(.bor 0,⟨0,.own,1,Za (P++(m++S.drop (b.length+1)))⟩)]):=by
 obtain⟨_,⟨C,m,rfl,hC,hm,hv⟩,hr⟩:=zz5 (T:=T) P S b hS hl (0,0,[]) ⟨Yz _,Yz _,rfl,by simp⟩;unfold Zj0 at hr;simp at hr;have hs:S[b.length]? = some (S[b.length]'hS):=Ya hS;have hls:=zam (S[b.length]'hS);have hg:=zfl (P:=P) hm hS;have hw2:IntKind.wrap .i64 ((P.length:Int)+b.length)=((P.length+b.length:Nat):Int):=zac _ (by omega);have hlt2:(P.length:Int)+b.length<(P.length:Int)+S.length:=by omega
 obtain⟨w,hwd⟩:∃w,w=((S[b.length]'hS).toNat+C)%4294967296:=⟨_,rfl⟩;have hwl:w<4294967296:=by omega
 have hset:=zfm (P:=P) (w32 w) hm hS;refine⟨((S[b.length]'hS).toNat+C)/4294967296,m++[w32 w],by omega,by grind,?_,?_⟩
 ·rw[zai,zaf hs,Y7,hm,zap,zbh,Yaz,Y2,zag hwl];have:=zlv (y:=0) (w:=w) (v:=(S[b.length]'hS).toNat) (D':=((S[b.length]'hS).toNat+C)/4294967296) hv (by omega);omega
 ·rw[zbl Zr.h121 rfl,b121];simp -implicitDefEqProofs[hr,hw2,hlt2,hg,←hwd,hset,zbe _ _ _ hwl]
end
end Go.Ab
end
section
namespace Go.Ab
theorem zg7(q b1 b0:Nat):q*(b1*4294967296+b0)=q*b1*4294967296+q*b0:=by
 rw[Yao q,←Yax q]
theorem zjm{a2 a1 a0 b1 b0 q r:Nat}(h:q*b1+r=a2*4294967296+a1)(hle:q*b0≤r*4294967296+a0) :
  q*(b1*4294967296+b0)≤(a2*4294967296+a1)*4294967296+a0:=by
 refine Yg (Nat.le_of_eq (zg7 q b1 b0)) ?_;revert h hle;generalize q*b1=u;generalize q*b0=v;omega
theorem zwb{a2 a1 a0 b1 b0 q r:Nat}(h:q*b1+r=a2*4294967296+a1)(hgt:r*4294967296+a0<q*b0) :
  (a2*4294967296+a1)*4294967296+a0<q*(b1*4294967296+b0):=by
 refine Nat.lt_of_lt_of_eq ?_ (zg7 q b1 b0).symm;revert h hgt;generalize q*b1=u;generalize q*b0=v;omega
theorem ztc{q b0 r a0:Nat}(h0:a0<4294967296):(q*b0/4294967296<r∨q*b0/4294967296=r∧q*b0%4294967296≤a0)↔q*b0≤r*4294967296+a0:=by
 generalize q*b0=m;omega
end Go.Ab
end
section
namespace Go.Ab
section
variable{T:Tbl}[Zp T][Zy T][Zv T][Zr T]
def Zgg(a0 b1 b0:Nat)(y:Nat×Nat):St:=⟨[(2,u32 a0),(3,u32 b1),(4,u32 b0),(11,u32 y.1),(12,u32 y.2)],[],2⟩
end
section
variable{T:Tbl}[Zp T]
theorem ztd(a2 a1 a0 b1 b0 g:Nat)(h0:a0<4294967296)(hb1:b1<4294967296)(hb0:b0<4294967296)
  (F1:∀q,q<4294967296→g≤q→q*(b1*4294967296+b0)≤(a2*4294967296+a1)*4294967296+a0→q=g)
  (F2:∀q,(a2*4294967296+a1)*4294967296+a0<q*(b1*4294967296+b0)→g<q):∀y:Nat×Nat,
  (y.1<4294967296∧y.2<4294967296∧y.1*b1+y.2=a2*4294967296+a1∧g≤y.1) →
  ∃r,(r=(Ex.n,(⟨[(11,u32 g)],[],2⟩:St)))∧Zw T 0 0 (.norm false [11]) l119_0 (Zgg a0 b1 b0 y)=some r:=by
 refine za4 _ _ (fun y=>y.1) _ ?_
 rintro⟨q,r⟩ ⟨hq,hr,hv,hg⟩
 simp only at hq hr hv hg;have c1:=zg9 (T:=T) q b0 0 0 hq hb0 (by decide) (by decide);have c2:=zdj (T:=T) r b1 0 hr hb1 (by decide);rw[Y2]at c1;rw[Y2]at c2;have hcmp:=ztc (q:=q) (b0:=b0) (r:=r) h0;obtain⟨hi,hhi⟩:∃hi,hi=q*b0/4294967296:=⟨_,rfl⟩;obtain⟨lo,hlo⟩:∃lo,lo=q*b0%4294967296:=⟨_,rfl⟩;rw[←hhi,←hlo]at c1 hcmp;have hlol:lo<4294967296:=by omega
 have hhil:hi<4294967296:=by
  have:=zg8 hq hb0;omega
 by_cases hle:q*b0≤r*4294967296+a0
 ·right;have hqg:=F1 q hq hg (zjm hv hle);subst hqg;have hc:=hcmp.2 hle;clear hhi hlo;rcases hc with hc | ⟨rfl,hc2⟩
  ·refine⟨_,rfl,?_,?_⟩<;>simp -implicitDefEqProofs[l119_0,Zgg,c1,hc]
  ·refine⟨_,rfl,?_,?_⟩<;>simp -implicitDefEqProofs[l119_0,Zgg,c1,hc2]
 ·have hgt:r*4294967296+a0<q*b0:=by omega
  have hlt:=F2 q (zwb hv hgt);have hc:¬ (hi<r∨hi=r∧lo≤a0):=fun h=>hle (hcmp.1 h);have hq1:q-1<4294967296:=by omega
  have hs:Zfr q 1=q-1:=by unfold Zfr;omega
  have hqb:(q-1)*b1+(r+b1)=a2*4294967296+a1:=by
   have:q*b1=(q-1)*b1+b1:=by
    rw[←Nat.succ_mul];congr 1;omega
   omega
  by_cases hcar:4294967296≤r+b1
  ·right;have hmul:=zg8 hq1 hb0;have hqg:=F1 (q-1) hq1 (by omega) (zjm hqb (by
    generalize (q-1)*b0=v at *
    omega))
   have m2:0<(r+b1)/4294967296:=Nat.div_pos hcar (by decide);have m3:(r+b1)/4294967296<4294967296:=by omega
   have hr2:¬ hi<r:=fun h=>hc (.inl h);clear hhi hlo;refine⟨_,rfl,?_,?_⟩<;>by_cases he:hi=r
   ·have hc3:¬ lo≤a0:=fun h=>hc (.inr ⟨he,h⟩);subst he;simp -implicitDefEqProofs[l119_0,Zgg,c1,c2,hs,hc3,m2]
   ·simp -implicitDefEqProofs[l119_0,Zgg,c1,c2,hs,hr2,he,m2]
   ·have hc3:¬ lo≤a0:=fun h=>hc (.inr ⟨he,h⟩);subst he;simp -implicitDefEqProofs[l119_0,Zgg,c1,c2,hs,hc3,m2,hqg]
   ·simp -implicitDefEqProofs[l119_0,Zgg,c1,c2,hs,hr2,he,m2,hqg]
  ·left;refine⟨(q-1,r+b1),⟨hq1,by simp only;omega,hqb,by simp only;omega⟩,by simp only;omega,?_⟩;have m1:(r+b1)%4294967296=r+b1:=Yt (by omega);have m2:(r+b1)/4294967296=0:=Ybn (by omega);rw[m1,m2]at c2;have hr2:¬ hi<r:=fun h=>hc (.inl h);clear hhi hlo;by_cases he:hi=r
   ·have hc3:¬ lo≤a0:=fun h=>hc (.inr ⟨he,h⟩);subst he;simp -implicitDefEqProofs[l119_0,Zgg,c1,c2,hs,hc3]
   ·simp -implicitDefEqProofs[l119_0,Zgg,c1,c2,hs,hr2,he]
end
end Go.Ab
end