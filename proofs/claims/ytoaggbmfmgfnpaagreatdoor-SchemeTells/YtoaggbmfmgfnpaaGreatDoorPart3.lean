/-
  A calculus of values, boxes and code, and what functions of the program compute, proved in it.
  Conditions: none beyond those that the theorems state. (Part 3: Ax5, Ax6, Ax7, Ax8, Ax9, GcLimb, GpLimb, GcNat, Nm1, GpNat, GcProd, GcTwos, GpProd, Nm2, GpTwos, GcQuot, GpQuot, GpGuess, GpGuessTry.)
-/
import Derived.Test.YtoaggbmfmgfnpaaGreatDoorPart2

set_option linter.unusedSectionVars false
set_option linter.unusedVariables false
set_option linter.unusedSimpArgs false
set_option linter.unnecessarySimpa false

section
namespace Go.Ab
open Go.RowKit
def Zek(ν:Nat→FuncId)(τ:Nat→Nat):AOp→AOp
 | .call u args=>.call (ν u) args
 | .ifc k x=>.ifc (τ k) x
 | .inv nm _ _ r args=>.inv nm 0 (if nm="()" then 1 else 0) r args
 | .xop (.mkf k) xs=>.xop (.mkf (τ k)) xs
 | .xop (.mkv k) xs=>.xop (.mkv (τ k)) xs
 | op=>op
def Zaq(ν:Nat→FuncId)(τ:Nat→Nat)(o:AO):AO:=⟨o.dst,o.guard,Zek ν τ o.op⟩
def Zkd(ν:Nat→FuncId)(τ:Nat→Nat)(o:DO):DO:=⟨Zaq ν τ o.ao,o.lo,o.hi⟩
def er(ν:Nat→FuncId)(τ:Nat→Nat):AX→AC
 | .skip=>.skip
 | .reg l=>.reg (l.map (Zaq ν τ))
 | .draw l=>.draw (l.map (Zkd ν τ))
 | .seq a b=>.seq (er ν τ a) (er ν τ b)
 | .cond c x y=>.cond c (er ν τ x) (er ν τ y)
 | .block id c=>.block id (er ν τ c)
 | .loop c=>.loop (er ν τ c)
 | .exit id=>.exit id
 | .ret=>.ret
 | .note c _=>er ν τ c
 | .pre _ c=>er ν τ c
 | .scope c=>.scope (er ν τ c)
 | .lp id _ c _=>.block id (.loop (er ν τ c))
 | .bad=>.bad
 | .drawT hd tl=>.drawT (hd.map (Zaq ν τ)) (tl.map (Zaq ν τ))
 | .drawM hd tl=>.drawM (hd.map (Zaq ν τ)) (tl.map (Zaq ν τ))
 | .prim _=>.bad
 | .label l=>.label l
 | .goto l=>.goto l
 | .gsc l c r=>.gsc l (er ν τ c) (er ν τ r)
def erF(ν:Nat→FuncId)(τ:Nat→Nat)(af:AFx):AF:=⟨af.np,af.nt,af.res,er ν τ af.body⟩
def Ex.out:Ex→Exit
 | .n=>.normal
 | .x id=>.exit id
 | .r=>.ret
 | .g l=>.goto l
def LWp(cx:Cx)(c:AC)(Q:Exit→St→Prop)(st:St):Prop:=
 ∀code,Zp cx.P cx.nt code=some c→cx.P.follows .mixedOrders=true→∀a w,Rel cx st a w→∀(b:Frame) (k:List Item) (cs:List Frame),
  ∃e a' w',(∃st',Q e st'∧Rel cx st' a' w')∧Arrives cx.P (lone (b.at a (.code code :: .inLoop code::k)) cs w) b k cs e a' w'
theorem zyt{cx:Cx}{c:AC}{Q:Exit→St→Prop}{st:St}(h:AWp cx c (Zij (fun s=>LWp cx c Q s) Q) st):LWp cx c Q st:=by
 intro code hc hm a w hr b k cs;obtain⟨ex,a1,w1,⟨st1,hq1,hrel1⟩,harr⟩:=h code hc hm a w hr b (.inLoop code::k) cs;cases ex with
 | normal=>
  obtain⟨e2,a2,w2,hq2,harr2⟩:=hq1 code hc hm a1 w1 hrel1 b k cs;exact⟨e2,a2,w2,hq2,.of_steps (Steps.trans harr (.one step_inLoop)) harr2⟩
 | exit id=>exact⟨_,a1,w1,⟨st1,hq1,hrel1⟩,.pass (x:=.inLoop code) rfl (fun _ _=>.inl (by simp)) harr⟩
 | goto l=>exact⟨_,a1,w1,⟨st1,hq1,hrel1⟩,.pass (x:=.inLoop code) rfl (fun _ _=>.inl (by simp)) harr⟩
 | ret=>exact⟨_,a1,w1,⟨st1,hq1,hrel1⟩,.pass (x:=.inLoop code) rfl (fun _ _=>.inl (by simp)) harr⟩
 | panic ch=>exact⟨_,a1,w1,⟨st1,hq1,hrel1⟩,.pass (x:=.inLoop code) rfl (fun _ _=>.inl (by simp)) harr⟩
 | outgrown=>exact⟨_,a1,w1,⟨st1,hq1,hrel1⟩,.pass (x:=.inLoop code) rfl (fun _ _=>.inl (by simp)) harr⟩
theorem zhy{cx:Cx}{c:AC}{Q:Exit→St→Prop}{st:St}(h:LWp cx c Q st):AWp cx (.loop c) Q st:=by
 intro code hc hm a w hr;have hcode:=hc;cases code<;>simp only[Zp]at hc<;>try cases hc
 case loop c1=>
  obtain⟨x',hx,he⟩:=map_some hc;cases he;intro b k cs;obtain⟨e,a',w',hq,harr⟩:=h c1 hx hm a w hr b k cs;exact⟨e,a',w',hq,.of_steps (.one step_loop) harr⟩
 case region id ops draw=>
  rcases zao hcode with ⟨_,l,_,h1⟩ | ⟨_,l,_,⟨n,_,h1⟩ | ⟨_,h1⟩ | ⟨n,_,h1⟩ | h1⟩<;>cases h1
 all_goals simp[Yh]at hc
theorem LWp.mono{cx:Cx}{c:AC}{Q Q':Exit→St→Prop}{st:St}(h:LWp cx c Q st)(hq:∀ex st,Q ex st→Q' ex st):LWp cx c Q' st:=
 fun code hc hm a w hr b k cs=>let ⟨e,a',w',⟨st',h1,h2⟩,h3⟩:=h code hc hm a w hr b k cs;⟨e,a',w',⟨st',hq _ _ h1,h2⟩,h3⟩
def Is(e:Ex)(st':St):Exit→St→Prop:=fun ex s=>ex=e.out∧s=st'
theorem zml{ν:Nat→FuncId}{τ:Nat→Nat}(op:AOp):(Zek ν τ op).writes=op.writes:=by
 cases op<;>first | rfl | (rename_i k xs;cases k<;>rfl)
theorem zyu(j:Nat):Zj9 j≠"()":=by
 unfold Zj9
 repeat' split
 all_goals decide
theorem zmm{T:Tbl}{k:Nat}{nm:String}{u:Nat}(h:(nm,u)∈Zcj T k):nm≠"()":=by
 unfold Zcj at h;split at h
 ·split at h
  ·unfold Zia at h;obtain⟨r,_,hr⟩:=Ydk.1 h;split at hr
   ·cases hr;exact zyu _
   ·cases hr
  ·cases h
 ·cases h
structure GoodO (P:Program) (ν:Nat→FuncId) (T:Tbl) (O:Orc):Prop where
 meth:∀k nm u,(nm,u)∈Zcj T k→Zdr P (Zo T k) nm=some (ν u)
 fnn:∀k u,Zhj T k=some u→Zo T k=ν u
 pure:∀u af xs r h,T u=some af→af.lent=none→O.call u xs []=some (r,h)→Zae P (ν u) xs (·=r)
 lent:∀u af ms xs hb r hb',T u=some af→af.lent=some ms→O.call u xs hb=some (r,hb')→Zd3 P (ν u) xs hb (hb.length+1) (fun r1 h1 c1=>r1=r∧h1=hb'∧c1=hb.length+hb'.length+2)
 loop:∀k c st e st',O.loop k c st=some (e,st')→∀cx:Cx,cx.P=P→cx.clk0=k+1→LWp cx (er ν (Zo T) c) (Is e st') st
section
variable{P:Program}{ν:Nat→FuncId}{T:Tbl}{O:Orc}
theorem zi7(q:BId→Bool)(h:Heap)(b:BId):(h.filter fun p=>!q p.1).lookup b=if q b=true then none else h.lookup b:=by
 induction h with
 | nil=>simp
 | cons p h ih=>
  obtain⟨p1,p2⟩:=p;by_cases hp:q p1=true
  ·rw[Ycv,if_neg (by simp[hp]),ih];by_cases hb:b=p1
   ·subst hb;simp[hp]
   ·simp[hb]
  ·rw[Ycv,if_pos (by simp[hp])];by_cases hb:b=p1
   ·subst hb;simp[hp]
   ·simpa[hb]using ih
theorem zdt(hO:GoodO P ν T O){u:Nat}{xs:List AV}{d:Option Nat}{st st':St}{K:St→Prop}(h:Zc O T u xs d st=some st')(hK:K st') :
  Zht P (ν u) xs st.heap (fun r h=>K ⟨Zm st.env d r,h,st.clk⟩)∨Zhu P (ν u) xs st.heap st.clk (fun r h c=>K ⟨Zm st.env d r,h,c⟩):=by
 unfold Zc at h;split at h
 ·cases h
 rename_i af hT;split at h
 ·rename_i hl;obtain⟨ys,h1,h2⟩:=bind_some h;obtain⟨r,h3,h4⟩:=bind_some h2;cases h4;refine .inl ⟨ys,(·=r.1),h1,(hO.pure u af _ r.1 r.2 hT hl h3).wk,?_⟩
  rintro r' rfl
  exact hK
 ·rename_i ms hl;obtain⟨ys,h1,h2⟩:=bind_some h;simp only at h2;generalize hh1:Zh (Zap ms xs) st.heap=h1' at *
  generalize hll:Zck h1' 40 (Zb8 ms xs) []=l at *
  generalize hhp:Zd7 h1' l=hp at *
  split at h2
  ·rename_i hc;obtain⟨r,h3,h4⟩:=bind_some h2;generalize hhb:(r.2.map fun p=>(Za4 l (d.getD 0) p.1,Zan true (Za4 l (d.getD 0)) (Zbd hp st.clk) p.2))=hb' at *
   split at h4
   ·rename_i hchk;cases h4;simp only[Yr,decide_eq_true_eq]at hchk;obtain⟨⟨k2,k3⟩,k4⟩:=hchk;have hmem:∀b bx,hp.lookup b=some bx→h1'.lookup b=some bx:=by
     intro b bx hb;have:=zba _ _ _ hb;rw[←hhp]at this;exact zfr this
    have hin:∀b,(hp.lookup b).isSome=true↔b∈l:=by
     intro b;constructor
     ·intro hb;obtain⟨bx,hb⟩:=Ybo.1 hb;rw[←hc.1];exact Yab.2 ⟨_,zba _ _ _ hb,rfl⟩
     ·intro hb;rw[←hc.1]at hb;obtain⟨p,hp1,rfl⟩:=Yab.1 hb;obtain⟨x,hx⟩:=zgh _ _ hp1;rw[hx];rfl
    have hlk:∀id,(h1'.filter fun p=>!(l.contains p.1 || (hb'.map (·.1)).contains p.1)).lookup id=if (l.contains id || (hb'.map (·.1)).contains id)=true then none else h1'.lookup id:=
     fun id=>zi7 (fun b=>l.contains b || (hb'.map (·.1)).contains b) h1' id
    refine .inr ⟨ms,ys,h1,hp,h1'.filter (fun p=>!(l.contains p.1 || (hb'.map (·.1)).contains p.1)),_,⟨fun id bx hid=>?_,fun id bx hid=>?_⟩,fun id hid=>?_,Zd3.rl hc.1 hc.2 (by rw[hhb];exact k2) (by
     have:=hO.lent u af ms _ _ r.1 r.2 hT hl h3;rw[Ya3]at this;exact this),?_⟩
    ·rw[hh1];exact hmem id bx hid
    ·rw[hlk]at hid;split at hid
     ·cases hid
     ·rw[hh1];exact hid
    ·rw[hlk,if_pos (by rw[Ya4];exact .inl (by simpa using (hin id).1 hid))]
    ·rintro r' h' c' hle ⟨rfl,rfl,rfl⟩
     rw[hhb];refine⟨fun id hid=>?_,k3,k4,?_⟩
     ·obtain⟨bx,hb⟩:=Ybo.1 hid;have:id∈hb'.map (·.1):=Yab.2 ⟨(id,bx),zba _ _ _ hb,rfl⟩;rw[hlk,if_pos (by rw[Ya4];exact .inr (by rw[Yci];exact this))]
     ·have e1:st.clk+(hp.length+r.2.length+2-hp.length)=st.clk+r.2.length+2:=by omega
      rw[e1];exact hK
   ·cases h4
  ·cases h2
theorem zmn(hO:GoodO P ν T O){op:AOp}{d:Option Nat}{st st':St}{K:St→Prop}(h:opX O T op d st=some st')(hK:K st'):opK P (Zek ν (Zo T) op) d st K:=by
 cases op<;>simp only[opX]at h
 case call u args=>exact zdt hO h hK
 case ifc k x=>
  cases h;exact⟨_,rfl,hK⟩
 case inv nm k u r args=>
  split at h
  ·rename_i t y hy;split at h
   ·rename_i hc;obtain⟨rfl,hm⟩:=hc;exact .inl ⟨if_neg (zmm hm),_,y,_,hy,hO.meth k nm u hm,zdt hO h hK⟩
   ·cases h
  ·rename_i f x hy;split at h
   ·rename_i hc;obtain⟨rfl,rfl,hm⟩:=hc;have hc:=zdt hO h hK;rw[←hO.fnn k u hm]at hc;exact .inr (.inl ⟨rfl,_,x,hy,hc⟩)
   ·cases h
  ·rename_i f id g z i o hy;split at h
   ·rename_i hc;obtain⟨rfl,rfl,hm⟩:=hc;have hc:=zdt hO h hK;rw[←hO.fnn k u hm]at hc;exact .inr (.inr ⟨rfl,_,id,g,z,i,o,hy,hc⟩)
   ·cases h
  ·cases h
 case bsl z zs len ps=>
  obtain⟨q,h1,rfl⟩:=map_some h;exact⟨q,h1,hK⟩
 case alloc zs=>
  obtain⟨q,h1,rfl⟩:=map_some h;exact⟨q,h1,hK⟩
 case store n x v=>
  obtain⟨q,h1,rfl⟩:=map_some h;exact⟨q,h1,hK⟩
 case mks z zs l c=>
  obtain⟨q,h1,rfl⟩:=map_some h;exact⟨q,h1,hK⟩
 case app z x y=>
  obtain⟨q,h1,rfl⟩:=map_some h;exact⟨q,h1,hK⟩
 case xop k xs=>
  cases k
  all_goals
   obtain⟨q,h1,rfl⟩:=map_some h;exact⟨q,h1,hK⟩
 all_goals
  obtain⟨q,h1,rfl⟩:=map_some h;exact⟨q,h1,hK⟩
theorem zmo(hO:GoodO P ν T O){o:AO}{st st':St}{K:St→Prop}(h:Zgf O T o st=some st')(hK:K st'):Zgy P (Zaq ν (Zo T) o) st K:=by
 unfold Zgf at h;unfold Zgy;simp only[Zaq];cases hg:o.guard with
 | none=>rw[hg]at h;exact zmn hO h hK
 | some p=>
  obtain⟨t,want⟩:=p;rw[hg]at h;simp only[gX]at h ⊢;cases hx:st.env.get t<;>rw[hx]at h<;>simp only at h ⊢<;>try (cases h;done)
  ·split at h
   ·rename_i hv;rw[if_pos hv];exact zmn hO h hK
   ·rename_i hv;rw[if_neg hv];cases h;exact hK
  ·cases h;exact hK
theorem zes(hO:GoodO P ν T O):∀(l:List AO) (st st':St) (K:St→Prop),Zds O T l st=some st'→K st'→Zed P (l.map (Zaq ν (Zo T))) st K
 | [],st,st',K,h,hK=>by simp only[Zds]at h;cases h;exact hK
 | o::l,st,st',K,h,hK=>by
  simp only[Zds]at h;obtain⟨s1,h1,h2⟩:=bind_some h;simp only[Y0,Zed];exact zmo hO h1 (zes hO l s1 st' K h2 hK)
theorem zmp(hO:GoodO P ν T O){op:AOp}{e:Env}{h:Heap}{older:List Heap}{x:AV}{K:AV→Prop}(hx:opD O T op e h older=some x)(hK:K x):opQ P (Zek ν (Zo T) op) e h older K:=by
 by_cases hap:∃z x0 y,op=.app z x0 y
 ·obtain⟨z,x0,y,rfl⟩:=hap;by_cases hc:x0=.c (.sl [] .nl)
  ·subst hc;exact⟨x,hx,hK⟩
  ·exfalso;cases x0 with
   | t n=>simp[opD,Zg]at hx
   | c a=>
    cases a
    case sl els f=>
     cases els with
     | nil=>cases f<;>first | exact hc rfl | simp[opD,Zg]at hx
     | cons r l=>simp[opD,Zg]at hx
    all_goals simp[opD,Zg]at hx
 cases op<;>(try exact absurd ⟨_,_,_,rfl⟩ hap)<;>simp only[opD]at hx
 case call u args=>
  split at hx
  ·cases hx
  rename_i af hT;split at hx
  ·rename_i hc;simp only[Yr]at hc;obtain⟨r,h1,rfl⟩:=map_some hx;exact⟨_,⟨zdr hc.2,fun hf=>by rw[hc.2]at hf;cases hf⟩,r.1,(hO.pure u af _ r.1 r.2 hT (by simpa using hc.1) h1).wk,hK⟩
  ·cases hx
 case ifc k x=>
  cases hx;exact⟨_,rfl,trivial,hK⟩
 case inv nm k u r args=>
  split at hx
  ·rename_i t y hy;split at hx
   ·rename_i hc0;obtain⟨rfl,hm⟩:=hc0;split at hx
    ·cases hx
    rename_i af hT;split at hx
    ·rename_i hc;simp only[Yr]at hc;obtain⟨r,h1,rfl⟩:=map_some hx;exact⟨if_neg (zmm hm),_,y,_,hy,hO.meth k nm u hm,hc.2,r.1,(hO.pure u af _ r.1 r.2 hT (by simpa using hc.1) h1).wk,hK⟩
    ·cases hx
   ·cases hx
  ·cases hx
 case bsl z zs len ps=>
  split at hx
  ·rename_i hc;obtain⟨q,h1,rfl⟩:=map_some hx;exact⟨hc,q,h1,hK⟩
  ·cases hx
 case xop k xs=>
  obtain⟨q,h1,_⟩:=bind_some hx;cases h1
 all_goals
  obtain⟨q,h1,h2⟩:=bind_some hx;split at h2
  ·rename_i hc;cases h2;refine⟨_,h1,?_,hK⟩;rcases zrp hc with hc | hc
   ·simp only[Zek];rw[hc]
    trivial
   ·simp only[Zek];split
    ·trivial
    ·exact hc
  ·cases h2
theorem zyv{o:AO}{e:Env}{h':Heap}{x:AV}(hf:o.op.free=false)(hw:o.op.writes=false)(hg:o.guard=none∨∃t want,o.guard=some (t,want)∧e.get t=.b want)(hs:Zg2 o.op e.get h'=some x):QF P h' (Zaq ν (Zo T) o) e.get x:=by
 have hq:QOp P (Zek ν (Zo T) o.op) e.get h' x:=by
  obtain⟨d,g,op⟩:=o;by_cases hap:∃z x0 y,op=.app z x0 y
  ·obtain⟨z,x0,y,rfl⟩:=hap;by_cases hc:x0=.c (.sl [] .nl)
   ·subst hc;cases hf
   ·exact absurd (show (AOp.app z x0 y).writes=false from hw) (by rw[zje hc];simp)
  cases op<;>first | exact absurd ⟨_,_,_,rfl⟩ hap | exact hs | (cases hf;done) | (cases hw;done) | (cases hs;done)
 unfold QF;simp only[Zaq];rcases hg with hg | ⟨t,want,hg,ht⟩
 ·rw[hg];exact hq
 ·rw[hg];exact .inl ⟨ht,hq⟩
theorem z16{o:AO}{e:Env}{h':Heap}(hg:∃t want,o.guard=some (t,want)∧(e.get t=.b (!want)∨e.get t=.tup [])):QF P h' (Zaq ν (Zo T) o) e.get (.tup []):=by
 obtain⟨t,want,hg,ht⟩:=hg;unfold QF;simp only[Zaq];rw[hg];exact .inr ⟨ht,by trivial⟩
theorem zyw{o:AO}{e:Env}{h h':Heap}{x:AV}(hf:o.op.freeE e.get=true)(hq:QF P h (Zaq ν (Zo T) o) e.get x):QF P h' (Zaq ν (Zo T) o) e.get x:=
 zt3 (o:=Zaq ν (Zo T) o) (by show (Zek ν (Zo T) o.op).freeE e.get=true;cases hop:o.op<;>rw[hop]at hf<;>first | rfl | exact hf | cases hf) h h' hq
theorem zyx{o:AO}{e:Env}{h:Heap}{older:List Heap}{r:AV×Bool}(hx:qX O T o e h older=some r)(hr:r.2=true)(hf:o.op.free=true):o.op.freeE e.get=true:=by
 cases hop:o.op
 case call u args=>
  have key:∀x,opD O T (.call u args) e h older=some x→(args.map (ev e.get)).all noRef=true:=by
   intro x hx;simp only[opD]at hx;split at hx
   ·cases hx
   split at hx
   ·rename_i hc;simp only[Yr]at hc;exact hc.2
   ·cases hx
  unfold qX at hx;rw[hop]at hx;split at hx
  ·obtain⟨x,h1,_⟩:=map_some hx;exact key x h1
  ·split at hx
   ·split at hx
    ·obtain⟨x,h1,_⟩:=map_some hx;exact key x h1
    ·cases hx;cases hr
   ·cases hx;cases hr
   ·cases hx
 all_goals (rw[hop]at hf;exact hf)
theorem zk0(hO:GoodO P ν T O){o:AO}{e:Env}{h:Heap}{older:List Heap}{r:AV×Bool}{K:AV→Prop}(hx:qX O T o e h older=some r)(hK:K r.1) :
  qK P (Zaq ν (Zo T) o) e h older K∧(r.2=true→(o.guard=none∨∃t want,o.guard=some (t,want)∧e.get t=.b want))∧(r.2=false→r.1=.tup []∧∃t want,o.guard=some (t,want)∧(e.get t=.b (!want)∨e.get t=.tup [])):=by
 unfold qX at hx;unfold qK;simp only[Zaq];cases hg:o.guard with
 | none=>
  rw[hg]at hx;obtain⟨x,h1,rfl⟩:=map_some hx;exact⟨zmp hO h1 hK,fun _=>.inl rfl,fun h=>by cases h⟩
 | some p=>
  obtain⟨t,want⟩:=p;rw[hg]at hx;simp only at hx ⊢;cases hx2:e.get t with
  | b v=>
   rw[hx2]at hx;simp only at hx ⊢;split at hx
   ·rename_i hv;rw[if_pos hv];obtain⟨x,h1,rfl⟩:=map_some hx;exact⟨zmp hO h1 hK,fun _=>.inr ⟨t,want,rfl,by rw[hx2,hv]⟩,fun h=>by cases h⟩
   ·rename_i hv;rw[if_neg hv];cases hx;refine⟨hK,?_,?_⟩
    ·intro h;cases h
    intro _;refine⟨rfl,t,want,rfl,.inl ?_⟩;rw[hx2];congr 1;cases v<;>cases want<;>simp_all
  | tup l=>
   rw[hx2]at hx;cases l with
   | nil=>
    simp only at hx ⊢;cases hx;refine⟨hK,?_,?_⟩
    ·intro h;cases h
    ·intro _;exact⟨rfl,t,want,rfl,.inr hx2⟩
   | cons c l=>simp at hx
  | _=>rw[hx2]at hx;simp at hx
theorem zoo{pend:Zcl}{h:Heap}(hp:Zcw pend h=true):∀p∈pend,0<p.1→Zg2 p.2.1 p.2.2.1.get h=some p.2.2.2:=by
 classical
 unfold Zcw at hp;exact of_decide_eq_true hp
def Zgm(pendX:Zcl)(pend:Zj5):Prop:=∀q∈pend,(∀h',q.2 h')∨q.1=0∨∃p∈pendX,p.1=q.1∧∀h',Zg2 p.2.1 p.2.2.1.get h'=some p.2.2.2→q.2 h'
theorem Zgm.next{pendX:Zcl}{pend:Zj5}(h:Zgm pendX pend):Zgm (pendX.map fun p=>(p.1-1,p.2)) (pend.map fun p=>(p.1-1,p.2)):=by
 intro q hq;obtain⟨q0,h1,rfl⟩:=Yab.1 hq;rcases h q0 h1 with h2 | h2 | ⟨p,h2,h3,h4⟩
 ·exact .inl h2
 ·exact .inr (.inl (by simp only;omega))
 ·exact .inr (.inr ⟨_,Yab.2 ⟨p,h2,rfl⟩,by simp only;omega,h4⟩)
theorem zdu(hO:GoodO P ν T O):∀(l:List DO) (e:Env) (h:Heap) (clk:Nat) (older:List Heap) (pendX:Zcl) (pend:Zj5) (st':St) (K:St→Prop),Zgm pendX pend→Zb2 O T l e h clk older pendX=some st'→K st'→Zge P (l.map (Zkd ν (Zo T))) e h clk older pend K
 | [],e,h,clk,older,pendX,pend,st',K,hpr,hx,hK=>by simp only[Zb2]at hx;cases hx;exact hK
 | o::l,e,h,clk,older,pendX,pend,st',K,hpr,hx,hK=>by
  simp only[Zb2]at hx;simp only[Y0,Zge];have hw:(Zkd ν (Zo T) o).ao.op.writes=o.ao.op.writes:=by
   exact zml _
  rw[hw];cases ho:o.ao.op.writes with
  | true=>
   rw[ho]at hx;simp only at hx ⊢;split at hx
   ·rename_i hg;obtain⟨q,h1,h2⟩:=bind_some hx;split at h2
    ·rename_i hpd;have e1:Zek ν (Zo T) o.ao.op=o.ao.op:=by
      cases hop:o.ao.op<;>rw[hop]at ho<;>first | rfl | (simp[AOp.writes]at ho;done) | (rename_i k xs;cases k<;>first | rfl | (simp[AOp.writes]at ho))
     refine⟨by show o.ao.guard=none;simpa using hg,q,?_,fun p hp h0=>?_,zdu hO l _ _ _ _ _ _ st' K hpr.next h2 hK⟩
     ·show stepW (Zek ν (Zo T) o.ao.op) o.ao.dst e.get h clk=some q;rw[e1];exact h1
     ·rcases hpr p hp with h3 | h3 | ⟨p',h3,h4,h5⟩
      ·exact h3 _
      ·omega
      ·exact h5 _ (zoo hpd p' h3 (by omega))
    ·cases h2
   ·cases hx
  | false=>
   rw[ho]at hx;simp only at hx ⊢;split at hx
   rotate_left
   ·rename_i p hrow;obtain⟨x,h1,h2⟩:=bind_some hx;obtain⟨hg,args,hop,hfr,hold⟩:=zme hrow;unfold Zfu at h1;split at h1
    ·cases h1
    rename_i af hT;split at h1
    rotate_left
    ·cases h1
    rename_i hl;obtain⟨r,h3,rfl⟩:=map_some h1;have hcall:Zae P (ν p.1) p.2 (·=r.1):=(hO.pure p.1 af _ r.1 r.2 hT (by simpa using hl) h3).wk;have hao:Zaq ν (Zo T) o.ao=⟨o.ao.dst,none,.call (ν p.1) args⟩:=by unfold Zaq;rw[hg,hop];rfl
    show qK P (Zaq ν (Zo T) o.ao) e h (older.take (older.length-o.lo)) _;rw[hao];refine⟨p.2,⟨hfr,fun _=>hold⟩,r.1,hcall,?_⟩;refine zdu hO l _ _ _ _ _ _ st' K ?_ h2 hK;intro q hq;rcases Yt.1 hq with rfl | hq
    ·by_cases hn:older.length<o.hi
     ·refine .inr (.inr ⟨(o.hi-older.length,o.ao.op,e,.tup p.2),?_,rfl,fun h' hs=>?_⟩)
      ·rw[if_pos hn];exact Yz
      ·simp only[hop,Zg2]at hs;obtain⟨zs,h6,h7⟩:=map_some hs;cases h7;show QF P h' (Zaq ν (Zo T) o.ao) e.get r.1;rw[hao];exact⟨_,h6,hcall⟩
     ·exact .inr (.inl (by show o.hi-older.length=0;omega))
    ·rcases hpr q hq with h3 | h3 | ⟨p',h3,h4,h5⟩
     ·exact .inl h3
     ·exact .inr (.inl h3)
     ·refine .inr (.inr ⟨p',?_,h4,h5⟩);split
      ·exact Yn _ h3
      ·exact h3
   rename_i hrow;obtain⟨r,h1,h2⟩:=bind_some hx;have key:=fun(K':AV→Prop) (hk:K' r.1)=>zk0 hO (K:=K') h1 hk;refine(key _ ?_).1;refine zdu hO l _ _ _ _ _ _ st' K ?_ h2 hK;obtain⟨_,k1,k2⟩:=key (fun _=>True) trivial;intro q hq;rcases Yt.1 hq with rfl | hq
   ·cases hr2:r.2 with
    | false=>
     obtain⟨h3,h4⟩:=k2 hr2;exact .inl fun h'=>by
      show QF P h' (Zaq ν (Zo T) o.ao) e.get r.1;rw[h3];exact z16 h4
    | true=>
     cases hf:o.ao.op.free with
     | true=>
      obtain⟨hqk,_⟩:=key (fun x=>x=r.1) rfl;obtain⟨x,hq1,_,hxr⟩:=zye (o:=Zaq ν (Zo T) o.ao) (by rw[←ho];exact hw) hqk;subst hxr;exact .inl fun h'=>zyw (zyx h1 hr2 hf) hq1
     | false=>
      by_cases hn:older.length<o.hi
      ·refine .inr (.inr ⟨(o.hi-older.length,o.ao.op,e,r.1),?_,rfl,fun h' hs=>zyv hf ho (k1 hr2) hs⟩);unfold Ze5;rw[if_pos (by rw[hr2,hf,decide_eq_true hn];rfl)];exact Yz
      ·exact .inr (.inl (by show o.hi-older.length=0;omega))
   ·rcases hpr q hq with h3 | h3 | ⟨p,h3,h4,h5⟩
    ·exact .inl h3
    ·exact .inr (.inl h3)
    ·refine .inr (.inr ⟨p,?_,h4,h5⟩);unfold Ze5;split
     ·exact Yn _ h3
     ·exact h3
theorem zhz(hO:GoodO P ν T O)(tl:List AO):∀(l:List AO) (e:Env) (h:Heap) (clk:Nat) (st':St) (K:St→Prop),Zdk O T tl l e h clk=some st'→K st'→Zfj P (tl.map (Zaq ν (Zo T))) (l.map (Zaq ν (Zo T))) e h clk K
 | [],e,h,clk,st',K,hx,hK=>zes hO tl _ st' K hx hK
 | o::l,e,h,clk,st',K,hx,hK=>by
  simp only[Zdk]at hx;obtain⟨r,h1,h2⟩:=bind_some hx;simp only[Y0,Zfj];exact(zk0 hO (K:=fun x=>Zfj P (tl.map (Zaq ν (Zo T))) (l.map (Zaq ν (Zo T))) (Zm e o.dst x) h clk K) h1 (zhz hO tl l _ h clk st' K h2 hK)).1
theorem zgi{c0:Nat}{op:AOp}{e:Env}{l:List Nat}{ν:Nat→FuncId}{τ:Nat→Nat}(h:Zg3 c0 op e l=true):∀g∈l,Zfs c0 (Zek ν τ op) e.get g:=by
 intro g hg;unfold Zg3 at h;have h1:=Yg.1 h g hg;simp only[Ya4,decide_eq_true_eq,List.any_eq_true,Yci]at h1;rcases h1 with h1 | ⟨t,ht,h2⟩
 ·exact .inl h1
 ·refine .inr ⟨t,?_,h2⟩;cases op<;>first | exact ht | (cases ht;done) | (rename_i k xs;cases k<;>first | exact ht | cases ht)
theorem zop(hO:GoodO P ν T O){u:Nat}{xs:List AV}{d clk:Nat}{q:AV×Heap×Nat}(h:Zfe O T u xs d clk=some q):∃m,q.2.2=clk+m∧Zj6 P (ν u) xs clk q.1 q.2.1 m:=by
 unfold Zfe at h;split at h
 ·cases h
 rename_i af hT;split at h
 ·cases h
 rename_i ms hl;split at h
 ·rename_i hn;obtain⟨r,h3,h4⟩:=bind_some h;simp only at h4;generalize hhb:(r.2.map fun p=>(Za4 [] d p.1,Zan true (Za4 [] d) (Zbd [] clk) p.2))=hb' at *
  split at h4
  ·rename_i hc;cases h4;obtain⟨hnd,hg1,hg2⟩:=hc;refine⟨r.2.length+2,rfl,hn,?_,hnd,fun g hg=>?_,fun p hp g hg=>?_⟩
   ·have hA:=hO.lent u af ms _ _ r.1 r.2 hT hl h3;have:=Zd3.rl (ys:=xs) (hp:=[]) (clk:=clk) (d:=d) (ex:=af.exact) (l:=[]) (r0:=r.1) (hb':=r.2) (c':=0+r.2.length+2) rfl List.nodup_nil (by rw[hhb];exact hnd) (by simpa using hA);rw[hhb]at this;have e:clk+(0+r.2.length+2-([]:Heap).length)=clk+(r.2.length+2):=by simp
    rw[e]at this;exact this
   ·have:=Yg.1 hg1 g hg;simpa using this
   ·obtain⟨hk,rr,hr,y,hy,hgy⟩:=hg;have h5:=Yg.1 hg2 p hp;simp only[hk,if_true]at h5;have h6:=Yg.1 (Yg.1 h5 rr hr) y hy;have:=Yg.1 h6 g hgy;simpa using this
  ·cases h4
 ·cases h
theorem zjs{op:AOp}{ua:Nat×List Opd}(h:op.lentN=some ua):op=.call ua.1 ua.2:=by
 cases op<;>simp only[AOp.lentN]at h<;>try cases h
 split at h
 ·cases h;rfl
 ·cases h
theorem zfs(q:BId→Bool):∀(h:Heap) (id:BId),(h.filter fun p=>q p.1).lookup id=if q id then h.lookup id else none
 | [],id=>by split<;>rfl
 | (c,x)::h,id=>by
  have ih:=zfs q h id;rw[Ycv];by_cases hc:q c=true
  ·simp only[hc,if_true];rw[Y6,Y6,ih];by_cases hi:id=c
   ·subst hi;simp[hc]
   ·have:(id == c)=false:=by simpa using hi
    rw[this]
  ·simp only[hc,Y5,if_false];rw[ih];by_cases hi:id=c
   ·subst hi;simp[hc]
   ·have:(id == c)=false:=by simpa using hi
    rw[Y6,this]
theorem zff(ids:List BId)(h:Heap):Zdg (Ze6 ids h) h:=by
 intro id bx hb;unfold Ze6 at hb;split at hb
 ·exact hb
 ·rw[zfs fun b=>!ids.contains b]at hb;split at hb
  ·exact hb
  ·cases hb
theorem zu0{z d g g' z' off n:Nat}{x' y:Opd}{ρ:Nat→AV}{x:AV}{hp:Heap}{c:Nat}{b:BId}{o:Box}(hv:ev ρ x'=.bs b g' z' off n)(h:stepW (.app z x' y) (some d) ρ [(b,o)] g=some (x,hp,c)) :
  ∃bx,hp=[(b,bx),(b,o)]∧c=g+1∧bx.gen=g:=by
 simp only[stepW,Zgw]at h;obtain⟨ys,_,h1⟩:=bind_some h;rw[hv]at h1;simp only[Zhi]at h1;obtain⟨b0,_,h2⟩:=bind_some h1;split at h2
 ·simp only[Option.some.injEq,Prod.mk.injEq]at h2;obtain⟨_,rfl,rfl⟩:=h2;exact⟨_,rfl,rfl,rfl⟩
 ·cases h2
def Inv(X h:Heap)(c0:Nat):Prop:=∀id o,X.lookup id=some o→h.lookup id=some o∨∃o',h.lookup id=some o'∧c0≤o'.gen
theorem zbz(hO:GoodO P ν T O)(tl:List AO)(h0 X:Heap)(c0:Nat)(hX0:Zdg h0 X):∀(l:List AO) (e:Env) (h:Heap) (clk:Nat) (st':St) (K:St→Prop),Zdg h0 h→c0≤clk→Inv X h c0→Zbh O T tl h0 c0 X l e h clk=some st'→K st'→Zbz P h0 c0 X (fun e h clk=>Zed P (tl.map (Zaq ν (Zo T))) ⟨e,h,clk⟩ K) (l.map (Zaq ν (Zo T))) e h clk
 | [],e,h,clk,st',K,_,_,_,hx,hK=>zes hO tl _ st' K hx hK
 | o::l,e,h,clk,st',K,hsb,hck,hinv,hx,hK=>by
  simp only[Zbh]at hx;simp only[Y0,Zbz];have hmk:(Zaq ν (Zo T) o).op.maker=o.op.maker:=by
   obtain⟨d,g,op⟩:=o;cases op<;>first | rfl | (rename_i k xs;cases k<;>rfl)
  have hsE:(Zaq ν (Zo T) o).op.isStore=o.op.isStore:=by
   obtain⟨d,g,op⟩:=o;cases op<;>first | rfl | (rename_i k xs;cases k<;>rfl)
  have hadd:∀(B:Heap),(∀p∈B,h.lookup p.1=none)→Zdg h0 (B++h):=by
   intro B hB id bx hid;have h1:=hsb id bx hid;rw[zat,zdf B fun y hy=>by have:=hB _ hy;rw[this]at h1;cases h1];simpa using h1
  have hiadd:∀(B:Heap),(∀p∈B,h.lookup p.1=none)→Inv X (B++h) c0:=by
   intro B hB id o ho;have hn:B.lookup id=none:=by
    cases hl:B.lookup id with
    | none=>rfl
    | some y=>
     have h1:=hB _ (zcq _ _ _ hl);rcases hinv id o ho with h2 | ⟨o',h2,_⟩<;>(simp only at h1;rw[h1]at h2;cases h2)
   rw[zat,hn];simpa using hinv id o ho
  have hXn:∀id,h.lookup id=none→X.lookup id=none:=by
   intro id hid;cases hl:X.lookup id with
   | none=>rfl
   | some o=>rcases hinv id o hl with h2 | ⟨o',h2,_⟩<;>(rw[hid]at h2;cases h2)
  have h0n:∀id,X.lookup id=none→h0.lookup id=none:=by
   intro id hid;cases hl:h0.lookup id with
   | none=>rfl
   | some o=>have:=hX0 _ _ hl;rw[hid]at this;cases this
  rw[hmk,hsE];cases hm:o.op.maker with
  | true=>
   rw[hm]at hx;simp only at hx ⊢;split at hx
   ·rename_i d hg hd;have hop:Zek ν (Zo T) o.op=o.op:=by
     obtain⟨d,g,op⟩:=o;cases op<;>first | rfl | (cases hm;done) | (rename_i k xs;cases k<;>first | rfl | cases hm)
    split at hx
    rotate_left
    ·rename_i p how;obtain⟨q,h1,h2⟩:=bind_some hx;split at h2
     ·rename_i hc;obtain⟨x,hp,c'⟩:=q;obtain⟨b,bo⟩:=p;obtain⟨z,x',y,g',z',off,n,hopa,hev⟩:∃z x' y g' z' off n,o.op=.app z x' y∧ev e.get x'=.bs b g' z' off n:=by
       unfold Zic at how;split at how
       ·rename_i z x' y hoa;cases hv:ev e.get x'<;>rw[hv]at how<;>simp only[Zjn]at how<;>try (cases how;done)
        rename_i b2 g' z' off n;unfold Zkb at how;split at how
        ·split at how<;>cases how;exact⟨z,x',y,g',z',off,n,hoa,hv⟩
        ·cases how
       ·cases how
      obtain⟨hb1,⟨ox,hb2⟩,hb3,hb4⟩:h0.lookup b=none∧(∃ox,X.lookup b=some ox)∧h.lookup b=some bo∧bo.gen<c0:=by
       rw[hopa]at how;simp only[Zic,hev,Zjn]at how;unfold Zkb at how;split at how
       ·rename_i o1 o2 e1 e2 e3;split at how<;>cases how;exact⟨e1,⟨_,e2⟩,e3,by assumption⟩
       ·cases how
      have hbx:X.lookup b=some bo:=by
       rcases hinv b ox hb2 with h3 | ⟨o',h3,h4⟩
       ·rw[hb3]at h3;cases h3;exact hb2
       ·rw[hb3]at h3;cases h3;omega
      obtain⟨bx,rfl,rfl,hbg⟩:=zu0 hev (by rw[hopa]at h1;exact h1);simp only[Yd7,Yb8]at h2 hc;refine⟨hg,d,x,b,bx,some bo,hd,by rw[show (Zaq ν (Zo T) o).op=o.op from hop];exact h1,hb3,hbx,hb1,fun o2 ho2=>by cases ho2;omega,fun g hgb=>?_,zbz hO tl h0 X c0 hX0 l _ _ _ st' K (fun id y hy=>?_) (by omega) (fun id o2 ho2=>?_) h2 hK⟩
      ·obtain⟨hk,r,hr,y,hy,hgy⟩:=hgb;simp only[Zib,Yb6,Yej,Yes,hk,if_true,Yg]at hc;exact zgi (hc r hr y hy) g hgy
      ·have hne:(id == b)=false:=by
        cases hb:id == b with
        | false=>rfl
        | true=>have:=eq_of_beq hb;subst this;rw[hb1]at hy;cases hy
       show List.lookup id ((b,bx)::h)=some y;rw[Y6,hne];exact hsb id y hy
      ·show List.lookup id ((b,bx)::h)=some o2∨∃o',List.lookup id ((b,bx)::h)=some o'∧c0≤o'.gen;rw[Y6];by_cases hi:id=b
       ·subst hi;rw[beq_self_eq_true];exact .inr ⟨bx,rfl,by omega⟩
       ·have hne:(id == b)=false:=by simpa using hi
        rw[hne];exact hinv id o2 ho2
     ·cases h2
    obtain⟨q,h1,h2⟩:=bind_some hx;split at h2
    ·rename_i hc;simp only[Yr]at hc;obtain⟨x,hp,c'⟩:=q;obtain⟨bx,rfl,rfl⟩:∃bx,hp=[(.loc d,bx)]∧c'=clk+1:=zoc hm h1;have hln:h.lookup (.loc d)=none:=Ycl.1 hc.1;have hB1:∀p∈[((.loc d:BId),bx)],h.lookup p.1=none:=fun p hp=>by rw[Ya5.1 hp];exact hln
     refine⟨hg,d,x,.loc d,bx,none,hd,by rw[show (Zaq ν (Zo T) o).op=o.op from hop];exact h1,hln,hXn _ hln,h0n _ (hXn _ hln),fun o2 ho2=>(by cases ho2),fun g hgb=>?_,zbz hO tl h0 X c0 hX0 l _ _ _ st' K (hadd [(.loc d,bx)] hB1) (by omega) (hiadd _ hB1) h2 hK⟩;obtain⟨hk,r,hr,y,hy,hgy⟩:=hgb;have h3:=hc.2;simp only[Zib,Yb6,Yej,Yes,hk,if_true,Yg]at h3;exact zgi (h3 r hr y hy) g hgy
    ·cases h2
   ·cases hx
  | false=>
   rw[hm]at hx;simp only at hx ⊢;cases hst:o.op.isStore with
   | true=>
    rw[hst]at hx;simp only at hx ⊢;split at hx
    ·rename_i hg hd;obtain⟨q,h1,h2⟩:=bind_some hx;split at h2
     ·rename_i hfr;obtain⟨dd,gg,op⟩:=o;simp only at hg hd hst h1 hfr;subst hg hd;cases op<;>try (cases hst;done)
      rename_i n x v;simp only[stepW]at h1;obtain⟨h',e1,rfl⟩:=map_some h1;refine⟨rfl,rfl,h',?_,?_,zbz hO tl h0 X c0 hX0 l e h' clk st' K ?_ hck ?_ h2 hK⟩
      ·show stepW (.store n x v) none e.get h clk=_;simp only[stepW,e1]
       rfl
      rotate_left 2
      ·intro id bx hid;simp only[Zf2]at hfr;unfold Zc0 at e1;split at e1
       ·rename_i id2 g z i o hx2;rw[hx2]at hfr;simp only[Ycl]at hfr;obtain⟨bx2,_,e2⟩:=bind_some e1;obtain⟨r2,_,e3⟩:=bind_some e2;obtain⟨cs,_,e4⟩:=bind_some e3;split at e4
        ·cases e4;have hne:(id == id2)=false:=by
          cases hb:id == id2 with
          | false=>rfl
          | true=>have:=eq_of_beq hb;subst this;rw[hid]at hfr;cases hfr
         simp only[Y6,hne];exact hinv id bx hid
        ·cases e4
       ·cases e1
      all_goals
       intro id bx hid;have h3:=hsb id bx hid;replace hid:=hX0 id bx hid;simp only[Zf2]at hfr;unfold Zc0 at e1;split at e1
       ·rename_i id2 g z i o hx2;rw[hx2]at hfr;simp only[Ycl]at hfr;obtain⟨bx2,_,e2⟩:=bind_some e1;obtain⟨r2,_,e3⟩:=bind_some e2;obtain⟨cs,_,e4⟩:=bind_some e3;split at e4
        ·cases e4;have hne:(id == id2)=false:=by
          cases hb:id == id2 with
          | false=>rfl
          | true=>have:=eq_of_beq hb;subst this;rw[hid]at hfr;cases hfr
         simp only[Y6,hne];exact h3
        ·cases e4
       ·cases e1
     ·cases h2
    ·cases hx
   | false=>
   rw[hst]at hx;simp only at hx ⊢;cases hlN:o.op.lentN with
   | some ua=>
    rw[hlN]at hx;simp only at hx;split at hx
    ·rename_i d hg hd;obtain⟨q,h1,h2⟩:=bind_some hx;split at h2
     ·rename_i hfr;obtain⟨m,hm2,hcb⟩:=zop hO h1;obtain⟨dd,gg,op⟩:=o;simp only at hg hd hlN;subst hg hd;have hop:=zjs hlN;subst hop;rw[hm2]at h2;exact .inr ⟨rfl,ν ua.1,ua.2,d,q.1,q.2.1,m,rfl,rfl,hcb,fun p hp=>by simpa using Yg.1 hfr p hp,zbz hO tl h0 X c0 hX0 l _ _ _ st' K (hadd _ fun p hp=>by simpa using Yg.1 hfr p hp) (by omega) (hiadd _ fun p hp=>by simpa using Yg.1 hfr p hp) h2 hK⟩
     ·cases h2
    ·cases hx
   | none=>
   rw[hlN]at hx;simp only at hx;obtain⟨x,h1,h2⟩:=bind_some hx;split at h2
   ·rename_i hc;refine .inl ?_;exact(zk0 hO (K:=fun x=>(∀g∈gnA x,Zfs c0 (Zaq ν (Zo T) o).op e.get g)∧Zbz P h0 c0 X (fun e h clk=>Zed P (tl.map (Zaq ν (Zo T))) ⟨e,h,clk⟩ K) (l.map (Zaq ν (Zo T))) (Zm e o.dst x) h clk) h1 ⟨zgi hc,zbz hO tl h0 X c0 hX0 l _ h clk st' K hsb hck hinv h2 hK⟩).1
   ·cases h2
theorem zu1{cx:Cx}{c:AC}{st:St}{id:Nat}{o:Option (Ex×St)}{e:Ex}{st':St}(h0:∀e1 s1,o=some (e1,s1)→AWp cx c (Is e1 s1) st)
  (h:(o.bind fun r=>match r.1 with | .x j=>if j=id then some (Ex.n,r.2) else some r | _=>some r)=some (e,st')):AWp cx (.block id c) (Is e st') st:=by
 obtain⟨⟨e1,s1⟩,h1,h2⟩:=bind_some h;refine zl1 ((h0 e1 s1 h1).mono ?_)
 rintro ex s ⟨rfl,rfl⟩
 cases e1 with
 | n=>simp only at h2;cases h2;exact⟨rfl,rfl⟩
 | x j=>
  simp only at h2;show Zef id _ (.exit j) _;simp only[Zef];split at h2
  ·rename_i hj;rw[if_pos hj];cases h2;exact⟨rfl,rfl⟩
  ·rename_i hj;rw[if_neg hj];cases h2;exact⟨rfl,rfl⟩
 | r=>simp only at h2;cases h2;exact⟨rfl,rfl⟩
 | g l=>simp only at h2;cases h2;exact⟨rfl,rfl⟩
theorem zyy{k:Nat}{cx:Cx}(hk:cx.clk0=k+1){c:AC}{st:St}{g:Gh}{o:Option (Ex×St)}{e:Ex}{st':St}(h0:∀e1 s1,o=some (e1,s1)→AWp cx c (Is e1 s1) st)
  (h:(o.bind fun r=>match r.1 with | .n=>(ghS k g r.2).map fun s=>(Ex.n,s) | _=>some r)=some (e,st')):AWp cx c (Is e st') st:=by
 obtain⟨⟨e1,s1⟩,h1,h2⟩:=bind_some h;intro code hc hm a w hr;refine wp_mono (h0 e1 s1 h1 code hc hm a w hr) ?_
 rintro ex a' w' ⟨s,⟨rfl,rfl⟩,hr'⟩
 cases e1 with
 | n=>
  simp only at h2;obtain⟨s2,h3,h4⟩:=map_some h2;cases h4;exact⟨_,⟨rfl,rfl⟩,hr'.gh hk h3⟩
 | x id=>simp only at h2;cases h2;exact⟨_,⟨rfl,rfl⟩,hr'⟩
 | r=>simp only at h2;cases h2;exact⟨_,⟨rfl,rfl⟩,hr'⟩
 | g l=>simp only at h2;cases h2;exact⟨_,⟨rfl,rfl⟩,hr'⟩
theorem za6(hO:GoodO P ν T O){k:Nat}{cx:Cx}(hP:cx.P=P)(hk:cx.clk0=k+1):∀(c:AX) (st:St) (e:Ex) (st':St),evX O T k c st=some (e,st')→AWp cx (er ν (Zo T) c) (Is e st') st
 | .skip,st,e,st',h=>by simp only[evX]at h;cases h;exact zyj ⟨rfl,rfl⟩
 | .reg l,st,e,st',h=>by
  simp only[evX]at h;obtain⟨s,h1,h2⟩:=map_some h;cases h2;refine z1x ?_;rw[hP];exact zes hO l st st' _ h1 ⟨rfl,rfl⟩
 | .draw l,st,e,st',h=>by
  simp only[evX]at h;obtain⟨s,h1,h2⟩:=map_some h;cases h2;refine zyk ?_;rw[hP];exact zdu hO l _ _ _ _ _ _ st' _ (fun q hq=>by simp at hq) h1 ⟨rfl,rfl⟩
 | .drawT hd tl,st,e,st',h=>by
  simp only[evX]at h;obtain⟨s,h1,h2⟩:=map_some h;cases h2;refine zt9 ?_;rw[hP];exact zhz hO tl hd _ _ _ st' _ h1 ⟨rfl,rfl⟩
 | .drawM hd tl,st,e,st',h=>by
  simp only[evX]at h;obtain⟨s,h1,h2⟩:=map_some h;cases h2;refine zua (zff (Zew hd st.env) st.heap) ?_;rw[hP];exact zbz hO tl _ _ _ (zff _ _) hd _ _ _ st' _ (zff _ _) (Yd _) (fun _ _ h=>.inl h) h1 ⟨rfl,rfl⟩
 | .bad,st,e,st',h=>by simp only[evX]at h;cases h
 | .prim f,st,e,st',h=>by simp only[evX]at h;cases h
 | .seq a b,st,e,st',h=>by
  simp only[evX]at h;obtain⟨⟨e1,s1⟩,h1,h2⟩:=bind_some h;refine z1y ((za6 hO hP hk a st e1 s1 h1).mono ?_)
  rintro ex s ⟨rfl,rfl⟩
  cases e1 with
  | n=>exact za6 hO hP hk b _ e st' h2
  | x id=>simp only at h2;cases h2;exact⟨rfl,rfl⟩
  | r=>simp only at h2;cases h2;exact⟨rfl,rfl⟩
  | g l=>simp only at h2;cases h2;exact⟨rfl,rfl⟩
 | .cond c x y,st,e,st',h=>by
  simp only[evX]at h;split at h
  ·rename_i t ht;refine zyl ht (fun h1=>?_) (fun h1=>?_)
   ·subst h1;exact za6 hO hP hk x st e st' (by simpa using h)
   ·subst h1;exact za6 hO hP hk y st e st' (by simpa using h)
  ·cases h
 | .block id c,st,e,st',h=>by
  simp only[evX]at h;obtain⟨⟨e1,s1⟩,h1,h2⟩:=bind_some h;refine zl1 ((za6 hO hP hk c st e1 s1 h1).mono ?_)
  rintro ex s ⟨rfl,rfl⟩
  cases e1 with
  | n=>simp only at h2;cases h2;exact⟨rfl,rfl⟩
  | x j=>
   simp only at h2;show Zef id _ (.exit j) _;simp only[Zef];split at h2
   ·rename_i hj;rw[if_pos hj];cases h2;exact⟨rfl,rfl⟩
   ·rename_i hj;rw[if_neg hj];cases h2;exact⟨rfl,rfl⟩
  | r=>simp only at h2;cases h2;exact⟨rfl,rfl⟩
  | g l=>simp only at h2;cases h2;exact⟨rfl,rfl⟩
 | .loop c,st,e,st',h=>zhy (hO.loop k c st e st' (by simpa only[evX]using h) cx hP hk)
 | .exit id,st,e,st',h=>by simp only[evX]at h;cases h;exact zym ⟨rfl,rfl⟩
 | .ret,st,e,st',h=>by simp only[evX]at h;cases h;exact z1z ⟨rfl,rfl⟩
 | .note c g,st,e,st',h=>by
  simp only[evX]at h;obtain⟨⟨e1,s1⟩,h1,h2⟩:=bind_some h;intro code hc hm a w hr;refine wp_mono (za6 hO hP hk c st e1 s1 h1 code hc hm a w hr) ?_
  rintro ex a' w' ⟨s,⟨rfl,rfl⟩,hr'⟩
  cases e1 with
  | n=>
   simp only at h2;obtain⟨s2,h3,h4⟩:=map_some h2;cases h4;exact⟨_,⟨rfl,rfl⟩,hr'.gh hk h3⟩
  | x id=>simp only at h2;cases h2;exact⟨_,⟨rfl,rfl⟩,hr'⟩
  | r=>simp only at h2;cases h2;exact⟨_,⟨rfl,rfl⟩,hr'⟩
  | g l=>simp only at h2;cases h2;exact⟨_,⟨rfl,rfl⟩,hr'⟩
 | .lp id g c g2,st,e,st',h=>by
  simp only[evX]at h;obtain⟨s,h1,h2⟩:=bind_some h;have h3:((O.loop k c s).bind fun r=>match r.1 with | .x j=>if j=id then some (Ex.n,r.2) else some r | _=>some r).bind (fun r=>match r.1 with | .n=>(ghS k g2 r.2).map fun s=>(Ex.n,s) | _=>some r)=some (e,st'):=by
   rw[←h2];cases O.loop k c s with
   | none=>rfl
   | some r=>
    obtain⟨e1,s1⟩:=r;cases e1 with
    | n=>rfl
    | r=>rfl
    | g l=>rfl
    | x j=>
     simp only[Y2];split<;>rfl
  have h4:AWp cx (.block id (.loop (er ν (Zo T) c))) (Is e st') s:=
   zyy hk (fun e1 s1 he=>zu1 (fun e2 s2 he2=>zhy (hO.loop k c s e2 s2 he2 cx hP hk)) he) h3
  intro code hc hm a w hr;exact h4 code hc hm a w (hr.gh hk h1)
 | .scope c,st,e,st',h=>by
  simp only[evX]at h;obtain⟨⟨e1,s1⟩,h1,h2⟩:=bind_some h;refine zub ((za6 hO hP hk c st e1 s1 h1).mono ?_)
  rintro ex s ⟨rfl,rfl⟩
  cases e1 with
  | g l=>simp only at h2;cases h2
  | n=>simp only at h2;cases h2;exact⟨fun l he=>(by cases he),rfl,rfl⟩
  | x j=>simp only at h2;cases h2;exact⟨fun l he=>(by cases he),rfl,rfl⟩
  | r=>simp only at h2;cases h2;exact⟨fun l he=>(by cases he),rfl,rfl⟩
 | .label l,st,e,st',h=>by simp only[evX]at h;cases h;exact zuc ⟨rfl,rfl⟩
 | .goto l,st,e,st',h=>by simp only[evX]at h;cases h;exact zyn ⟨rfl,rfl⟩
 | .gsc l c r,st,e,st',h=>by
  simp only[evX]at h;have key:∀n o,Zjo (fun s=>evX O T k r s) l n o=some (e,st')→∃e1 s1,o=some (e1,s1)∧GQ cx l (er ν (Zo T) r) (Is e st') n e1.out s1:=by
   intro n
   induction n with
   | zero=>intro o h;cases h
   | succ n ih=>
    intro o h;simp only[Zjo]at h;obtain⟨⟨e1,s1⟩,h1,h2⟩:=bind_some h;refine⟨e1,s1,h1,?_⟩;cases e1 with
    | g j=>
     simp only at h2;split at h2
     ·rename_i hj;obtain⟨e2,s2,h3,h4⟩:=ih _ h2;refine⟨hj,(za6 hO hP hk r s1 e2 s2 h3).mono ?_⟩
      rintro ex s ⟨rfl,rfl⟩
      exact h4
     ·cases h2
    | n=>simp only at h2;cases h2;exact⟨rfl,rfl⟩
    | x j=>simp only at h2;cases h2;exact⟨rfl,rfl⟩
    | r=>simp only at h2;cases h2;exact⟨rfl,rfl⟩
  obtain⟨e1,s1,h1,h2⟩:=key _ _ h;refine z10 100 ((za6 hO hP hk c st e1 s1 h1).mono ?_)
  rintro ex s ⟨rfl,rfl⟩
  exact h2
 | .pre g c,st,e,st',h=>by
  simp only[evX]at h;obtain⟨s,h1,h2⟩:=bind_some h;intro code hc hm a w hr;exact za6 hO hP hk c s e st' h2 code hc hm a w (hr.gh hk h1)
theorem zrr{f:FuncId}{xs:List AV}{hb:Heap}{k:Nat}{ex:Bool}{x:AV}{hh:Heap}{cc:Nat}(h:Zd3 P f xs hb (k+1) (fun r h c=>r=x∧h=hh∧c=cc)) :
  Zd3 P f xs hb (k+1) (fun r h c=>r=(Zda ex k [0] ⟨[(0,x)],hh,cc⟩).env.get 0∧h=(Zda ex k [0] ⟨[(0,x)],hh,cc⟩).heap∧c=(Zda ex k [0] ⟨[(0,x)],hh,cc⟩).clk):=by
 refine⟨h.1,fun w S M cargs hl hC hheap hS hM=>(h.2 w S M cargs hl hC hheap hS hM).mono ?_⟩;intro e w' ⟨v,r,h',S',M',clk',he,⟨h1,h2,h3⟩,hCr,hw⟩;subst h1;subst h2;subst h3;have hrel:Rel ⟨P,1,w,S,M,k+1⟩ ⟨[(0,r)],h',clk'⟩ { tmps:=#[v],defers:=[] } w':=by
  refine⟨S',M',rfl,rfl,fun t=>?_,hw 1⟩;cases t with
  | zero=>simpa using hCr
  | succ t=>simp;exact .p (.dead _)
 obtain⟨S2,M2,hr2⟩:=hrel.norm (ex:=ex) (k:=k) (live:=[0]) rfl;refine⟨v,_,_,S2,M2,_,he,⟨rfl,rfl,rfl⟩,by simpa using hr2.env 0,fun nt=>?_⟩;have:=hr2.wr;exact⟨this.heap,this.ext,this.fr,this.Snew,this.Slt,this.Mnew⟩
theorem Zae.res{f:FuncId}{xs:List AV}{y:AV}{ex:Bool}(h:Zae P f xs (·=y)):Zae P f xs (·=wkIf ex y):=
 ⟨h.1,fun w S cargs hl hC hS=>(h.2 w S cargs hl hC hS).mono fun _ _ ⟨v,r,he,hr,hb,hC⟩=>⟨v,_,he,rfl,hb,by have hr:r=y:=hr;rw[←hr];exact hC.wkIf ex⟩⟩
def TOk(P:Program)(ν:Nat→FuncId)(T:Tbl):Prop:=∀u af,T u=some af →
 match af.body.isPrim with
 | some f=>∀xs r,f xs=some r→Zae P (ν u) xs (·=r)
 | none=>if af.body.isBad=true then (∀m∈Zia af,Zdr P af.np m.1=some (ν m.2))∧(af.res.isEmpty=true→af.np=ν af.nt) else Zct P (ν u)=some (erF ν (Zo T) af)
theorem GoodO.next(hT:TOk P ν T)(hm:P.follows .mixedOrders=true)(hO:GoodO P ν T O):GoodO P ν T (Zcu T O):=by
 have bad_no:∀(af:AFx) (k:Nat) (s:St) (r:Ex×St),af.body.isBad=true→evX O T k af.body s=some r→False:=by
  intro af k s r hb he;cases hbd:af.body<;>rw[hbd]at hb he<;>first | (cases hb;done) | (simp only[evX]at he;cases he)
 refine⟨hO.meth,hO.fnn,fun u af xs r h hu hl hc=>?_,fun u af ms xs hb r hb' hu hl hc=>?_,fun k c st e st' h cx hP hk=>?_⟩
 ·have hTu:=hT u af hu;simp only[Zcu,hu]at hc;split at hc
  ·rename_i f hf;rw[hf]at hTu;split at hc
   ·obtain⟨x,h1,h2⟩:=map_some hc;cases h2;exact hTu xs _ h1
   ·cases hc
  rename_i hf;rw[hf]at hTu;simp only at hTu;split at hc
  ·rename_i hcond;obtain⟨⟨e,s⟩,h1,h2⟩:=bind_some hc;rw[if_neg (fun hb=>bad_no af _ _ _ hb h1)]at hTu;have key:∃x y,(e=.n∨e=.r)∧Zc1 s af.res=some x∧frz s.heap x=some y∧r=wkIf af.exact y:=by
    unfold Zkc at h2;cases e with
    | x id=>simp at h2
    | g id=>simp at h2
    | n=>
     simp only at h2;obtain⟨x,h3,h4⟩:=bind_some h2;rw[hl]at h4;obtain⟨y,h5,h6⟩:=map_some h4;cases h6;exact⟨x,y,.inl rfl,h3,h5,rfl⟩
    | r=>
     simp only at h2;obtain⟨x,h3,h4⟩:=bind_some h2;rw[hl]at h4;obtain⟨y,h5,h6⟩:=map_some h4;cases h6;exact⟨x,y,.inr rfl,h3,h5,rfl⟩
   obtain⟨x,y,he,h3,h5,rfl⟩:=key;refine Zae.res (zud hTu hm hcond.1 fun cx hP hnt hclk=>((za6 hO hP hclk af.body _ e s h1).mono ?_))
   rintro ex s' ⟨rfl,rfl⟩
   exact⟨by rcases he with rfl | rfl;exact .inl rfl;exact .inr rfl,x,y,h3,h5,rfl⟩
  ·cases hc
 ·have hTu:=hT u af hu;simp only[Zcu,hu]at hc;split at hc
  ·rename_i f hf;split at hc
   ·rename_i hcond;rw[hcond.2]at hl;cases hl
   ·cases hc
  rename_i hf;rw[hf]at hTu;simp only at hTu;split at hc
  ·rename_i hcond;obtain⟨⟨e,s⟩,h1,h2⟩:=bind_some hc;rw[if_neg (fun hb=>bad_no af _ _ _ hb h1)]at hTu;have key:∃x,(e=.n∨e=.r)∧Zc1 s af.res=some x∧r=(Zda af.exact hb.length [0] ⟨[(0,x)],s.heap,s.clk⟩).env.get 0∧hb'=(Zda af.exact hb.length [0] ⟨[(0,x)],s.heap,s.clk⟩).heap:=by
    unfold Zkc at h2;cases e with
    | x id=>simp at h2
    | g id=>simp at h2
    | n=>
     simp only at h2;obtain⟨x,h3,h4⟩:=bind_some h2;rw[hl]at h4;cases h4;exact⟨x,.inl rfl,h3,rfl,rfl⟩
    | r=>
     simp only at h2;obtain⟨x,h3,h4⟩:=bind_some h2;rw[hl]at h4;cases h4;exact⟨x,.inr rfl,h3,rfl,rfl⟩
   obtain⟨x,he,h3,rfl,rfl⟩:=key;have hA:Zd3 P (ν u) xs hb (hb.length+1) (fun r h c=>r=x∧h=s.heap∧c=s.clk):=by
    refine zl2 hTu hm hcond.1 fun cx hP hnt hclk=>((za6 hO hP hclk af.body _ e s h1).mono ?_)
    rintro ex s' ⟨rfl,rfl⟩
    exact⟨by rcases he with rfl | rfl;exact .inl rfl;exact .inr rfl,x,h3,rfl,rfl,rfl⟩
   have hB:=zrr (ex:=af.exact) hA;refine⟨hB.1,fun w S M cargs hl hC hheap hS hM=>(hB.2 w S M cargs hl hC hheap hS hM).mono ?_⟩;intro e w' ⟨v,r,h',S',M',clk',he,⟨a1,a2,a3⟩,hCr,hw⟩;refine⟨v,r,h',S',M',clk',he,⟨a1,a2,?_⟩,hCr,hw⟩;rw[a3];simp only[Zda,Ya3]
  ·cases hc
 ·simp only[Zcu]at h;obtain⟨⟨e1,s1⟩,h1,h2⟩:=bind_some h;refine zyt ((za6 hO hP hk c st e1 s1 h1).mono ?_)
  rintro ex s ⟨rfl,rfl⟩
  cases e1 with
  | n=>exact hO.loop k c _ e st' h2 cx hP hk
  | x id=>simp only at h2;cases h2;exact⟨rfl,rfl⟩
  | r=>simp only at h2;cases h2;exact⟨rfl,rfl⟩
  | g l=>simp only at h2;cases h2;exact⟨rfl,rfl⟩
theorem zadv(hT:TOk P ν T):∀k nm u,(nm,u)∈Zcj T k→Zdr P (Zo T k) nm=some (ν u):=by
 intro k nm u hm;unfold Zcj at hm;unfold Zo;cases hT':T (1000000+k) with
 | none=>rw[hT']at hm;cases hm
 | some af=>
  rw[hT']at hm;simp only at hm ⊢;split at hm
  ·rename_i hb;have:=hT _ af hT';have hp:af.body.isPrim=none:=by cases hbd:af.body<;>rw[hbd]at hb<;>first | rfl | cases hb
   rw[hp]at this;simp only[if_pos hb]at this;exact this.1 (nm,u) hm
  ·cases hm
theorem fnn0(hT:TOk P ν T):∀k u,Zhj T k=some u→Zo T k=ν u:=by
 intro k u hm;unfold Zhj at hm;unfold Zo;cases hT':T (1000000+k) with
 | none=>rw[hT']at hm;cases hm
 | some af=>
  rw[hT']at hm;simp only at hm ⊢;split at hm
  ·rename_i hb;cases hm;simp only[Yr]at hb;have:=hT _ af hT';have hp:af.body.isPrim=none:=by cases hbd:af.body<;>rw[hbd]at hb<;>first | rfl | cases hb.1
   rw[hp]at this;simp only[if_pos hb.1]at this;exact this.2 hb.2
  ·cases hm
theorem GoodO.orcN(hT:TOk P ν T)(hm:P.follows .mixedOrders=true):∀n,GoodO P ν T (orcN T n)
 | 0=>⟨zadv hT,fnn0 hT,fun _ _ _ _ _ _ _ h=>(by cases h),fun _ _ _ _ _ _ _ _ _ h=>(by cases h),fun _ _ _ _ _ h=>(by cases h)⟩
 | n+1=>(GoodO.orcN hT hm n).next hT hm
end
end Go.Ab
end
section
namespace Go.Ab
open Go.RowKit
inductive Qy where
 | call (u:Nat) (xs:List AV) (hb:Heap) (r:AV×Heap)
 | loop (k:Nat) (c:AX) (st:St) (r:Ex×St)
def Holds(O:Orc):Qy→Prop
 | .call u xs hb r=>O.call u xs hb=some r
 | .loop k c st r=>O.loop k c st=some r
def Zbe{α:Type}(f:Orc→Option α):Prop:=∀O r,f O=some r→∃L:List Qy,(∀q∈L,Holds O q)∧∀O',(∀q∈L,Holds O' q)→f O'=some r
theorem Zbe.const{α:Type}(a:Option α):Zbe fun _=>a:=fun _ _ h=>⟨[],by simp,fun _ _=>h⟩
theorem Zbe.bind{α β:Type}{g:Orc→Option α}{h:Orc→α→Option β}(hg:Zbe g)(hh:∀x,Zbe fun O=>h O x):Zbe fun O=>(g O).bind (h O):=by
 intro O r he;obtain⟨x,h1,h2⟩:=bind_some he;obtain⟨L1,a1,a2⟩:=hg O x h1;obtain⟨L2,b1,b2⟩:=hh x O r h2;refine⟨L1++L2,fun q hq=>?_,fun O' hO'=>?_⟩
 ·rcases Ybc.1 hq with hq | hq
  ·exact a1 q hq
  ·exact b1 q hq
 ·have e1:=a2 O' fun q hq=>hO' q (Ya0 _ hq);have e2:=b2 O' fun q hq=>hO' q (Yau _ hq);simp only at e2;simp only[e1,Y2,e2]
theorem Zbe.map{α β:Type}{g:Orc→Option α}(hg:Zbe g)(f:α→β):Zbe fun O=>(g O).map f:=by
 have:=hg.bind (h:=fun _ x=>some (f x)) fun x=>.const _;simpa only[Option.map_eq_bind,Function.comp_def]using this
theorem Zbe.call(u:Nat)(xs:List AV)(hb:Heap):Zbe fun O=>O.call u xs hb:=fun O r h=>⟨[.call u xs hb r],by simpa[Holds]using h,fun O' h'=>by simpa[Holds]using h'⟩
theorem Zbe.loop(k:Nat)(c:AX)(st:St):Zbe fun O=>O.loop k c st:=fun O r h=>⟨[.loop k c st r],by simpa[Holds]using h,fun O' h'=>by simpa[Holds]using h'⟩
section
variable(T:Tbl)
theorem zmq(u:Nat)(xs:List AV)(d:Option Nat)(st:St):Zbe fun O=>Zc O T u xs d st:=by
 unfold Zc;split
 ·exact .const _
 ·split
  ·refine Zbe.bind (.const _) fun ys=>Zbe.bind (.call _ _ _) fun r=>.const _
  ·refine Zbe.bind (.const _) fun ys=>?_;simp only;split
   ·refine Zbe.bind (.call _ _ _) fun r=>.const _
   ·exact .const _
theorem zu2(op:AOp)(d:Option Nat)(st:St):Zbe fun O=>opX O T op d st:=by
 by_cases hx:∃k xs,op=.xop k xs
 ·obtain⟨k,xs,rfl⟩:=hx;cases k<;>exact .const _
 cases op<;>(try exact absurd ⟨_,_,rfl⟩ hx)<;>simp only[opX]<;>first | exact .const _ | exact zmq T _ _ _ _ | (split<;>first | exact .const _ | (split<;>first | exact .const _ | exact zmq T _ _ _ _))
theorem zu3(o:AO)(st:St):Zbe fun O=>Zgf O T o st:=by
 unfold Zgf;split
 ·exact zu2 T _ _ _
 ·unfold gX;split
  ·split
   ·exact zu2 T _ _ _
   ·exact .const _
  ·exact .const _
  ·exact .const _
theorem zg6:∀(l:List AO) (st:St),Zbe fun O=>Zds O T l st
 | [],st=>.const _
 | o::l,st=>by
  simp only[Zds];exact(zu3 T o st).bind fun s=>zg6 l s
theorem zu4(op:AOp)(e:Env)(h:Heap)(older:List Heap):Zbe fun O=>opD O T op e h older:=by
 by_cases hap:∃z x0 y,op=.app z x0 y
 ·obtain⟨z,x0,y,rfl⟩:=hap;by_cases hc:x0=.c (.sl [] .nl)
  ·subst hc;exact .const _
  ·simp only[zom hc];exact .const _
 cases op<;>(try exact absurd ⟨_,_,_,rfl⟩ hap)<;>simp only[opD]<;>try exact .const _
 case call=>
  split
  ·exact .const _
  ·split
   ·exact(Zbe.call _ _ _).map _
   ·exact .const _
 case inv=>
  split
  ·split
   ·split
    ·exact .const _
    ·split
     ·exact(Zbe.call _ _ _).map _
     ·exact .const _
   ·exact .const _
  ·exact .const _
theorem zu5(o:AO)(e:Env)(h:Heap)(older:List Heap):Zbe fun O=>qX O T o e h older:=by
 unfold qX;split
 ·exact(zu4 T _ _ _ _).map _
 ·split
  ·split
   ·exact(zu4 T _ _ _ _).map _
   ·exact .const _
  ·exact .const _
  ·exact .const _
theorem zu6(u:Nat)(ys:List AV):Zbe fun O=>Zfu O T u ys:=by
 unfold Zfu;split
 ·exact .const _
 ·split
  ·exact(Zbe.call _ _ _).map _
  ·exact .const _
theorem zft:∀(l:List DO) (e:Env) (h:Heap) (clk:Nat) (older:List Heap) (pend:Zcl),Zbe fun O=>Zb2 O T l e h clk older pend
 | [],e,h,clk,older,pend=>.const _
 | o::l,e,h,clk,older,pend=>by
  simp only[Zb2];split
  ·split
   ·refine Zbe.bind (.const _) fun q=>?_;split
    ·exact zft l _ _ _ _ _
    ·exact .const _
   ·exact .const _
  ·split
   ·exact(zu5 T _ _ _ _).bind fun x=>zft l _ _ _ _ _
   ·exact(zu6 T _ _).bind fun x=>zft l _ _ _ _ _
theorem zmr(tl:List AO):∀(l:List AO) (e:Env) (h:Heap) (clk:Nat),Zbe fun O=>Zdk O T tl l e h clk
 | [],e,h,clk=>zg6 T tl _
 | o::l,e,h,clk=>by
  simp only[Zdk];exact(zu5 T _ _ _ _).bind fun x=>zmr tl l _ _ _
theorem zu7(u:Nat)(xs:List AV)(d clk:Nat):Zbe fun O=>Zfe O T u xs d clk:=by
 unfold Zfe;split
 ·exact .const _
 ·split
  ·exact .const _
  ·split
   ·refine(Zbe.call _ _ _).bind fun r=>?_;exact .const _
   ·exact .const _
theorem zeb(tl:List AO)(h0:Heap)(c0:Nat)(X:Heap):∀(l:List AO) (e:Env) (h:Heap) (clk:Nat),Zbe fun O=>Zbh O T tl h0 c0 X l e h clk
 | [],e,h,clk=>zg6 T tl _
 | o::l,e,h,clk=>by
  simp only[Zbh];split
  ·split
   ·split
    all_goals
     refine Zbe.bind (.const _) fun q=>?_;split
     ·exact zeb tl h0 c0 X l _ _ _
     ·exact .const _
   ·exact .const _
  ·split
   ·split
    ·refine Zbe.bind (.const _) fun q=>?_;split
     ·exact zeb tl h0 c0 X l _ _ _
     ·exact .const _
    ·exact .const _
   split
   ·split
    ·refine(zu7 T _ _ _ _).bind fun q=>?_;split
     ·exact zeb tl h0 c0 X l _ _ _
     ·exact .const _
    ·exact .const _
   ·refine(zu5 T _ _ _ _).bind fun x=>?_;split
    ·exact zeb tl h0 c0 X l _ _ _
    ·exact .const _
theorem zb0(k:Nat):∀(c:AX) (st:St),Zbe fun O=>evX O T k c st
 | .skip,st=>.const _
 | .reg l,st=>by simp only[evX];exact(zg6 T l st).map _
 | .draw l,st=>by simp only[evX];exact(zft T l _ _ _ _ _).map _
 | .drawT hd tl,st=>by simp only[evX];exact(zmr T tl hd _ _ _).map _
 | .drawM hd tl,st=>by simp only[evX];exact(zeb T tl _ _ _ hd _ _ _).map _
 | .bad,st=>.const _
 | .prim f,st=>.const _
 | .seq a b,st=>by
  simp only[evX];refine(zb0 k a st).bind fun r=>?_;obtain⟨e,s⟩:=r;cases e
  ·exact zb0 k b s
  ·exact .const _
  ·exact .const _
  ·exact .const _
 | .cond c x y,st=>by
  simp only[evX];split
  ·split
   ·exact zb0 k x st
   ·exact zb0 k y st
  ·exact .const _
 | .block id c,st=>by simp only[evX];exact(zb0 k c st).bind fun r=>.const _
 | .loop c,st=>by simp only[evX];exact .loop _ _ _
 | .exit id,st=>.const _
 | .ret,st=>.const _
 | .note c g,st=>by simp only[evX];exact(zb0 k c st).bind fun r=>.const _
 | .pre g c,st=>by simp only[evX];exact Zbe.bind (.const _) fun s=>zb0 k c s
 | .scope c,st=>by simp only[evX];exact(zb0 k c st).bind fun r=>.const _
 | .label l,st=>.const _
 | .goto l,st=>.const _
 | .gsc l c r,st=>by
  simp only[evX];have key:∀n (f:Orc→Option (Ex×St)),Zbe f→Zbe fun O=>Zjo (fun s=>evX O T k r s) l n (f O):=by
   intro n
   induction n with
   | zero=>intro f _;exact .const _
   | succ n ih=>
    intro f hf;simp only[Zjo];refine hf.bind fun x=>?_;obtain⟨e,s⟩:=x;cases e
    ·exact .const _
    ·exact .const _
    ·exact .const _
    ·rename_i j;simp only;split
     ·exact ih _ (zb0 k r s)
     ·exact .const _
  exact key _ _ (zb0 k c st)
 | .lp id g c g2,st=>by simp only[evX];exact Zbe.bind (.const _) fun s=>(Zbe.loop _ _ _).bind fun r=>.const _
theorem zc9(u:Nat)(xs:List AV)(hb:Heap):Zbe fun O=>(Zcu T O).call u xs hb:=by
 simp only[Zcu];split
 ·exact .const _
 ·split
  ·exact .const _
  ·split
   ·exact(zb0 T _ _ _).bind fun r=>.const _
   ·exact .const _
theorem zda(k:Nat)(c:AX)(st:St):Zbe fun O=>(Zcu T O).loop k c st:=by
 simp only[Zcu];refine(zb0 T k c st).bind fun r=>?_;obtain⟨e,s⟩:=r;cases e
 ·exact .loop _ _ _
 ·exact .const _
 ·exact .const _
 ·exact .const _
theorem zh0:∀(n:Nat) (q:Qy),Holds (orcN T n) q→Holds (orcN T (n+1)) q
 | 0,q,h=>by cases q<;>cases h
 | n+1,.call u xs hb r,h=>by
  obtain⟨L,h1,h2⟩:=zc9 T u xs hb _ r h;exact h2 _ fun q hq=>zh0 n q (h1 q hq)
 | n+1,.loop k c st r,h=>by
  obtain⟨L,h1,h2⟩:=zda T k c st _ r h;exact h2 _ fun q hq=>zh0 n q (h1 q hq)
theorem zk1{n m:Nat}(h:n≤m)(q:Qy)(hq:Holds (orcN T n) q):Holds (orcN T m) q:=by
 induction h with
 | refl=>exact hq
 | step _ ih=>exact zh0 T _ q ih
open Classical in
noncomputable def lim{α:Type}(f:Nat→Option α):Option α:=if h:∃n a,f n=some a then f (Classical.choose h) else none
theorem zqa{α:Type}{f:Nat→Option α}(hm:∀n m a,n≤m→f n=some a→f m=some a)(a:α):lim f=some a↔∃n,f n=some a:=by
 unfold lim;constructor
 ·intro h;split at h
  ·exact⟨_,h⟩
  ·cases h
 ·intro ⟨n,h⟩;have hex:∃n a,f n=some a:=⟨n,a,h⟩;rw[dif_pos hex];obtain⟨b,hb⟩:=Classical.choose_spec hex;have h1:=hm _ _ _ (Yd8 n (Classical.choose hex)) h;have h2:=hm _ _ _ (Ydy n (Classical.choose hex)) hb;rw[hb,←h2,h1]
noncomputable def orc:Orc:=⟨fun u xs hb=>lim fun n=>(orcN T n).call u xs hb,fun k c st=>lim fun n=>(orcN T n).loop k c st⟩
theorem zcd(q:Qy):Holds (orc T) q↔∃n,Holds (orcN T n) q:=by
 cases q with
 | call u xs hb r=>exact zqa (fun n m a hnm h=>zk1 T hnm (.call u xs hb a) h) r
 | loop k c st r=>exact zqa (fun n m a hnm h=>zk1 T hnm (.loop k c st a) h) r
theorem zoq{L:List Qy}(h:∀q∈L,Holds (orc T) q):∃n,∀q∈L,Holds (orcN T n) q:=by
 induction L with
 | nil=>exact⟨0,by simp⟩
 | cons q L ih=>
  obtain⟨n,hn⟩:=ih fun q hq=>h q (Yn _ hq);obtain⟨m,hm⟩:=(zcd T q).1 (h q Yz);refine⟨max n m,fun x hx=>?_⟩;rcases Yt.1 hx with rfl | hx
  ·exact zk1 T (Ydy _ _) _ hm
  ·exact zk1 T (Yd8 _ _) _ (hn x hx)
theorem zk2(u:Nat)(xs:List AV)(hb:Heap):(orc T).call u xs hb=(Zcu T (orc T)).call u xs hb:=by
 apply Option.ext;intro r;constructor
 ·intro h;obtain⟨n,hn⟩:=(zcd T (.call u xs hb r)).1 h;cases n with
  | zero=>cases hn
  | succ n=>
   obtain⟨L,h1,h2⟩:=zc9 T u xs hb _ r hn;exact h2 _ fun q hq=>(zcd T q).2 ⟨n,h1 q hq⟩
 ·intro h;obtain⟨L,h1,h2⟩:=zc9 T u xs hb _ r h;obtain⟨n,hn⟩:=zoq T h1;exact(zcd T (.call u xs hb r)).2 ⟨n+1,h2 _ hn⟩
theorem zyz(k:Nat)(c:AX)(st:St):(orc T).loop k c st=(Zcu T (orc T)).loop k c st:=by
 apply Option.ext;intro r;constructor
 ·intro h;obtain⟨n,hn⟩:=(zcd T (.loop k c st r)).1 h;cases n with
  | zero=>cases hn
  | succ n=>
   obtain⟨L,h1,h2⟩:=zda T k c st _ r hn;exact h2 _ fun q hq=>(zcd T q).2 ⟨n,h1 q hq⟩
 ·intro h;obtain⟨L,h1,h2⟩:=zda T k c st _ r h;obtain⟨n,hn⟩:=zoq T h1;exact(zcd T (.loop k c st r)).2 ⟨n+1,h2 _ hn⟩
end
noncomputable def Za(T:Tbl)(u:Nat)(xs:List AV):Option AV:=((orc T).call u xs []).map (·.1)
noncomputable def Zbk(T:Tbl)(u:Nat)(xs:List AV)(hb:Heap):Option (AV×Heap):=(orc T).call u xs hb
noncomputable def Zil(T:Tbl)(k:Nat)(c:AX)(st:St):Option (Ex×St):=(orc T).loop k c st
theorem zh1{P:Program}{ν:Nat→FuncId}{T:Tbl}(hT:TOk P ν T)(hm:P.follows .mixedOrders=true){u:Nat}{af:AFx}{xs:List AV}{r:AV}(hu:T u=some af)(hl:af.lent=none)(h:Za T u xs=some r):Zae P (ν u) xs (·=r):=by
 obtain⟨⟨r',h'⟩,h1,rfl⟩:=map_some h;obtain⟨n,hn⟩:=(zcd T (.call u xs [] (r',h'))).1 h1;exact(GoodO.orcN hT hm n).pure u af xs r' h' hu hl hn
end Go.Ab
end
section
namespace Go.Ab
open Go.RowKit
def u8(n:Nat):AV:=.i .u8 (n:Int)
def u32(n:Nat):AV:=.i .u32 (n:Int)
def u64(n:Nat):AV:=.i .u64 (n:Int)
@[simp] theorem zakz(k:IntKind)(n:Int):wkA (.i k n)=.i k n:=rfl
@[simp] theorem zaif{h:Heap}(k:IntKind)(n:Int):Za7 h (.i k n)=some (.i k n):=rfl
@[simp] theorem zaig{h:Heap}(k:IntKind)(n:Int):Zb7 h (.i k n)=some (.i k n):=rfl
@[simp] theorem zak0{h:Heap}(k:IntKind)(n:Int):frz h (.i k n)=some (.i k n):=rfl
@[simp] theorem z7a(k:IntKind)(n:Int):Za1 (.i k n)=true:=rfl
@[simp] theorem z7b(k:IntKind)(n:Int):Za2 (.i k n)=true:=rfl
@[simp] theorem zaap(k:IntKind)(n:Int):scalar (.i k n)=true:=rfl
@[simp] theorem zadw(k:IntKind)(n:Int):pureC (.i k n)=true:=rfl
@[simp] theorem zadx(k:IntKind)(n:Int):noRef (.i k n)=true:=rfl
@[simp] theorem zaih(k:IntKind)(n:Int):refs (.i k n)=[]:=rfl
@[simp] theorem zak1(k:IntKind)(n:Int):rfC (.i k n)=[]:=rfl
@[simp] theorem zak2(k:IntKind)(n:Int):rf1 (.i k n)=[]:=rfl
@[simp] theorem zak3(k:IntKind)(n:Int):rfA (.i k n)=[]:=rfl
@[simp] theorem zak4{σn:BId→BId}{σg:Nat→Nat}(k:IntKind)(n:Int):rlC σn σg (.i k n)=(.i k n):=rfl
@[simp] theorem zak5{σn:BId→BId}{σg:Nat→Nat}(k:IntKind)(n:Int):rl1 σn σg (.i k n)=(.i k n):=rfl
@[simp] theorem zak6{σn:BId→BId}{σg:Nat→Nat}(k:IntKind)(n:Int):rlA σn σg (.i k n)=(.i k n):=rfl
@[simp] theorem zaaq{h:Heap}(k:IntKind)(n:Int):Zbb h (.i k n)=true:=rfl
@[simp] theorem zaar{h:Heap}(k:IntKind)(n:Int):Zbt h (.i k n)=true:=rfl
@[simp] theorem zady{h:Heap}(k:IntKind)(n:Int):Zcg h (.i k n)=true:=rfl
@[simp] theorem z7c(k:IntKind)(n:Int):cellsOf (.i k n)=some [.i k n]:=rfl
@[simp] theorem zak7(t:Bool):wkA (.b t)=.b t:=rfl
@[simp] theorem zaii{h:Heap}(t:Bool):Za7 h (.b t)=some (.b t):=rfl
@[simp] theorem zaij{h:Heap}(t:Bool):Zb7 h (.b t)=some (.b t):=rfl
@[simp] theorem zak8{h:Heap}(t:Bool):frz h (.b t)=some (.b t):=rfl
@[simp] theorem z7d(t:Bool):Za1 (.b t)=true:=rfl
@[simp] theorem z7e(t:Bool):Za2 (.b t)=true:=rfl
@[simp] theorem zaas(t:Bool):scalar (.b t)=true:=rfl
@[simp] theorem zadz(t:Bool):pureC (.b t)=true:=rfl
@[simp] theorem zad0(t:Bool):noRef (.b t)=true:=rfl
@[simp] theorem zaik(t:Bool):refs (.b t)=[]:=rfl
@[simp] theorem zak9(t:Bool):rfC (.b t)=[]:=rfl
@[simp] theorem zala(t:Bool):rf1 (.b t)=[]:=rfl
@[simp] theorem zalb(t:Bool):rfA (.b t)=[]:=rfl
@[simp] theorem zalc{σn:BId→BId}{σg:Nat→Nat}(t:Bool):rlC σn σg (.b t)=(.b t):=rfl
@[simp] theorem zald{σn:BId→BId}{σg:Nat→Nat}(t:Bool):rl1 σn σg (.b t)=(.b t):=rfl
@[simp] theorem zale{σn:BId→BId}{σg:Nat→Nat}(t:Bool):rlA σn σg (.b t)=(.b t):=rfl
@[simp] theorem zaat{h:Heap}(t:Bool):Zbb h (.b t)=true:=rfl
@[simp] theorem zaau{h:Heap}(t:Bool):Zbt h (.b t)=true:=rfl
@[simp] theorem zad1{h:Heap}(t:Bool):Zcg h (.b t)=true:=rfl
@[simp] theorem z7f(t:Bool):cellsOf (.b t)=some [.b t]:=rfl
@[simp] theorem zalf(l:List UInt8):wkA (.s l)=.s l:=rfl
@[simp] theorem zail{h:Heap}(l:List UInt8):Za7 h (.s l)=some (.s l):=rfl
@[simp] theorem zaim{h:Heap}(l:List UInt8):Zb7 h (.s l)=some (.s l):=rfl
@[simp] theorem zalg{h:Heap}(l:List UInt8):frz h (.s l)=some (.s l):=rfl
@[simp] theorem z7g(l:List UInt8):Za1 (.s l)=true:=rfl
@[simp] theorem z7h(l:List UInt8):Za2 (.s l)=true:=rfl
@[simp] theorem zaav(l:List UInt8):scalar (.s l)=true:=rfl
@[simp] theorem zad2(l:List UInt8):pureC (.s l)=true:=rfl
@[simp] theorem zad3(l:List UInt8):noRef (.s l)=true:=rfl
@[simp] theorem zain(l:List UInt8):refs (.s l)=[]:=rfl
@[simp] theorem zalh(l:List UInt8):rfC (.s l)=[]:=rfl
@[simp] theorem zali(l:List UInt8):rf1 (.s l)=[]:=rfl
@[simp] theorem zalj(l:List UInt8):rfA (.s l)=[]:=rfl
@[simp] theorem zalk{σn:BId→BId}{σg:Nat→Nat}(l:List UInt8):rlC σn σg (.s l)=(.s l):=rfl
@[simp] theorem zall{σn:BId→BId}{σg:Nat→Nat}(l:List UInt8):rl1 σn σg (.s l)=(.s l):=rfl
@[simp] theorem zalm{σn:BId→BId}{σg:Nat→Nat}(l:List UInt8):rlA σn σg (.s l)=(.s l):=rfl
@[simp] theorem zaaw{h:Heap}(l:List UInt8):Zbb h (.s l)=true:=rfl
@[simp] theorem zaax{h:Heap}(l:List UInt8):Zbt h (.s l)=true:=rfl
@[simp] theorem zad4{h:Heap}(l:List UInt8):Zcg h (.s l)=true:=rfl
@[simp] theorem z7i(l:List UInt8):cellsOf (.s l)=some [.s l]:=rfl
@[simp] theorem zad5(v:Value):wkA (.raw v)=.raw v:=rfl
@[simp] theorem zaay{h:Heap}(v:Value):Za7 h (.raw v)=some (.raw v):=rfl
@[simp] theorem zaaz{h:Heap}(v:Value):Zb7 h (.raw v)=some (.raw v):=rfl
@[simp] theorem zad6{h:Heap}(v:Value):frz h (.raw v)=some (.raw v):=rfl
@[simp] theorem z17(v:Value):Za1 (.raw v)=false:=rfl
@[simp] theorem z18(v:Value):Za2 (.raw v)=false:=rfl
@[simp] theorem z5a(v:Value):scalar (.raw v)=false:=rfl
@[simp] theorem z7j(v:Value):pureC (.raw v)=true:=rfl
@[simp] theorem z7k(v:Value):noRef (.raw v)=true:=rfl
@[simp] theorem zaa0(v:Value):refs (.raw v)=[]:=rfl
@[simp] theorem zad7(v:Value):rfC (.raw v)=[]:=rfl
@[simp] theorem zad8(v:Value):rf1 (.raw v)=[]:=rfl
@[simp] theorem zad9(v:Value):rfA (.raw v)=[]:=rfl
@[simp] theorem zaea{σn:BId→BId}{σg:Nat→Nat}(v:Value):rlC σn σg (.raw v)=(.raw v):=rfl
@[simp] theorem zaeb{σn:BId→BId}{σg:Nat→Nat}(v:Value):rl1 σn σg (.raw v)=(.raw v):=rfl
@[simp] theorem zaec{σn:BId→BId}{σg:Nat→Nat}(v:Value):rlA σn σg (.raw v)=(.raw v):=rfl
@[simp] theorem z5b{h:Heap}(v:Value):Zbb h (.raw v)=true:=rfl
@[simp] theorem z5c{h:Heap}(v:Value):Zbt h (.raw v)=true:=rfl
@[simp] theorem z7l{h:Heap}(v:Value):Zcg h (.raw v)=true:=rfl
@[simp] theorem zaed{h:Heap}(els:List (List AV))(f:Fl):Za7 h (.sl els f)=some (.sl els f):=rfl
@[simp] theorem zaee{h:Heap}(els:List (List AV))(f:Fl):Zb7 h (.sl els f)=some (.sl els f):=rfl
@[simp] theorem zaio{h:Heap}(els:List (List AV))(f:Fl):frz h (.sl els f)=some (.sl els f):=rfl
@[simp] theorem z5d(els:List (List AV))(f:Fl):Za1 (.sl els f)=false:=rfl
@[simp] theorem z5e(els:List (List AV))(f:Fl):Za2 (.sl els f)=false:=rfl
@[simp] theorem z7m(els:List (List AV))(f:Fl):scalar (.sl els f)=false:=rfl
@[simp] theorem zaa1(els:List (List AV))(f:Fl):pureC (.sl els f)=true:=rfl
@[simp] theorem zaa2(els:List (List AV))(f:Fl):noRef (.sl els f)=true:=rfl
@[simp] theorem zaef(els:List (List AV))(f:Fl):refs (.sl els f)=[]:=rfl
@[simp] theorem zaip(els:List (List AV))(f:Fl):rfC (.sl els f)=[]:=rfl
@[simp] theorem zaiq(els:List (List AV))(f:Fl):rf1 (.sl els f)=[]:=rfl
@[simp] theorem zair(els:List (List AV))(f:Fl):rfA (.sl els f)=[]:=rfl
@[simp] theorem zais{σn:BId→BId}{σg:Nat→Nat}(els:List (List AV))(f:Fl):rlC σn σg (.sl els f)=(.sl els f):=rfl
@[simp] theorem zait{σn:BId→BId}{σg:Nat→Nat}(els:List (List AV))(f:Fl):rl1 σn σg (.sl els f)=(.sl els f):=rfl
@[simp] theorem zaiu{σn:BId→BId}{σg:Nat→Nat}(els:List (List AV))(f:Fl):rlA σn σg (.sl els f)=(.sl els f):=rfl
@[simp] theorem z7n{h:Heap}(els:List (List AV))(f:Fl):Zbb h (.sl els f)=true:=rfl
@[simp] theorem z7o{h:Heap}(els:List (List AV))(f:Fl):Zbt h (.sl els f)=true:=rfl
@[simp] theorem zaa3{h:Heap}(els:List (List AV))(f:Fl):Zcg h (.sl els f)=true:=rfl
@[simp] theorem z5f(els:List (List AV))(f:Fl):cellsOf (.sl els f)=some [.sl els f]:=rfl
@[simp] theorem zaiv(cs:List AV)(o:Nat):wkA (.ep cs o)=.ep cs o:=rfl
@[simp] theorem zaeg{h:Heap}(cs:List AV)(o:Nat):Za7 h (.ep cs o)=some (.ep cs o):=rfl
@[simp] theorem zaeh{h:Heap}(cs:List AV)(o:Nat):Zb7 h (.ep cs o)=some (.ep cs o):=rfl
@[simp] theorem zaiw{h:Heap}(cs:List AV)(o:Nat):frz h (.ep cs o)=some (.ep cs o):=rfl
@[simp] theorem z5g(cs:List AV)(o:Nat):Za1 (.ep cs o)=false:=rfl
@[simp] theorem z5h(cs:List AV)(o:Nat):Za2 (.ep cs o)=false:=rfl
@[simp] theorem z7p(cs:List AV)(o:Nat):scalar (.ep cs o)=false:=rfl
@[simp] theorem zaa4(cs:List AV)(o:Nat):pureC (.ep cs o)=true:=rfl
@[simp] theorem zaa5(cs:List AV)(o:Nat):noRef (.ep cs o)=true:=rfl
@[simp] theorem zaei(cs:List AV)(o:Nat):refs (.ep cs o)=[]:=rfl
@[simp] theorem zaix(cs:List AV)(o:Nat):rfC (.ep cs o)=[]:=rfl
@[simp] theorem zaiy(cs:List AV)(o:Nat):rf1 (.ep cs o)=[]:=rfl
@[simp] theorem zaiz(cs:List AV)(o:Nat):rfA (.ep cs o)=[]:=rfl
@[simp] theorem zai0{σn:BId→BId}{σg:Nat→Nat}(cs:List AV)(o:Nat):rlC σn σg (.ep cs o)=(.ep cs o):=rfl
@[simp] theorem zai1{σn:BId→BId}{σg:Nat→Nat}(cs:List AV)(o:Nat):rl1 σn σg (.ep cs o)=(.ep cs o):=rfl
@[simp] theorem zai2{σn:BId→BId}{σg:Nat→Nat}(cs:List AV)(o:Nat):rlA σn σg (.ep cs o)=(.ep cs o):=rfl
@[simp] theorem z7q{h:Heap}(cs:List AV)(o:Nat):Zbb h (.ep cs o)=true:=rfl
@[simp] theorem z7r{h:Heap}(cs:List AV)(o:Nat):Zbt h (.ep cs o)=true:=rfl
@[simp] theorem zaa6{h:Heap}(cs:List AV)(o:Nat):Zcg h (.ep cs o)=true:=rfl
@[simp] theorem z5i(cs:List AV)(o:Nat):cellsOf (.ep cs o)=some [.ep cs o]:=rfl
@[simp] theorem zai3(n:Nat):wkA (u8 n)=u8 n:=rfl
@[simp] theorem zaej{h:Heap}(n:Nat):Za7 h (u8 n)=some (u8 n):=rfl
@[simp] theorem zaek{h:Heap}(n:Nat):Zb7 h (u8 n)=some (u8 n):=rfl
@[simp] theorem zai4{h:Heap}(n:Nat):frz h (u8 n)=some (u8 n):=rfl
@[simp] theorem z5j(n:Nat):Za1 (u8 n)=true:=rfl
@[simp] theorem z5k(n:Nat):Za2 (u8 n)=true:=rfl
@[simp] theorem z7s(n:Nat):scalar (u8 n)=true:=rfl
@[simp] theorem zaa7(n:Nat):pureC (u8 n)=true:=rfl
@[simp] theorem zaa8(n:Nat):noRef (u8 n)=true:=rfl
@[simp] theorem zael(n:Nat):refs (u8 n)=[]:=rfl
@[simp] theorem zai5(n:Nat):rfC (u8 n)=[]:=rfl
@[simp] theorem zai6(n:Nat):rf1 (u8 n)=[]:=rfl
@[simp] theorem zai7(n:Nat):rfA (u8 n)=[]:=rfl
@[simp] theorem zai8{σn:BId→BId}{σg:Nat→Nat}(n:Nat):rlC σn σg (u8 n)=(u8 n):=rfl
@[simp] theorem zai9{σn:BId→BId}{σg:Nat→Nat}(n:Nat):rl1 σn σg (u8 n)=(u8 n):=rfl
@[simp] theorem zaja{σn:BId→BId}{σg:Nat→Nat}(n:Nat):rlA σn σg (u8 n)=(u8 n):=rfl
@[simp] theorem z7t{h:Heap}(n:Nat):Zbb h (u8 n)=true:=rfl
@[simp] theorem z7u{h:Heap}(n:Nat):Zbt h (u8 n)=true:=rfl
@[simp] theorem zaa9{h:Heap}(n:Nat):Zcg h (u8 n)=true:=rfl
@[simp] theorem z5l(n:Nat):cellsOf (u8 n)=some [u8 n]:=rfl
@[simp] theorem zaem(n:Nat):wkA (u32 n)=u32 n:=rfl
@[simp] theorem zaba{h:Heap}(n:Nat):Za7 h (u32 n)=some (u32 n):=rfl
@[simp] theorem zabb{h:Heap}(n:Nat):Zb7 h (u32 n)=some (u32 n):=rfl
@[simp] theorem zaen{h:Heap}(n:Nat):frz h (u32 n)=some (u32 n):=rfl
@[simp] theorem z19(n:Nat):Za1 (u32 n)=true:=rfl
@[simp] theorem z2a(n:Nat):Za2 (u32 n)=true:=rfl
@[simp] theorem z5m(n:Nat):scalar (u32 n)=true:=rfl
@[simp] theorem z7v(n:Nat):pureC (u32 n)=true:=rfl
@[simp] theorem z7w(n:Nat):noRef (u32 n)=true:=rfl
@[simp] theorem zabc(n:Nat):refs (u32 n)=[]:=rfl
@[simp] theorem zaeo(n:Nat):rfC (u32 n)=[]:=rfl
@[simp] theorem zaep(n:Nat):rf1 (u32 n)=[]:=rfl
@[simp] theorem zaeq(n:Nat):rfA (u32 n)=[]:=rfl
@[simp] theorem zaer{σn:BId→BId}{σg:Nat→Nat}(n:Nat):rlC σn σg (u32 n)=(u32 n):=rfl
@[simp] theorem zaes{σn:BId→BId}{σg:Nat→Nat}(n:Nat):rl1 σn σg (u32 n)=(u32 n):=rfl
@[simp] theorem zaet{σn:BId→BId}{σg:Nat→Nat}(n:Nat):rlA σn σg (u32 n)=(u32 n):=rfl
@[simp] theorem z5n{h:Heap}(n:Nat):Zbb h (u32 n)=true:=rfl
@[simp] theorem z5o{h:Heap}(n:Nat):Zbt h (u32 n)=true:=rfl
@[simp] theorem z7x{h:Heap}(n:Nat):Zcg h (u32 n)=true:=rfl
@[simp] theorem z2b(n:Nat):cellsOf (u32 n)=some [u32 n]:=rfl
@[simp] theorem zaeu(n:Nat):wkA (u64 n)=u64 n:=rfl
@[simp] theorem zabd{h:Heap}(n:Nat):Za7 h (u64 n)=some (u64 n):=rfl
@[simp] theorem zabe{h:Heap}(n:Nat):Zb7 h (u64 n)=some (u64 n):=rfl
@[simp] theorem zaev{h:Heap}(n:Nat):frz h (u64 n)=some (u64 n):=rfl
@[simp] theorem z2c(n:Nat):Za1 (u64 n)=true:=rfl
@[simp] theorem z2d(n:Nat):Za2 (u64 n)=true:=rfl
@[simp] theorem z5p(n:Nat):scalar (u64 n)=true:=rfl
@[simp] theorem z7y(n:Nat):pureC (u64 n)=true:=rfl
@[simp] theorem z7z(n:Nat):noRef (u64 n)=true:=rfl
@[simp] theorem zabf(n:Nat):refs (u64 n)=[]:=rfl
@[simp] theorem zaew(n:Nat):rfC (u64 n)=[]:=rfl
@[simp] theorem zaex(n:Nat):rf1 (u64 n)=[]:=rfl
@[simp] theorem zaey(n:Nat):rfA (u64 n)=[]:=rfl
@[simp] theorem zaez{σn:BId→BId}{σg:Nat→Nat}(n:Nat):rlC σn σg (u64 n)=(u64 n):=rfl
@[simp] theorem zae0{σn:BId→BId}{σg:Nat→Nat}(n:Nat):rl1 σn σg (u64 n)=(u64 n):=rfl
@[simp] theorem zae1{σn:BId→BId}{σg:Nat→Nat}(n:Nat):rlA σn σg (u64 n)=(u64 n):=rfl
@[simp] theorem z5q{h:Heap}(n:Nat):Zbb h (u64 n)=true:=rfl
@[simp] theorem z5r{h:Heap}(n:Nat):Zbt h (u64 n)=true:=rfl
@[simp] theorem z71{h:Heap}(n:Nat):Zcg h (u64 n)=true:=rfl
@[simp] theorem z2e(n:Nat):cellsOf (u64 n)=some [u64 n]:=rfl
@[simp] theorem zabg :wkA .dead=.dead:=rfl
@[simp] theorem z73{h:Heap} :Za7 h .dead=some .dead:=rfl
@[simp] theorem z74{h:Heap} :Zb7 h .dead=some .dead:=rfl
@[simp] theorem zabh{h:Heap} :frz h .dead=some .dead:=rfl
@[simp] theorem z04 :Za1 .dead=false:=rfl
@[simp] theorem z05 :Za2 .dead=false:=rfl
@[simp] theorem z2f :scalar .dead=false:=rfl
@[simp] theorem z5s :pureC .dead=true:=rfl
@[simp] theorem z5t :noRef .dead=true:=rfl
@[simp] theorem z77 :refs .dead=[]:=rfl
@[simp] theorem zabi :rfC .dead=[]:=rfl
@[simp] theorem zabj :rf1 .dead=[]:=rfl
@[simp] theorem zabk :rfA .dead=[]:=rfl
@[simp] theorem zabl{σn:BId→BId}{σg:Nat→Nat} :rlC σn σg .dead=.dead:=rfl
@[simp] theorem zabm{σn:BId→BId}{σg:Nat→Nat} :rl1 σn σg .dead=.dead:=rfl
@[simp] theorem zabn{σn:BId→BId}{σg:Nat→Nat} :rlA σn σg .dead=.dead:=rfl
@[simp] theorem z2g{h:Heap} :Zbb h .dead=true:=rfl
@[simp] theorem z2h{h:Heap} :Zbt h .dead=true:=rfl
@[simp] theorem z5u{h:Heap} :Zcg h .dead=true:=rfl
@[simp] theorem zajb(els:List (List AV))(f:Fl):wkA (.sl els f)=.sl (wkL els) .an:=rfl
@[simp] theorem zae2(cs:List AV):wkA (.agg cs)=.agg (wkR cs):=rfl
@[simp] theorem zae3(cs:List AV):wkA (.tup cs)=.tup (wkR cs):=rfl
@[simp] theorem zajc(id:BId)(g z off n:Nat):wkA (.bs id g z off n)=.bs id g z off n:=rfl
@[simp] theorem zae4(id:BId)(g z i o:Nat):wkA (.ptr id g z i o)=.ptr id g z i o:=rfl
@[simp] theorem zae5(f:Nat)(id:BId)(g z i o:Nat):wkA (.fnp f id g z i o)=.fnp f id g z i o:=rfl
@[simp] theorem zae6(f:Nat)(x:AV):wkA (.fnv f x)=.fnv f (wkA x):=rfl
@[simp] theorem zae7 :wkR []=[]:=rfl
@[simp] theorem zabo(c:AV)(r:List AV):wkR (c::r)=wkA c::wkR r:=rfl
@[simp] theorem zae8 :wkL []=[]:=rfl
@[simp] theorem zabp(c:List AV)(r:List (List AV)):wkL (c::r)=wkR c::wkL r:=rfl
@[simp] theorem zae9{h:Heap}(id:BId)(g z off n:Nat):Zb7 h (.bs id g z off n)=(Zab h id g z).bind fun bx=>if bx.kind≠.str∧off+n≤bx.els.length then some (.sl ((bx.els.drop off).take n) .an) else none:=rfl
@[simp] theorem zabq{h:Heap}(id:BId)(g z i o:Nat):Zb7 h (.ptr id g z i o)=some .dead:=rfl
@[simp] theorem zabr{h:Heap}(f:Nat)(id:BId)(g z i o:Nat):Zb7 h (.fnp f id g z i o)=some .dead:=rfl
@[simp] theorem zabs{h:Heap}(f:Nat)(x:AV):Zb7 h (.fnv f x)=some (.fnv f x):=rfl
@[simp] theorem zafa{h:Heap}(id:BId)(g z off n:Nat):Za7 h (.bs id g z off n)=(Zab h id g z).bind fun bx=>if bx.kind≠.str∧off+n≤bx.els.length then some (.sl ((bx.els.drop off).take n) .an) else none:=rfl
@[simp] theorem zabt{h:Heap}(id:BId)(g z i o:Nat):Za7 h (.ptr id g z i o)=some .dead:=rfl
@[simp] theorem zabu{h:Heap}(f:Nat)(id:BId)(g z i o:Nat):Za7 h (.fnp f id g z i o)=some .dead:=rfl
@[simp] theorem zabv{h:Heap}(f:Nat)(x:AV):Za7 h (.fnv f x)=some (.fnv f x):=rfl
@[simp] theorem zajd{h:Heap}(id:BId)(g z off n:Nat):frz h (.bs id g z off n)=(Zab h id g z).bind fun bx=>if bx.kind≠.str∧off+n≤bx.els.length then some (.sl ((bx.els.drop off).take n) .an) else none:=rfl
@[simp] theorem zafb{h:Heap}(id:BId)(g z i o:Nat):frz h (.ptr id g z i o)=some .dead:=rfl
@[simp] theorem zafc{h:Heap}(f:Nat)(id:BId)(g z i o:Nat):frz h (.fnp f id g z i o)=some .dead:=rfl
@[simp] theorem zafd{h:Heap}(f:Nat)(x:AV):frz h (.fnv f x)=some (.fnv f x):=rfl
@[simp] theorem zabw{h:Heap}(cs:List AV):Za7 h (.agg cs)=(cs.mapM (Zb7 h)).map .agg:=rfl
@[simp] theorem zafe{h:Heap}(cs:List AV):frz h (.agg cs)=(cs.mapM (Zb7 h)).map .agg:=rfl
@[simp] theorem zaff{h:Heap}(cs:List AV):frz h (.tup cs)=(cs.mapM (Za7 h)).map .tup:=rfl
@[simp] theorem z5v(id:BId)(g z off n:Nat):Za1 (.bs id g z off n)=false:=rfl
@[simp] theorem z2i(id:BId)(g z i o:Nat):Za1 (.ptr id g z i o)=false:=rfl
@[simp] theorem z2j(f:Nat)(id:BId)(g z i o:Nat):Za1 (.fnp f id g z i o)=false:=rfl
@[simp] theorem z2k(f:Nat)(x:AV):Za1 (.fnv f x)=false:=rfl
@[simp] theorem z5w(id:BId)(g z off n:Nat):Za2 (.bs id g z off n)=false:=rfl
@[simp] theorem z2l(id:BId)(g z i o:Nat):Za2 (.ptr id g z i o)=false:=rfl
@[simp] theorem z2m(f:Nat)(id:BId)(g z i o:Nat):Za2 (.fnp f id g z i o)=false:=rfl
@[simp] theorem z2n(f:Nat)(x:AV):Za2 (.fnv f x)=false:=rfl
@[simp] theorem z78(id:BId)(g z off n:Nat):scalar (.bs id g z off n)=false:=rfl
@[simp] theorem z5x(id:BId)(g z i o:Nat):scalar (.ptr id g z i o)=false:=rfl
@[simp] theorem z5y(f:Nat)(id:BId)(g z i o:Nat):scalar (.fnp f id g z i o)=false:=rfl
@[simp] theorem z5z(f:Nat)(x:AV):scalar (.fnv f x)=false:=rfl
@[simp] theorem z2o(cs:List AV):Za2 (.agg cs)=cs.all Za1:=rfl
@[simp] theorem z50(cs:List AV):scalar (.agg cs)=cs.all Za1:=rfl
@[simp] theorem z52(cs:List AV):scalar (.tup cs)=cs.all Za2:=rfl
@[simp] theorem zabx(id:BId)(g z off n:Nat):pureC (.bs id g z off n)=false:=rfl
@[simp] theorem z79(id:BId)(g z i o:Nat):pureC (.ptr id g z i o)=false:=rfl
@[simp] theorem z8a(f:Nat)(id:BId)(g z i o:Nat):pureC (.fnp f id g z i o)=false:=rfl
@[simp] theorem z8b(f:Nat)(x:AV):pureC (.fnv f x)=true:=rfl
@[simp] theorem z8c(cs:List AV):pureC (.agg cs)=false:=rfl
@[simp] theorem z8d(cs:List AV):pureC (.tup cs)=false:=rfl
@[simp] theorem zaby(id:BId)(g z off n:Nat):noRef (.bs id g z off n)=false:=rfl
@[simp] theorem z8e(id:BId)(g z i o:Nat):noRef (.ptr id g z i o)=false:=rfl
@[simp] theorem z8f(f:Nat)(id:BId)(g z i o:Nat):noRef (.fnp f id g z i o)=false:=rfl
@[simp] theorem z8g(f:Nat)(x:AV):noRef (.fnv f x)=true:=rfl
@[simp] theorem z8h(cs:List AV):noRef (.agg cs)=cs.all pureC:=rfl
@[simp] theorem z8i(cs:List AV):noRef (.tup cs)=false:=rfl
@[simp] theorem zafg(id:BId)(g z off n:Nat):refs (.bs id g z off n)=[id]:=rfl
@[simp] theorem zabz(id:BId)(g z i o:Nat):refs (.ptr id g z i o)=[]:=rfl
@[simp] theorem zab0(f:Nat)(id:BId)(g z i o:Nat):refs (.fnp f id g z i o)=[]:=rfl
@[simp] theorem zab1(f:Nat)(x:AV):refs (.fnv f x)=[]:=rfl
@[simp] theorem zaje(id:BId)(g z off n:Nat):rfC (.bs id g z off n)=[id]:=rfl
@[simp] theorem zafh(id:BId)(g z i o:Nat):rfC (.ptr id g z i o)=[id]:=rfl
@[simp] theorem zafi(f:Nat)(id:BId)(g z i o:Nat):rfC (.fnp f id g z i o)=[id]:=rfl
@[simp] theorem zafj(f:Nat)(x:AV):rfC (.fnv f x)=[]:=rfl
@[simp] theorem zajf(id:BId)(g z off n:Nat):rf1 (.bs id g z off n)=[id]:=rfl
@[simp] theorem zafk(id:BId)(g z i o:Nat):rf1 (.ptr id g z i o)=[id]:=rfl
@[simp] theorem zafl(f:Nat)(id:BId)(g z i o:Nat):rf1 (.fnp f id g z i o)=[id]:=rfl
@[simp] theorem zafm(f:Nat)(x:AV):rf1 (.fnv f x)=[]:=rfl
@[simp] theorem zajg(id:BId)(g z off n:Nat):rfA (.bs id g z off n)=[id]:=rfl
@[simp] theorem zafn(id:BId)(g z i o:Nat):rfA (.ptr id g z i o)=[id]:=rfl
@[simp] theorem zafo(f:Nat)(id:BId)(g z i o:Nat):rfA (.fnp f id g z i o)=[id]:=rfl
@[simp] theorem zafp(f:Nat)(x:AV):rfA (.fnv f x)=[]:=rfl
def Zfm:AV→List BId
 | .bs id .. => [id]
 | _=>[]
@[simp] theorem zafq(cs:List AV):rf1 (.agg cs)=cs.flatMap rfC:=rfl
@[simp] theorem zafr(cs:List AV):rfA (.agg cs)=cs.flatMap rfC:=rfl
@[simp] theorem zafs(cs:List AV):rfA (.tup cs)=cs.flatMap rf1:=rfl
@[simp] theorem zajh{σn:BId→BId}{σg:Nat→Nat}(id:BId)(g z off n:Nat):rlC σn σg (.bs id g z off n)=.bs (σn id) (σg g) z off n:=rfl
@[simp] theorem zaft{σn:BId→BId}{σg:Nat→Nat}(id:BId)(g z i o:Nat):rlC σn σg (.ptr id g z i o)=.ptr (σn id) (σg g) z i o:=rfl
@[simp] theorem zafu{σn:BId→BId}{σg:Nat→Nat}(f:Nat)(id:BId)(g z i o:Nat):rlC σn σg (.fnp f id g z i o)=.fnp f (σn id) (σg g) z i o:=rfl
@[simp] theorem zafv{σn:BId→BId}{σg:Nat→Nat}(f:Nat)(x:AV):rlC σn σg (.fnv f x)=.fnv f x:=rfl
@[simp] theorem zaji{σn:BId→BId}{σg:Nat→Nat}(id:BId)(g z off n:Nat):rl1 σn σg (.bs id g z off n)=.bs (σn id) (σg g) z off n:=rfl
@[simp] theorem zafw{σn:BId→BId}{σg:Nat→Nat}(id:BId)(g z i o:Nat):rl1 σn σg (.ptr id g z i o)=.ptr (σn id) (σg g) z i o:=rfl
@[simp] theorem zafx{σn:BId→BId}{σg:Nat→Nat}(f:Nat)(id:BId)(g z i o:Nat):rl1 σn σg (.fnp f id g z i o)=.fnp f (σn id) (σg g) z i o:=rfl
@[simp] theorem zafy{σn:BId→BId}{σg:Nat→Nat}(f:Nat)(x:AV):rl1 σn σg (.fnv f x)=.fnv f x:=rfl
@[simp] theorem zajj{σn:BId→BId}{σg:Nat→Nat}(id:BId)(g z off n:Nat):rlA σn σg (.bs id g z off n)=.bs (σn id) (σg g) z off n:=rfl
@[simp] theorem zafz{σn:BId→BId}{σg:Nat→Nat}(id:BId)(g z i o:Nat):rlA σn σg (.ptr id g z i o)=.ptr (σn id) (σg g) z i o:=rfl
@[simp] theorem zaf0{σn:BId→BId}{σg:Nat→Nat}(f:Nat)(id:BId)(g z i o:Nat):rlA σn σg (.fnp f id g z i o)=.fnp f (σn id) (σg g) z i o:=rfl
@[simp] theorem zaf1{σn:BId→BId}{σg:Nat→Nat}(f:Nat)(x:AV):rlA σn σg (.fnv f x)=.fnv f x:=rfl
@[simp] theorem zaf2{σn:BId→BId}{σg:Nat→Nat}(cs:List AV):rl1 σn σg (.agg cs)=.agg (cs.map (rlC σn σg)):=rfl
@[simp] theorem zaf3{σn:BId→BId}{σg:Nat→Nat}(cs:List AV):rlA σn σg (.agg cs)=.agg (cs.map (rlC σn σg)):=rfl
@[simp] theorem zaf4{σn:BId→BId}{σg:Nat→Nat}(cs:List AV):rlA σn σg (.tup cs)=.tup (cs.map (rl1 σn σg)):=rfl
@[simp] theorem z8j{h:Heap}(id:BId)(g z off n:Nat):Zbb h (.bs id g z off n)=(Zab h id g z).isSome:=rfl
@[simp] theorem z53{h:Heap}(id:BId)(g z i o:Nat):Zbb h (.ptr id g z i o)=(Zab h id g z).isSome:=rfl
@[simp] theorem z54{h:Heap}(f:Nat)(id:BId)(g z i o:Nat):Zbb h (.fnp f id g z i o)=(Zab h id g z).isSome:=rfl
@[simp] theorem z55{h:Heap}(f:Nat)(x:AV):Zbb h (.fnv f x)=true:=rfl
@[simp] theorem z8k{h:Heap}(id:BId)(g z off n:Nat):Zbt h (.bs id g z off n)=(Zab h id g z).isSome:=rfl
@[simp] theorem z56{h:Heap}(id:BId)(g z i o:Nat):Zbt h (.ptr id g z i o)=(Zab h id g z).isSome:=rfl
@[simp] theorem z57{h:Heap}(f:Nat)(id:BId)(g z i o:Nat):Zbt h (.fnp f id g z i o)=(Zab h id g z).isSome:=rfl
@[simp] theorem z58{h:Heap}(f:Nat)(x:AV):Zbt h (.fnv f x)=true:=rfl
@[simp] theorem zab2{h:Heap}(id:BId)(g z off n:Nat):Zcg h (.bs id g z off n)=(Zab h id g z).isSome:=rfl
@[simp] theorem z8l{h:Heap}(id:BId)(g z i o:Nat):Zcg h (.ptr id g z i o)=(Zab h id g z).isSome:=rfl
@[simp] theorem z8m{h:Heap}(f:Nat)(id:BId)(g z i o:Nat):Zcg h (.fnp f id g z i o)=(Zab h id g z).isSome:=rfl
@[simp] theorem z8n{h:Heap}(f:Nat)(x:AV):Zcg h (.fnv f x)=true:=rfl
@[simp] theorem z6a{h:Heap}(cs:List AV):Zbt h (.agg cs)=cs.all (Zbb h):=rfl
@[simp] theorem z8o{h:Heap}(cs:List AV):Zcg h (.agg cs)=cs.all (Zbb h):=rfl
@[simp] theorem z8p{h:Heap}(cs:List AV):Zcg h (.tup cs)=cs.all (Zbt h):=rfl
@[simp] theorem z6b(id:BId)(g z off n:Nat):cellsOf (.bs id g z off n)=some [.bs id g z off n]:=rfl
@[simp] theorem z2p(id:BId)(g z i o:Nat):cellsOf (.ptr id g z i o)=some [.ptr id g z i o]:=rfl
@[simp] theorem z2q(f:Nat)(id:BId)(g z i o:Nat):cellsOf (.fnp f id g z i o)=some [.fnp f id g z i o]:=rfl
@[simp] theorem z2r(f:Nat)(x:AV):cellsOf (.fnv f x)=some [.fnv f x]:=rfl
@[simp] theorem z2s(cs:List AV):cellsOf (.agg cs)=some cs:=rfl
@[simp] theorem zajk(k:IntKind)(n:Int):Zfm (.i k n)=[]:=rfl
@[simp] theorem zajl(t:Bool):Zfm (.b t)=[]:=rfl
@[simp] theorem zajm(l:List UInt8):Zfm (.s l)=[]:=rfl
@[simp] theorem zab3(v:Value):Zfm (.raw v)=[]:=rfl
@[simp] theorem zaf5(els:List (List AV))(f:Fl):Zfm (.sl els f)=[]:=rfl
@[simp] theorem zaf6(cs:List AV)(o:Nat):Zfm (.ep cs o)=[]:=rfl
@[simp] theorem zaf7(n:Nat):Zfm (u8 n)=[]:=rfl
@[simp] theorem zab4(n:Nat):Zfm (u32 n)=[]:=rfl
@[simp] theorem zab5(n:Nat):Zfm (u64 n)=[]:=rfl
@[simp] theorem z8q :Zfm .dead=[]:=rfl
@[simp] theorem zaf8(id:BId)(g z off n:Nat):Zfm (.bs id g z off n)=[id]:=rfl
@[simp] theorem zab6(id:BId)(g z i o:Nat):Zfm (.ptr id g z i o)=[]:=rfl
@[simp] theorem zab7(f:Nat)(id:BId)(g z i o:Nat):Zfm (.fnp f id g z i o)=[]:=rfl
@[simp] theorem zab8(f:Nat)(x:AV):Zfm (.fnv f x)=[]:=rfl
@[simp] theorem zab9(cs:List AV):refs (.agg cs)=cs.flatMap Zfm:=rfl
@[simp] theorem z06:refs (.tup [])=[]:=rfl
@[simp] theorem zaca(h:Heap)(id:BId)(g z:Nat):Zab h id g z=(match h.lookup id with | some bx=>if bx.gen=g∧bx.z=z then some bx else none | none=>none):=rfl
@[simp] theorem z8r(x:AV):wkIf true x=x:=rfl
@[simp] theorem z6c(x:AV):wkIf false x=wkA x:=rfl
theorem zc3(n:Nat):IntKind.wrap .u32 (n:Int)=((n%4294967296:Nat):Int):=by
 simp[IntKind.wrap,IntKind.signed,IntKind.bits]
theorem zet(n:Nat):IntKind.wrap .u64 (n:Int)=((n%18446744073709551616:Nat):Int):=by
 simp[IntKind.wrap,IntKind.signed,IntKind.bits]
theorem wrap_u8(n:Nat):IntKind.wrap .u8 (n:Int)=((n%256:Nat):Int):=by
 simp[IntKind.wrap,IntKind.signed,IntKind.bits]
def bX(o:Option (Ex×St))(f:St→Option (Ex×St)):Option (Ex×St):=o.bind fun r=>match r.1 with | .n=>f r.2 | _=>some r
def Zg4(id:Nat)(o:Option (Ex×St)):Option (Ex×St):=o.bind fun r=>match r.1 with | .x j=>if j=id then some (.n,r.2) else some r | _=>some r
def stX(o:Option St):Option (Ex×St):=o.map fun s=>(.n,s)
def bS(o:Option St)(f:St→Option St):Option St:=o.bind f
def cnX(v:AV)(x y:Option (Ex×St)):Option (Ex×St):=match v with | .b t=>if t then x else y | _=>none
def pS(o:Option AV)(d:Option Nat)(st:St):Option St:=o.map fun x=>⟨Zm st.env d x,st.heap,st.clk⟩
def pW(o:Option (AV×Heap×Nat))(d:Option Nat)(st:St):Option St:=o.map fun q=>⟨Zm st.env d q.1,q.2.1,q.2.2⟩
def pB(o:Option (AV×Heap))(d:Option Nat)(st:St):Option St:=o.map fun q=>⟨Zm st.env d q.1,q.2,st.clk⟩
def Zfv(res:List RV)(ex:Bool)(o:Option (Ex×St)):Option AV:=
 o.bind fun r=>match r.1 with | .x _=>none | .g _=>none | _=>(Zc1 r.2 res).bind fun x=>(frz r.2.heap x).map (wkIf ex)
def Zid(res:List RV)(ex:Bool)(k:Nat)(o:Option (Ex×St)):Option (AV×Heap):=
 o.bind fun r=>match r.1 with | .x _=>none | .g _=>none | _=>(Zc1 r.2 res).map fun x=>let s:=Zda ex k [0] ⟨[(0,x)],r.2.heap,r.2.clk⟩;(s.env.get 0,s.heap)
section
variable{o o':Option (Ex×St)}{f:St→Option (Ex×St)}{s:St}
@[congr] theorem zacb(h:o=o'):bX o f=bX o' f:=by rw[h]
@[congr] theorem zacc{o o':Option St}{f:St→Option St}(h:o=o'):bS o f=bS o' f:=by rw[h]
@[congr] theorem z8s{v v':AV}{x y:Option (Ex×St)}(h:v=v'):cnX v x y=cnX v' x y:=by rw[h]
@[simp] theorem bX_n:bX (some (.n,s)) f=f s:=rfl
@[simp] theorem bX_x(id:Nat):bX (some (.x id,s)) f=some (.x id,s):=rfl
@[simp] theorem bX_r:bX (some (.r,s)) f=some (.r,s):=rfl
@[simp] theorem zaf9:bX none f=none:=rfl
@[simp] theorem zajn{c:Prop}[Decidable c]{a b:Option (Ex×St)}:bX (if c then a else b) f=if c then bX a f else bX b f:=by split<;>rfl
@[simp] theorem zacd(id:Nat){c:Prop}[Decidable c]{a b:Option (Ex×St)}:Zg4 id (if c then a else b)=if c then Zg4 id a else Zg4 id b:=by split<;>rfl
@[simp] theorem zace{res:List RV}{ex:Bool}{c:Prop}[Decidable c]{a b:Option (Ex×St)}:Zfv res ex (if c then a else b)=if c then Zfv res ex a else Zfv res ex b:=by split<;>rfl
@[simp] theorem zacf{res:List RV}{ex:Bool}{k:Nat}{c:Prop}[Decidable c]{a b:Option (Ex×St)}:Zid res ex k (if c then a else b)=if c then Zid res ex k a else Zid res ex k b:=by split<;>rfl
@[simp] theorem zajo(id:Nat):Zg4 id (some (.n,s))=some (.n,s):=rfl
@[simp] theorem z8t(id j:Nat):Zg4 id (some (.x j,s))=if j=id then some (.n,s) else some (.x j,s):=rfl
@[simp] theorem zajp(id:Nat):Zg4 id (some (.r,s))=some (.r,s):=rfl
@[simp] theorem z8u(id:Nat):Zg4 id none=none:=rfl
@[simp] theorem zacg:stX (some s)=some (.n,s):=rfl
@[simp] theorem zach:stX none=none:=rfl
@[simp] theorem zaga{f:St→Option St}:bS (some s) f=f s:=rfl
@[simp] theorem zagb{f:St→Option St}:bS none f=none:=rfl
@[simp] theorem zaln{t:Bool}{x y:Option (Ex×St)}:cnX (.b t) x y=if t then x else y:=rfl
@[simp] theorem zagc{x:AV}{d:Option Nat}:pS (some x) d s=some ⟨Zm s.env d x,s.heap,s.clk⟩:=rfl
@[simp] theorem zagd{d:Option Nat}:pS none d s=none:=rfl
@[simp] theorem zage{x:AV}{h:Heap}{c:Nat}{d:Option Nat}:pW (some (x,h,c)) d s=some ⟨Zm s.env d x,h,c⟩:=rfl
@[simp] theorem zagf{d:Option Nat}:pW none d s=none:=rfl
@[simp] theorem zagg{x:AV}{h:Heap}{d:Option Nat}:pB (some (x,h)) d s=some ⟨Zm s.env d x,h,s.clk⟩:=rfl
@[simp] theorem zagh{d:Option Nat}:pB none d s=none:=rfl
@[simp] theorem zajq{res:List RV}{ex:Bool}:Zfv res ex (some (.r,s))=(Zc1 s res).bind fun x=>(frz s.heap x).map (wkIf ex):=rfl
@[simp] theorem zajr{res:List RV}{ex:Bool}:Zfv res ex (some (.n,s))=(Zc1 s res).bind fun x=>(frz s.heap x).map (wkIf ex):=rfl
@[simp] theorem zajs{res:List RV}{ex:Bool}{k:Nat}:Zid res ex k (some (.r,s))=(Zc1 s res).map fun x=>((Zda ex k [0] ⟨[(0,x)],s.heap,s.clk⟩).env.get 0,(Zda ex k [0] ⟨[(0,x)],s.heap,s.clk⟩).heap):=rfl
@[simp] theorem zajt{res:List RV}{ex:Bool}{k:Nat}:Zid res ex k (some (.n,s))=(Zc1 s res).map fun x=>((Zda ex k [0] ⟨[(0,x)],s.heap,s.clk⟩).env.get 0,(Zda ex k [0] ⟨[(0,x)],s.heap,s.clk⟩).heap):=rfl
end
section
variable{T:Tbl}{k:Nat}{st:St}{d:Option Nat}
noncomputable abbrev X(T:Tbl)(k:Nat)(c:AX)(st:St):Option (Ex×St):=evX (orc T) T k c st
noncomputable abbrev R(T:Tbl)(l:List AO)(st:St):Option St:=Zds (orc T) T l st
@[congr] theorem z8v{O:Orc}{c:AX}{st st':St}(h:st=st'):evX O T k c st=evX O T k c st':=by rw[h]
@[congr] theorem z8w{O:Orc}{op:AOp}{d:Option Nat}{st st':St}(h:st=st'):opX O T op d st=opX O T op d st':=by rw[h]
@[simp] theorem zaju:evX (orc T) T k .skip st=some (.n,st):=rfl
@[simp] theorem zalo{l:List AO}:evX (orc T) T k (.reg l) st=stX (Zds (orc T) T l st):=rfl
@[simp] theorem zajv{l:List DO}:evX (orc T) T k (.draw l) st=stX (Zb2 (orc T) T l st.env st.heap st.clk [] []):=rfl
@[simp] theorem zalp{a b:AX}:evX (orc T) T k (.seq a b) st=bX (evX (orc T) T k a st) fun s=>evX (orc T) T k b s:=rfl
@[simp] theorem zajw{c:Opd}{x y:AX}:evX (orc T) T k (.cond c x y) st=cnX (ev st.env.get c) (evX (orc T) T k x st) (evX (orc T) T k y st):=rfl
@[simp] theorem zagi{id:Nat}{c:AX}:evX (orc T) T k (.block id c) st=Zg4 id (evX (orc T) T k c st):=rfl
@[simp] theorem zajx{c:AX}:evX (orc T) T k (.loop c) st=Zil T k c st:=rfl
def scX(o:Option (Ex×St)):Option (Ex×St):=o.bind fun r=>match r.1 with | .g _=>none | _=>some r
@[congr] theorem z8x{o o':Option (Ex×St)}(h:o=o'):scX o=scX o':=by rw[h]
@[simp] theorem zalq{s:St}:scX (some (.n,s))=some (.n,s):=rfl
@[simp] theorem zalr{j:Nat}{s:St}:scX (some (.x j,s))=some (.x j,s):=rfl
@[simp] theorem zals{s:St}:scX (some (.r,s))=some (.r,s):=rfl
@[simp] theorem zagj{c:Prop}[Decidable c]{a b:Option (Ex×St)}:scX (if c then a else b)=if c then scX a else scX b:=by split<;>rfl
@[simp] theorem zagk{c:AX}:evX (orc T) T k (.scope c) st=scX (evX (orc T) T k c st):=rfl
@[simp] theorem zagl{l:Nat}:evX (orc T) T k (.label l) st=some (.n,st):=rfl
@[simp] theorem zajy{l:Nat}:evX (orc T) T k (.goto l) st=some (.g l,st):=rfl
@[simp] theorem bX_g{l:Nat}{s:St}{f:St→Option (Ex×St)}:bX (some (.g l,s)) f=some (.g l,s):=rfl
@[simp] theorem zajz{id l:Nat}{s:St}:Zg4 id (some (.g l,s))=some (.g l,s):=rfl
@[simp] theorem zaj0{id:Nat}:evX (orc T) T k (.exit id) st=some (.x id,st):=rfl
@[simp] theorem zalt:evX (orc T) T k .ret st=some (.r,st):=rfl
@[simp] theorem zaj1{c:AX}{g:Gh}:evX (orc T) T k (.note c g) st=bX (evX (orc T) T k c st) fun s=>stX (ghS k g s):=rfl
def prX(o:Option St)(f:St→Option (Ex×St)):Option (Ex×St):=o.bind f
@[congr] theorem z8y{o o':Option St}{f:St→Option (Ex×St)}(h:o=o'):prX o f=prX o' f:=by rw[h]
@[simp] theorem zaci{s:St}{f:St→Option (Ex×St)}:prX (some s) f=f s:=rfl
@[simp] theorem zalu{c:AX}{g:Gh}:evX (orc T) T k (.pre g c) st=prX (ghS k g st) fun s=>evX (orc T) T k c s:=rfl
noncomputable def Zex(k id:Nat)(g2:Gh)(o:Option (Ex×St)):Option (Ex×St):=bX (Zg4 id o) fun s=>stX (ghS k g2 s)
noncomputable def Zf(T:Tbl)(k id:Nat)(g2:Gh)(c:AX)(st:St):Option (Ex×St):=Zex k id g2 (Zil T k c st)
@[congr] theorem z2t{id:Nat}{g2:Gh}{c:AX}{st st':St}(h:st=st'):Zf T k id g2 c st=Zf T k id g2 c st':=by rw[h]
@[congr] theorem z6d{id:Nat}{g2:Gh}{o o':Option (Ex×St)}(h:o=o'):Zex k id g2 o=Zex k id g2 o':=by rw[h]
@[simp] theorem zaj2{id j:Nat}{g2:Gh}{s:St}:Zex k id g2 (some (.x j,s))=if j=id then stX (ghS k g2 s) else some (.x j,s):=by
 unfold Zex;rw[z8t];split<;>simp
@[simp] theorem zaj3{id:Nat}{g2:Gh}{s:St}:Zex k id g2 (some (.r,s))=some (.r,s):=rfl
@[simp] theorem X_lp{id:Nat}{g g2:Gh}{c:AX}:evX (orc T) T k (.lp id g c g2) st=prX (ghS k g st) fun s=>Zf T k id g2 c s:=by
 simp only[evX,prX,Zf,Zex,bX,Zg4,stX,Zil];cases ghS k g st with
 | none=>rfl
 | some s=>
  simp only[Y2];cases (orc T).loop k c s with
  | none=>rfl
  | some r=>
   obtain⟨e,s'⟩:=r;cases e with
   | n=>rfl
   | r=>rfl
   | g l=>rfl
   | x j=>
    simp only[Y2];split<;>rfl
def Zey:Option (Ex×St)→Bool
 | some (.x _,_)=>true
 | some (.r,_)=>true
 | _=>false
@[simp] theorem zaj4{j:Nat}{s:St}:Zey (some (.x j,s))=true:=rfl
@[simp] theorem zaj5{s:St}:Zey (some (.r,s))=true:=rfl
@[simp] theorem zacj{c:Prop}[Decidable c]{a b:Option (Ex×St)}:Zey (if c then a else b)=if c then Zey a else Zey b:=by split<;>rfl
@[congr] theorem z6e{o o':Option (Ex×St)}(h:o=o'):Zey o=Zey o':=by rw[h]
theorem zqb{c:AX}:Zil T k c st=bX (evX (orc T) T k c st) fun s=>Zil T k c s:=zyz T k c st
theorem zas{α:Type}{id:Nat}{g2:Gh}{c:AX}(F:α→St)(I:α→Prop)(μ:α→Nat)(Q:Ex×St→Prop)
  (step:∀x,I x→(∃y,I y∧μ y<μ x∧evX (orc T) T k c (F x)=some (.n,F y))∨(∃r,Q r∧Zey (evX (orc T) T k c (F x))=true∧Zex k id g2 (evX (orc T) T k c (F x))=some r)) :
  ∀x,I x→∃r,Q r∧Zf T k id g2 c (F x)=some r:=by
 have key:∀n x,μ x=n→I x→∃r,Q r∧Zf T k id g2 c (F x)=some r:=by
  intro n
  induction n using Nat.strongRecOn with
  | _ n ih=>
   intro x hn hI;unfold Zf;rw[zqb];rcases step x hI with ⟨y,h1,h2,h3⟩ | ⟨r,h1,h2,h3⟩
   ·rw[h3,bX_n];exact ih (μ y) (hn▸h2) y rfl h1
   ·refine⟨r,h1,?_⟩;rw[←h3];generalize evX (orc T) T k c (F x)=o at h2 ⊢;cases o with
    | none=>cases h2
    | some q=>
     obtain⟨e,s⟩:=q;cases e
     ·cases h2
     ·rfl
     ·rfl
     ·cases h2
 exact fun x hI=>key _ x rfl hI
theorem zaq{α:Type}{id:Nat}{g2:Gh}{c:AX}(F:α→St)(I:α→Prop)(μ:α→Nat)(G:α→Option (Ex×St))
  (step:∀x,I x→(∃y,I y∧μ y<μ x∧evX (orc T) T k c (F x)=some (.n,F y)∧G y=G x)∨(Zey (evX (orc T) T k c (F x))=true∧Zex k id g2 (evX (orc T) T k c (F x))=G x)) :
  ∀x,I x→Zf T k id g2 c (F x)=G x:=by
 have key:∀n x,μ x=n→I x→Zf T k id g2 c (F x)=G x:=by
  intro n
  induction n using Nat.strongRecOn with
  | _ n ih=>
   intro x hn hI;unfold Zf;rw[zqb];rcases step x hI with ⟨y,h1,h2,h3,h4⟩ | ⟨h2,h3⟩
   ·rw[h3,bX_n,←h4];exact ih (μ y) (hn▸h2) y rfl h1
   ·rw[←h3];generalize evX (orc T) T k c (F x)=o at h2 ⊢;cases o with
    | none=>cases h2
    | some q=>
     obtain⟨e,s⟩:=q;cases e
     ·cases h2
     ·rfl
     ·rfl
     ·cases h2
 exact fun x hI=>key _ x rfl hI
@[simp] theorem zalv:Zds (orc T) T [] st=some st:=rfl
@[simp] theorem zaj6{d:Option Nat}{op:AOp}{l:List AO}:Zds (orc T) T (⟨d,none,op⟩::l) st=bS (opX (orc T) T op d st) fun s=>Zds (orc T) T l s:=rfl
noncomputable def gS(T:Tbl)(x:AV)(want:Bool)(op:AOp)(d:Option Nat)(st:St):Option St:=gX (orc T) T x want op d st
@[congr] theorem zack{x x':AV}{want:Bool}{op:AOp}(h:x=x'):gS T x want op d st=gS T x' want op d st:=by rw[h]
@[simp] theorem zagm{d:Option Nat}{op:AOp}{l:List AO}{t:Nat}{w:Bool}:Zds (orc T) T (⟨d,some (t,w),op⟩::l) st=bS (gS T (st.env.get t) w op d st) fun s=>Zds (orc T) T l s:=rfl
@[simp] theorem gS_b{v want:Bool}{op:AOp}:gS T (.b v) want op d st=if v=want then opX (orc T) T op d st else some ⟨Zm st.env d (.tup []),st.heap,st.clk⟩:=rfl
@[simp] theorem zaj7{vs:List AV}{want:Bool}{op:AOp}:gS T (.tup vs) want op d st=some ⟨Zm st.env d (.tup []),st.heap,st.clk⟩:=rfl
@[simp] theorem zalw{x}:opX (orc T) T (.mov x) d st=some ⟨Zm st.env d (ev st.env.get x),st.heap,st.clk⟩:=rfl
@[simp] theorem zaj8{c a b}:opX (orc T) T (.pick c a b) d st=pS (Zgn (ev st.env.get c) (ev st.env.get a) (ev st.env.get b)) d st:=rfl
@[simp] theorem zagn{zs ps}:opX (orc T) T (.build zs ps) d st=pS ((Zga zs (ps.map fun p=>(p.1,p.2.1,ev st.env.get p.2.2))).map .agg) d st:=rfl
@[simp] theorem zaj9{n x}:opX (orc T) T (.load n x) d st=pS (Zes n st.heap (ev st.env.get x)) d st:=rfl
@[simp] theorem zalx{o x y}:opX (orc T) T (.bin o x y) d st=pS (Z9 o (ev st.env.get x) (ev st.env.get y)) d st:=rfl
@[simp] theorem zaly{g ls x y}:opX (orc T) T (.eqs g ls x y) d st=pS (Zhl g ls (ev st.env.get x) (ev st.env.get y)) d st:=rfl
@[simp] theorem zago{g x}:opX (orc T) T (.eqnil g x) d st=pS (Ze3 g (ev st.env.get x)) d st:=rfl
@[simp] theorem zalz{g x y}:opX (orc T) T (.eqb g x y) d st=pS (Zhm g (ev st.env.get x) (ev st.env.get y)) d st:=rfl
@[simp] theorem O_un{o x}:opX (orc T) T (.un o x) d st=pS (Zgo o (ev st.env.get x)) d st:=rfl
@[simp] theorem zaka{n x}:opX (orc T) T (.conv n x) d st=pS (Zbr n (ev st.env.get x)) d st:=rfl
@[simp] theorem zal0{z x lo hi mx}:opX (orc T) T (.slc z x lo hi mx) d st=pS (Zgb z st.heap (ev st.env.get x) (evO st.env.get lo) (evO st.env.get hi) (evO st.env.get mx)) d st:=rfl
@[simp] theorem zagp{x lo hi}:opX (orc T) T (.slstr x lo hi) d st=pS (Ze4 (ev st.env.get x) (evO st.env.get lo) (evO st.env.get hi)) d st:=rfl
@[simp] theorem zal1{o x}:opX (orc T) T (.fad o x) d st=pS (Zgp o st.heap (ev st.env.get x)) d st:=rfl
@[simp] theorem zal2{o n x}:opX (orc T) T (.fld o n x) d st=pS (Zhn o n (ev st.env.get x)) d st:=rfl
@[simp] theorem zal3{z x i}:opX (orc T) T (.iad z x i) d st=pS (Zgq z st.heap (ev st.env.get x) (ev st.env.get i)) d st:=rfl
@[simp] theorem zal4{z n x i}:opX (orc T) T (.iaa z n x i) d st=pS (Zgr z n st.heap (ev st.env.get x) (ev st.env.get i)) d st:=rfl
@[simp] theorem zal5{x i}:opX (orc T) T (.ixs x i) d st=pS (Zho (ev st.env.get x) (ev st.env.get i)) d st:=rfl
@[simp] theorem zal6{z l n x i}:opX (orc T) T (.ixa z l n x i) d st=pS (Zhp z l n (ev st.env.get x) (ev st.env.get i)) d st:=rfl
@[simp] theorem zal7{x}:opX (orc T) T (.len x) d st=pS (Zgs st.heap (ev st.env.get x)) d st:=rfl
@[simp] theorem zakb{x}:opX (orc T) T (.lens x) d st=pS (Zfz (ev st.env.get x)) d st:=rfl
@[simp] theorem zakc{n}:opX (orc T) T (.lenc n) d st=some ⟨Zm st.env d (.i .i64 n),st.heap,st.clk⟩:=rfl
@[simp] theorem O_mm{m xs}:opX (orc T) T (.mm m xs) d st=pS (Zjz m (xs.map (ev st.env.get))) d st:=rfl
@[simp] theorem zal8{x n}:opX (orc T) T (.ext x n) d st=pS (Zhq n (ev st.env.get x)) d st:=rfl
@[simp] theorem zakd{x}:opX (orc T) T (.nilc x) d st=pS (Zfh st.heap (ev st.env.get x)) d st:=rfl
@[simp] theorem zagq{zs}:opX (orc T) T (.alloc zs) d st=pW (Zec zs d st.heap st.clk) d st:=rfl
@[simp] theorem zagr{n x v}:opX (orc T) T (.store n x v) d st=pW ((Zc0 n st.heap (ev st.env.get x) (ev st.env.get v)).map fun h'=>(.tup [],h',st.clk)) d st:=rfl
@[simp] theorem zal9{z zs l c}:opX (orc T) T (.mks z zs l c) d st=pW (Zgd z zs d st.heap st.clk (ev st.env.get l) (ev st.env.get c)) d st:=rfl
@[simp] theorem zama{z x y}:opX (orc T) T (.app z x y) d st=pW (Zgw z d st.heap st.clk (ev st.env.get x) (ev st.env.get y)) d st:=rfl
@[simp] theorem zake{n xs}:opX (orc T) T (.xop (.box n) xs) d st=pW (Za8 (.box n) (xs.map (ev st.env.get)) d st.heap st.clk) d st:=rfl
@[simp] theorem zakf{xs}:opX (orc T) T (.xop .cpy xs) d st=pW (Za8 .cpy (xs.map (ev st.env.get)) d st.heap st.clk) d st:=rfl
@[simp] theorem zags{xs}:opX (orc T) T (.xop .bstr xs) d st=pW (Za8 .bstr (xs.map (ev st.env.get)) d st.heap st.clk) d st:=rfl
@[simp] theorem zagt{n xs}:opX (orc T) T (.xop (.arsl n) xs) d st=pW (Za8 (.arsl n) (xs.map (ev st.env.get)) d st.heap st.clk) d st:=rfl
@[simp] theorem zagu{xs}:opX (orc T) T (.xop .apps xs) d st=pW (Za8 .apps (xs.map (ev st.env.get)) d st.heap st.clk) d st:=rfl
@[simp] theorem zakg{xs}:opX (orc T) T (.xop .bad xs) d st=pW (Za8 .bad (xs.map (ev st.env.get)) d st.heap st.clk) d st:=rfl
@[simp] theorem zamb{n xs}:opX (orc T) T (.xop (.mkf n) xs) d st=pW (Za8 (.mkf (Zo T n)) (xs.map (ev st.env.get)) d st.heap st.clk) d st:=rfl
@[simp] theorem zamc{n xs}:opX (orc T) T (.xop (.mkv n) xs) d st=pW (Za8 (.mkv (Zo T n)) (xs.map (ev st.env.get)) d st.heap st.clk) d st:=rfl
@[simp] theorem z6f{f:Nat}{x:AV}{dd:Option Nat}{h:Heap}{clk:Nat}:Za8 (.mkv f) [x] dd h clk=if noRef x=true then some (.fnv f x,h,clk) else none:=rfl
@[simp] theorem z6g{f:Nat}{id:BId}{g z i o:Nat}{dd:Option Nat}{h:Heap}{clk:Nat}:Za8 (.mkf f) [.ptr id g z i o] dd h clk=some (.fnp f id g z i o,h,clk):=rfl
@[simp] theorem zamd{z zs n ps}:opX (orc T) T (.bsl z zs n ps) d st=pB (Zd2 z zs n st.heap (ps.map fun p=>(p.1,ev st.env.get p.2))) d st:=rfl
@[simp] theorem zakh{u args}:opX (orc T) T (.call u args) d st=Zc (orc T) T u (args.map (ev st.env.get)) d st:=rfl
def cR(r:Option AV)(xs:List AV)(d:Option Nat)(st:St):Option St:=
 r.map fun r=>⟨Zm st.env d r,if scalar r then st.heap else Zh (xs.flatMap refs) st.heap,st.clk⟩
@[congr] theorem zacl{r r':Option AV}{xs:List AV}(h:r=r'):cR r xs d st=cR r' xs d st:=by rw[h]
@[simp] theorem zagv{r:AV}{xs:List AV}:cR (some r) xs d st=some ⟨Zm st.env d r,if scalar r then st.heap else Zh (xs.flatMap refs) st.heap,st.clk⟩:=rfl
def bL(o:Option (List AV))(f:List AV→Option St):Option St:=o.bind f
@[congr] theorem zacm{o o':Option (List AV)}{f:List AV→Option St}(h:o=o'):bL o f=bL o' f:=by rw[h]
@[simp] theorem zagw{xs:List AV}{f:List AV→Option St}:bL (some xs) f=f xs:=rfl
def Zjp(h:Heap):List AV→Option (List AV)
 | []=>some []
 | x::l=>(Za7 h x).bind fun y=>(Zjp h l).map fun ys=>y::ys
theorem zu8(h:Heap):∀l:List AV,l.mapM (Za7 h)=Zjp h l
 | []=>rfl
 | x::l=>by simp only[Ybl,Zjp,zu8 h l,Ycs,Ydj,Option.map_eq_bind,Function.comp_def]
attribute [simp] Zjp Zd4 Zap Zb8
theorem zaa{u:Nat}{xs:List AV}{np nt:Nat}{res:List RV}{b:AX}{ex:Bool}(hT:T u=some ⟨np,nt,res,b,none,ex⟩) :
  Zc (orc T) T u xs d st=bL (Zjp st.heap xs) fun ys=>cR (Za T u (ys.map (wkIf ex))) xs d st:=by
 unfold Zc bL cR Za;rw[hT];simp only[zu8];congr 1
 funext ys
 cases (orc T).call u (ys.map (wkIf ex)) []<;>rfl
theorem zab{u:Nat}{xs:List AV}{np nt:Nat}{res:List RV}{b:AX}{ex:Bool}(hT:T u=some ⟨np,nt,res,b,none,ex⟩)(hn:xs.length=np)(hp:b.isPrim=none:=by rfl) :
  Za T u xs=Zfv res ex (evX (orc T) T 0 b ⟨Zbc xs,[],1⟩):=by
 unfold Za Zfv;rw[zk2];simp only[Zcu,hT,hp];rw[if_pos ⟨hn,by simp⟩];simp only[Yag,Yat];cases evX (orc T) T 0 b ⟨Zbc xs,[],1⟩ with
 | none=>rfl
 | some r=>
  obtain⟨e,s⟩:=r;cases e<;>simp only[Y2,Zkc,Ye3]<;>(cases Zc1 s res<;>simp only[Option.bind_none,Ye3,Y2]<;>cases frz s.heap _<;>rfl)
theorem zb1{u:Nat}{xs:List AV}{np nt:Nat}{res:List RV}{f:List AV→Option AV}{ex:Bool}(hT:T u=some ⟨np,nt,res,.prim f,none,ex⟩):Za T u xs=f xs:=by
 unfold Za;rw[zk2];simp only[Zcu,hT,AX.isPrim];cases f xs<;>simp
theorem za3{u:Nat}{xs:List AV}{hb:Heap}{np nt:Nat}{res:List RV}{b:AX}{ms:List Bool}{ex:Bool}(hT:T u=some ⟨np,nt,res,b,some ms,ex⟩)(hn:xs.length=np)(hp:b.isPrim=none:=by rfl) :
  Zbk T u xs hb=Zid res ex hb.length (evX (orc T) T hb.length b ⟨Zbc xs,hb,hb.length+1⟩):=by
 unfold Zbk Zid;rw[zk2];simp only[Zcu,hT,hp];rw[if_pos ⟨hn,by simp⟩];cases evX (orc T) T hb.length b ⟨Zbc xs,hb,hb.length+1⟩ with
 | none=>rfl
 | some r=>
  obtain⟨e,s⟩:=r;cases e<;>simp only[Y2,Zkc]<;>(cases Zc1 s res<;>rfl)
def Zke(l:List BId)(hp h1:Heap)(r:Option (AV×Heap))(d:Option Nat)(st:St):Option St:=
 r.bind fun r=>
  let hb':=r.2.map fun p=>(Za4 l (d.getD 0) p.1,Zan true (Za4 l (d.getD 0)) (Zbd hp st.clk) p.2)
  let r':=rlA (Za4 l (d.getD 0)) (Zbd hp st.clk) r.1
  if (hb'.map (·.1)).Nodup&&Zcg hb' r'&&Zgx hb' then
   some ⟨Zm st.env d r',hb'++(h1.filter fun p=>!(l.contains p.1 || (hb'.map (·.1)).contains p.1)),st.clk+r.2.length+2⟩
  else none
@[congr] theorem z6h{l:List BId}{hp h1:Heap}{r r':Option (AV×Heap)}(h:r=r'):Zke l hp h1 r d st=Zke l hp h1 r' d st:=by rw[h]
noncomputable def Zdl(ys:List AV)(h1:Heap)(l:List BId)(T:Tbl)(u:Nat)(ex:Bool)(d:Option Nat)(st:St):Option St:=
 if (Zd7 h1 l).map (·.1)=l∧l.Nodup then
  Zke l (Zd7 h1 l) h1 (Zbk T u (ys.map fun y=>rlA (inN l) (inG (Zd7 h1 l)) (wkIf ex y)) ((Zd7 h1 l).map fun p=>(inN l p.1,Zan ex (inN l) (inG (Zd7 h1 l)) p.2))) d st
 else none
@[simp] theorem z8z{l:List BId}{hp h1:Heap}{r:AV}{h2:Heap}:Zke l hp h1 (some (r,h2)) d st =
  (if ((h2.map fun p=>(Za4 l (d.getD 0) p.1,Zan true (Za4 l (d.getD 0)) (Zbd hp st.clk) p.2)).map (·.1)).Nodup&&Zcg (h2.map fun p=>(Za4 l (d.getD 0) p.1,Zan true (Za4 l (d.getD 0)) (Zbd hp st.clk) p.2)) (rlA (Za4 l (d.getD 0)) (Zbd hp st.clk) r)&&Zgx (h2.map fun p=>(Za4 l (d.getD 0) p.1,Zan true (Za4 l (d.getD 0)) (Zbd hp st.clk) p.2)) then
   some ⟨Zm st.env d (rlA (Za4 l (d.getD 0)) (Zbd hp st.clk) r),(h2.map fun p=>(Za4 l (d.getD 0) p.1,Zan true (Za4 l (d.getD 0)) (Zbd hp st.clk) p.2))++(h1.filter fun p=>!(l.contains p.1 || ((h2.map fun p=>(Za4 l (d.getD 0) p.1,Zan true (Za4 l (d.getD 0)) (Zbd hp st.clk) p.2)).map (·.1)).contains p.1)),st.clk+h2.length+2⟩
  else none):=rfl
attribute [simp] Zdl Za4 Zbd inN inG Zev Zgx
theorem zau{u:Nat}{xs:List AV}{np nt:Nat}{res:List RV}{b:AX}{ms:List Bool}{ex:Bool}(hT:T u=some ⟨np,nt,res,b,some ms,ex⟩) :
  Zc (orc T) T u xs d st=bL (Zd4 st.heap ms xs) fun ys=>Zdl ys (Zh (Zap ms xs) st.heap) (Zck (Zh (Zap ms xs) st.heap) 40 (Zb8 ms xs) []) T u ex d st:=by
 unfold Zc bL Zdl Zke Zbk;rw[hT]
def bD(o:Option (AV×Bool))(f:AV×Bool→Option St):Option St:=o.bind f
@[congr] theorem zacn{o o':Option (AV×Bool)}{f:AV×Bool→Option St}(h:o=o'):bD o f=bD o' f:=by rw[h]
@[simp] theorem zagx{e:AV×Bool}{f:AV×Bool→Option St}:bD (some e) f=f e:=rfl
def bWr(o:Option (AV×Heap×Nat))(f:AV×Heap×Nat→Option St):Option St:=o.bind f
@[congr] theorem z80{o o':Option (AV×Heap×Nat)}{f:AV×Heap×Nat→Option St}(h:o=o'):bWr o f=bWr o' f:=by rw[h]
@[simp] theorem zaco{q:AV×Heap×Nat}{f:AV×Heap×Nat→Option St}:bWr (some q) f=f q:=rfl
def iP(b:Bool)(x:Option St):Option St:=if b then x else none
@[congr] theorem zacp{b b':Bool}{x:Option St}(h:b=b'):iP b x=iP b' x:=by rw[h]
@[simp] theorem zagy{x:Option St}:iP true x=x:=rfl
@[simp] theorem z6i{h:Heap}:Zcw [] h=true:=by
 classical
 unfold Zcw;exact decide_eq_true fun p hp=>by cases hp
@[simp] theorem z2u{q:AOp×Env×AV}{l:Zcl}{h:Heap}:Zcw ((0,q)::l) h=Zcw l h:=by
 classical
 unfold Zcw;refine decide_eq_decide.2 ⟨fun h1 p hp=>h1 p (Yn _ hp),fun h1 p hp h0=>?_⟩;rcases Yt.1 hp with rfl | hp
 ·cases h0
 ·exact h1 p hp h0
@[simp] theorem zh2{n:Nat}{op:AOp}{e:Env}{x:AV}{l:Zcl}{h:Heap}(hs:Zg2 op e.get h=some x):Zcw ((n,op,e,x)::l) h=Zcw l h:=by
 classical
 unfold Zcw;refine decide_eq_decide.2 ⟨fun h1 p hp=>h1 p (Yn _ hp),fun h1 p hp h0=>?_⟩;rcases Yt.1 hp with rfl | hp
 ·exact hs
 ·exact h1 p hp h0
theorem zrs{op:AOp}{e:Env}{older:List Heap}{x:AV}(hf:op.free=true):Zej op e older x=true:=by unfold Zej;rw[hf];rfl
theorem zu9{op:AOp}{e:Env}{x:AV}:Zej op e [] x=true:=by
 classical
 unfold Zej;rw[Ya4];exact .inr (decide_eq_true fun h' hh=>by cases hh)
theorem zrt{op:AOp}{e:Env}{h:Heap}{older:List Heap}{x:AV}(h1:Zg op e.get h=some x):Zej op e (h::older) x=Zej op e older x:=by
 classical
 unfold Zej;congr 1;refine decide_eq_decide.2 ?_;simp only[Yt,forall_eq_or_imp,h1,true_and]
noncomputable def rD(T:Tbl)(q:Option (Nat×List AV))(o:DO)(r:List DO)(e:Env)(h:Heap)(clk:Nat)(older:List Heap)(pend:Zcl):Option St:=
 match q with
 | none=>bD (qX (orc T) T o.ao e h (older.take (older.length-o.lo))) fun x=>Zb2 (orc T) T r (Zm e o.ao.dst x.1) h clk older (Ze5 o older.length e x pend)
 | some p=>(Zfu (orc T) T p.1 p.2).bind fun x=>Zb2 (orc T) T r (Zm e o.ao.dst x) h clk older (if older.length<o.hi then (o.hi-older.length,o.ao.op,e,.tup p.2)::pend else pend)
@[simp] theorem zagz{o:DO}{r:List DO}{e:Env}{h:Heap}{clk:Nat}{older:List Heap}{pend:Zcl}:rD T none o r e h clk older pend=bD (qX (orc T) T o.ao e h (older.take (older.length-o.lo))) fun x=>Zb2 (orc T) T r (Zm e o.ao.dst x.1) h clk older (Ze5 o older.length e x pend):=rfl
noncomputable def bAV(o:Option AV)(f:AV→Option St):Option St:=o.bind f
@[simp] theorem zacq{x:AV}{f:AV→Option St}:bAV (some x) f=f x:=rfl
@[simp] theorem zag0{u:Nat}{ys:List AV}{o:DO}{r:List DO}{e:Env}{h:Heap}{clk:Nat}{older:List Heap}{pend:Zcl}:rD T (some (u,ys)) o r e h clk older pend=bAV (Zfu (orc T) T u ys) fun x=>Zb2 (orc T) T r (Zm e o.ao.dst x) h clk older (if older.length<o.hi then (o.hi-older.length,o.ao.op,e,.tup ys)::pend else pend):=rfl
open Classical in
noncomputable def rK(u:Nat)(xs ys:List AV)(older:List Heap):Option (Nat×List AV):=if decide (∀h'∈older,Zb1 h' xs=some ys)=true then some (u,ys) else none
@[simp] theorem zag1{g:Option (Nat×Bool)}{e:Env}{h:Heap}{older:List Heap}:Zg1 g none e h older=none:=by cases g<;>rfl
@[simp] theorem zag2{g:Nat×Bool}{c:Option (Nat×List Opd)}{e:Env}{h:Heap}{older:List Heap}:Zg1 (some g) c e h older=none:=by cases c<;>rfl
noncomputable def rC(c:Bool)(u:Nat)(xs:List AV)(h:Heap)(older:List Heap):Option (Nat×List AV):=
 match c with
 | true=>none
 | false=>(Zb1 h xs).bind fun ys=>rK u xs ys older
@[congr] theorem zacr{c c':Bool}{u:Nat}{xs:List AV}{h:Heap}{older:List Heap}(h1:c=c'):rC c u xs h older=rC c' u xs h older:=by rw[h1]
@[simp] theorem zag3{u:Nat}{xs:List AV}{h:Heap}{older:List Heap}:rC true u xs h older=none:=rfl
@[simp] theorem zacs{u:Nat}{xs:List AV}{h:Heap}{older:List Heap}:rC false u xs h older=(Zb1 h xs).bind fun ys=>rK u xs ys older:=rfl
@[simp] theorem z81{q:Nat×List Opd}{e:Env}{h:Heap}{older:List Heap}:Zg1 none (some q) e h older=rC ((q.2.map (ev e.get)).all noRef) q.1 (q.2.map (ev e.get)) h older:=by
 classical
 unfold Zg1 Zka rC;cases hc:(q.2.map (ev e.get)).all noRef with
 | true=>simp only[hc,if_true,Ye3]
 | false=>
  simp only[hc,Y5,if_false];cases Zb1 h (q.2.map (ev e.get)) with
  | none=>rfl
  | some ys=>
   simp only[Y2,rK];split<;>rfl
noncomputable def dX(T:Tbl)(wr:Bool)(o:DO)(r:List DO)(e:Env)(h:Heap)(clk:Nat)(older:List Heap)(pend:Zcl):Option St:=
 match wr with
 | true=>if o.ao.guard.isNone then bWr (stepW o.ao.op o.ao.dst e.get h clk) fun q=>iP (Zcw pend q.2.1) (Zb2 (orc T) T r (Zm e o.ao.dst q.1) q.2.1 q.2.2 (h::older) (pend.map fun p=>(p.1-1,p.2))) else none
 | false=>rD T (Zg1 o.ao.guard o.ao.op.callN e h (older.take (older.length-o.lo))) o r e h clk older pend
@[congr] theorem z2v{l:List DO}{e e':Env}{h h':Heap}{clk clk':Nat}{older older':List Heap}{pend pend':Zcl}(h1:e=e')(h2:h=h')(h3:clk=clk')(h4:older=older')(h5:pend=pend'):Zb2 (orc T) T l e h clk older pend=Zb2 (orc T) T l e' h' clk' older' pend':=by rw[h1,h2,h3,h4,h5]
@[simp] theorem z82{e:Env}{h:Heap}{clk:Nat}{older:List Heap}{pend:Zcl}:Zb2 (orc T) T [] e h clk older pend=some ⟨e,h,clk⟩:=rfl
@[simp] theorem z6j{o:DO}{r:List DO}{e:Env}{h:Heap}{clk:Nat}{older:List Heap}{pend:Zcl}:Zb2 (orc T) T (o::r) e h clk older pend=dX T o.ao.op.writes o r e h clk older pend:=by
 unfold dX;rw[Zb2];cases o.ao.op.writes with
 | true=>rfl
 | false=>
  unfold rD;simp only;cases Zg1 o.ao.guard o.ao.op.callN e h (older.take (older.length-o.lo))<;>rfl
@[simp] theorem zag4{o:DO}{r:List DO}{e:Env}{h:Heap}{clk:Nat}{older:List Heap}{pend:Zcl}:dX T true o r e h clk older pend=if o.ao.guard.isNone then bWr (stepW o.ao.op o.ao.dst e.get h clk) fun q=>iP (Zcw pend q.2.1) (Zb2 (orc T) T r (Zm e o.ao.dst q.1) q.2.1 q.2.2 (h::older) (pend.map fun p=>(p.1-1,p.2))) else none:=rfl
@[simp] theorem zact{o:DO}{r:List DO}{e:Env}{h:Heap}{clk:Nat}{older:List Heap}{pend:Zcl}:dX T false o r e h clk older pend=rD T (Zg1 o.ao.guard o.ao.op.callN e h (older.take (older.length-o.lo))) o r e h clk older pend:=rfl
def dV(o:Option AV):Option (AV×Bool):=o.map fun x=>(x,true)
@[simp] theorem zag5{x:AV}:dV (some x)=some (x,true):=rfl
@[simp] theorem zag6:dV none=none:=rfl
@[simp] theorem zag7{op:AOp}{e:Env}{h:Heap}{older:List Heap}:qX (orc T) T ⟨d,none,op⟩ e h older=dV (opD (orc T) T op e h older):=rfl
noncomputable def gD(T:Tbl)(x:AV)(want:Bool)(op:AOp)(e:Env)(h:Heap)(older:List Heap):Option (AV×Bool):=
 match x with
 | .b v=>if v=want then dV (opD (orc T) T op e h older) else some (.tup [],false)
 | .tup []=>some (.tup [],false)
 | _=>none
@[congr] theorem zacu{x x':AV}{want:Bool}{op:AOp}{e:Env}{h:Heap}{older:List Heap}(h1:x=x'):gD T x want op e h older=gD T x' want op e h older:=by rw[h1]
@[simp] theorem zag8{t:Nat}{want:Bool}{op:AOp}{e:Env}{h:Heap}{older:List Heap}:qX (orc T) T ⟨d,some (t,want),op⟩ e h older=gD T (e.get t) want op e h older:=rfl
@[simp] theorem gD_b{v want:Bool}{op:AOp}{e:Env}{h:Heap}{older:List Heap}:gD T (.b v) want op e h older=if v=want then dV (opD (orc T) T op e h older) else some (.tup [],false):=rfl
@[simp] theorem zaki{want:Bool}{op:AOp}{e:Env}{h:Heap}{older:List Heap}:gD T (.tup []) want op e h older=some (.tup [],false):=rfl
noncomputable def dC(o:Option AV)(op:AOp)(older:List Heap)(e:Env):Option AV:=o.bind fun x=>if Zej op e older x then some x else none
@[congr] theorem zacv{o o':Option AV}{op:AOp}{older:List Heap}{e:Env}(h1:o=o'):dC o op older e=dC o' op older e:=by rw[h1]
@[simp] theorem zakj{x:AV}{op:AOp}{e:Env}:dC (some x) op [] e=some x:=by
 unfold dC;rw[Y2,zu9]
 rfl
theorem z2w{x:AV}{op:AOp}{h:Heap}{older:List Heap}{e:Env}(h1:Zg op e.get h=some x):dC (some x) op (h::older) e=dC (some x) op older e:=by
 unfold dC;rw[Y2,Y2,zrt h1]
theorem zbm{op:AOp}{h:Heap}{older:List Heap}{e:Env}(hf:op.free=true):((Zg op e.get h).bind fun x=>if Zej op e older x then some x else none)=Zg op e.get h:=by
 cases Zg op e.get h with
 | none=>rfl
 | some x=>rw[Y2,zrs hf];rfl
@[simp] theorem zame{x}{e:Env}{h:Heap}{older:List Heap}:opD (orc T) T (.mov x) e h older=some (ev e.get x):=zbm (op:=.mov x) (h:=h) (older:=older) (e:=e) rfl
@[simp] theorem zamf{z y}{e:Env}{h:Heap}{older:List Heap}:opD (orc T) T (.app z (.c (.sl [] .nl)) y) e h older=Zgc z (ev e.get y):=rfl
@[simp] theorem zacw{z:Nat}{els:List (List AV)}{f:Fl}:Zgc z (.sl els f)=if (els.head?.all fun r=>r.length=z)∧els.length≤4294967296 then some (.sl els .an) else none:=rfl
@[simp] theorem z07{z n y}:(AOp.app z (.t n) y).writes=true:=rfl
@[simp] theorem z6k{z n y}:(AOp.app z (.t n) y).free=false:=rfl
@[simp] theorem z2x{z n y}:(AOp.app z (.t n) y).maker=true:=rfl
@[simp] theorem z6l{z y}:(AOp.app z (.c (.sl [] .nl)) y).writes=false:=rfl
@[simp] theorem zacx{z y}:(AOp.app z (.c (.sl [] .nl)) y).free=true:=rfl
@[simp] theorem z83{z y}:(AOp.app z (.c (.sl [] .nl)) y).maker=false:=rfl
@[simp] theorem zakk{c a b}{e:Env}{h:Heap}{older:List Heap}:opD (orc T) T (.pick c a b) e h older=Zgn (ev e.get c) (ev e.get a) (ev e.get b):=zbm (op:=.pick c a b) (h:=h) (older:=older) (e:=e) rfl
@[simp] theorem zag9{zs ps}{e:Env}{h:Heap}{older:List Heap}:opD (orc T) T (.build zs ps) e h older=(Zga zs (ps.map fun p=>(p.1,p.2.1,ev e.get p.2.2))).map .agg:=zbm (op:=.build zs ps) (h:=h) (older:=older) (e:=e) rfl
@[simp] theorem zamg{o x y}{e:Env}{h:Heap}{older:List Heap}:opD (orc T) T (.bin o x y) e h older=Z9 o (ev e.get x) (ev e.get y):=zbm (op:=.bin o x y) (h:=h) (older:=older) (e:=e) rfl
@[simp] theorem zamh{g ls x y}{e:Env}{h:Heap}{older:List Heap}:opD (orc T) T (.eqs g ls x y) e h older=Zhl g ls (ev e.get x) (ev e.get y):=zbm (op:=.eqs g ls x y) (h:=h) (older:=older) (e:=e) rfl
@[simp] theorem zaha{g x}{e:Env}{h:Heap}{older:List Heap}:opD (orc T) T (.eqnil g x) e h older=Ze3 g (ev e.get x):=zbm (op:=.eqnil g x) (h:=h) (older:=older) (e:=e) rfl
@[simp] theorem zami{g x y}{e:Env}{h:Heap}{older:List Heap}:opD (orc T) T (.eqb g x y) e h older=Zhm g (ev e.get x) (ev e.get y):=zbm (op:=.eqb g x y) (h:=h) (older:=older) (e:=e) rfl
@[simp] theorem D_un{o x}{e:Env}{h:Heap}{older:List Heap}:opD (orc T) T (.un o x) e h older=Zgo o (ev e.get x):=zbm (op:=.un o x) (h:=h) (older:=older) (e:=e) rfl
@[simp] theorem zakl{k x}{e:Env}{h:Heap}{older:List Heap}:opD (orc T) T (.conv k x) e h older=Zbr k (ev e.get x):=zbm (op:=.conv k x) (h:=h) (older:=older) (e:=e) rfl
@[simp] theorem zahb{x lo hi}{e:Env}{h:Heap}{older:List Heap}:opD (orc T) T (.slstr x lo hi) e h older=Ze4 (ev e.get x) (evO e.get lo) (evO e.get hi):=zbm (op:=.slstr x lo hi) (h:=h) (older:=older) (e:=e) rfl
@[simp] theorem zamj{o n x}{e:Env}{h:Heap}{older:List Heap}:opD (orc T) T (.fld o n x) e h older=Zhn o n (ev e.get x):=zbm (op:=.fld o n x) (h:=h) (older:=older) (e:=e) rfl
@[simp] theorem zamk{x i}{e:Env}{h:Heap}{older:List Heap}:opD (orc T) T (.ixs x i) e h older=Zho (ev e.get x) (ev e.get i):=zbm (op:=.ixs x i) (h:=h) (older:=older) (e:=e) rfl
@[simp] theorem zaml{z l n x i}{e:Env}{h:Heap}{older:List Heap}:opD (orc T) T (.ixa z l n x i) e h older=Zhp z l n (ev e.get x) (ev e.get i):=zbm (op:=.ixa z l n x i) (h:=h) (older:=older) (e:=e) rfl
@[simp] theorem zakm{x}{e:Env}{h:Heap}{older:List Heap}:opD (orc T) T (.lens x) e h older=Zfz (ev e.get x):=zbm (op:=.lens x) (h:=h) (older:=older) (e:=e) rfl
@[simp] theorem zakn{n}{e:Env}{h:Heap}{older:List Heap}:opD (orc T) T (.lenc n) e h older=some (.i .i64 n):=zbm (op:=.lenc n) (h:=h) (older:=older) (e:=e) rfl
@[simp] theorem D_mm{m xs}{e:Env}{h:Heap}{older:List Heap}:opD (orc T) T (.mm m xs) e h older=Zjz m (xs.map (ev e.get)):=zbm (op:=.mm m xs) (h:=h) (older:=older) (e:=e) rfl
@[simp] theorem zamm{x n}{e:Env}{h:Heap}{older:List Heap}:opD (orc T) T (.ext x n) e h older=Zhq n (ev e.get x):=zbm (op:=.ext x n) (h:=h) (older:=older) (e:=e) rfl
@[simp] theorem zako{n x}{e:Env}{h:Heap}{older:List Heap}:opD (orc T) T (.load n x) e h older=dC (Zes n h (ev e.get x)) (.load n x) older e:=rfl
@[simp] theorem zamn{z x lo hi mx}{e:Env}{h:Heap}{older:List Heap}:opD (orc T) T (.slc z x lo hi mx) e h older=dC (Zgb z h (ev e.get x) (evO e.get lo) (evO e.get hi) (evO e.get mx)) (.slc z x lo hi mx) older e:=rfl
@[simp] theorem zamo{o x}{e:Env}{h:Heap}{older:List Heap}:opD (orc T) T (.fad o x) e h older=dC (Zgp o h (ev e.get x)) (.fad o x) older e:=rfl
@[simp] theorem zamp{z x i}{e:Env}{h:Heap}{older:List Heap}:opD (orc T) T (.iad z x i) e h older=dC (Zgq z h (ev e.get x) (ev e.get i)) (.iad z x i) older e:=rfl
@[simp] theorem zamq{z n x i}{e:Env}{h:Heap}{older:List Heap}:opD (orc T) T (.iaa z n x i) e h older=dC (Zgr z n h (ev e.get x) (ev e.get i)) (.iaa z n x i) older e:=rfl
@[simp] theorem zamr{x}{e:Env}{h:Heap}{older:List Heap}:opD (orc T) T (.len x) e h older=dC (Zgs h (ev e.get x)) (.len x) older e:=rfl
@[simp] theorem zakp{x}{e:Env}{h:Heap}{older:List Heap}:opD (orc T) T (.nilc x) e h older=dC (Zfh h (ev e.get x)) (.nilc x) older e:=rfl
def dR(r:Option AV)(xs:List AV):Option AV:=if xs.all noRef then r else none
@[congr] theorem zacy{r r':Option AV}{xs:List AV}(h1:r=r'):dR r xs=dR r' xs:=by rw[h1]
@[simp] theorem zahc{r:AV}{xs:List AV}:dR (some r) xs=if xs.all noRef then some r else none:=rfl
theorem zaj{u:Nat}{args:List Opd}{np nt:Nat}{res:List RV}{b:AX}{ex:Bool}{e:Env}{h:Heap}{older:List Heap}(hT:T u=some ⟨np,nt,res,b,none,ex⟩) :
  opD (orc T) T (.call u args) e h older=dR (Za T u ((args.map (ev e.get)).map (wkIf ex))) (args.map (ev e.get)):=by
 unfold dR Za;simp only[opD,hT,Option.isNone_none,Yd3]
@[simp] theorem zams{z zs n ps}{e:Env}{h:Heap}{older:List Heap}:opD (orc T) T (.bsl z zs n ps) e h older=if (ps.map fun p=>(p.1,ev e.get p.2)).all (fun p=>noRef p.2) then (Zd2 z zs n [] (ps.map fun p=>(p.1,ev e.get p.2))).map (·.1) else none:=rfl
@[congr] theorem z2y{tl l:List AO}{e e':Env}{h h':Heap}{clk clk':Nat}(h1:e=e')(h2:h=h')(h3:clk=clk'):Zdk (orc T) T tl l e h clk=Zdk (orc T) T tl l e' h' clk':=by rw[h1,h2,h3]
@[simp] theorem z84{tl:List AO}{e:Env}{h:Heap}{clk:Nat}:Zdk (orc T) T tl [] e h clk=Zds (orc T) T tl ⟨e,h,clk⟩:=rfl
@[simp] theorem z6m{tl r:List AO}{o:AO}{e:Env}{h:Heap}{clk:Nat}:Zdk (orc T) T tl (o::r) e h clk=bD (qX (orc T) T o e h []) fun x=>Zdk (orc T) T tl r (Zm e o.dst x.1) h clk:=rfl
@[simp] theorem z85{tl:List AO}{h0:Heap}{c0:Nat}{X:Heap}{e:Env}{h:Heap}{clk:Nat}:Zbh (orc T) T tl h0 c0 X [] e h clk=Zds (orc T) T tl ⟨e,h,clk⟩:=rfl
noncomputable def kM(T:Tbl)(tl:List AO)(h0:Heap)(c0:Nat)(X:Heap)(op:AOp)(d:Nat)(r:List AO)(e:Env)(h:Heap)(q:Option (AV×Heap×Nat)):Option St:=
 q.bind fun q=>if ((h.lookup (.loc d)).isNone&&Zib c0 op e q.2.1)=true then Zbh (orc T) T tl h0 c0 X r (Zm e (some d) q.1) (q.2.1++h) q.2.2 else none
@[simp] theorem zahd{tl:List AO}{h0:Heap}{c0:Nat}{X:Heap}{op:AOp}{d:Nat}{r:List AO}{e:Env}{h:Heap}{q:AV×Heap×Nat}:kM T tl h0 c0 X op d r e h (some q)=if ((h.lookup (.loc d)).isNone&&Zib c0 op e q.2.1)=true then Zbh (orc T) T tl h0 c0 X r (Zm e (some d) q.1) (q.2.1++h) q.2.2 else none:=rfl
noncomputable def kN(T:Tbl)(tl:List AO)(h0:Heap)(c0:Nat)(X:Heap)(op:AOp)(d:Nat)(r:List AO)(e:Env)(h:Heap)(q:Option (AV×Heap×Nat)):Option St:=
 q.bind fun q=>if Zib c0 op e (q.2.1.take 1)=true then Zbh (orc T) T tl h0 c0 X r (Zm e (some d) q.1) (q.2.1.take 1++h) q.2.2 else none
@[simp] theorem zahe{tl:List AO}{h0:Heap}{c0:Nat}{X:Heap}{op:AOp}{d:Nat}{r:List AO}{e:Env}{h:Heap}{q:AV×Heap×Nat}:kN T tl h0 c0 X op d r e h (some q)=if Zib c0 op e (q.2.1.take 1)=true then Zbh (orc T) T tl h0 c0 X r (Zm e (some d) q.1) (q.2.1.take 1++h) q.2.2 else none:=rfl
noncomputable def uX(T:Tbl)(w:Option (BId×Box))(tl:List AO)(h0:Heap)(c0:Nat)(X:Heap)(op:AOp)(d:Nat)(r:List AO)(e:Env)(h:Heap)(clk:Nat):Option St:=
 match w with
 | none=>kM T tl h0 c0 X op d r e h (stepW op (some d) e.get [] clk)
 | some p=>kN T tl h0 c0 X op d r e h (stepW op (some d) e.get [p] clk)
@[simp] theorem zahf{tl:List AO}{h0:Heap}{c0:Nat}{X:Heap}{op:AOp}{d:Nat}{r:List AO}{e:Env}{h:Heap}{clk:Nat}:uX T none tl h0 c0 X op d r e h clk=kM T tl h0 c0 X op d r e h (stepW op (some d) e.get [] clk):=rfl
@[simp] theorem zahg{tl:List AO}{h0:Heap}{c0:Nat}{X:Heap}{op:AOp}{d:Nat}{r:List AO}{e:Env}{h:Heap}{clk:Nat}{p:BId×Box}:uX T (some p) tl h0 c0 X op d r e h clk=kN T tl h0 c0 X op d r e h (stepW op (some d) e.get [p] clk):=rfl
@[simp] theorem z6n{c0:Nat}{h0 X h:Heap}{zs:List AV}{e:Env}:Zic c0 h0 X h (.alloc zs) e=none:=rfl
@[simp] theorem zacz{c0:Nat}{h0 X h:Heap}{z:Nat}{zs:List AV}{l c:Opd}{e:Env}:Zic c0 h0 X h (.mks z zs l c) e=none:=rfl
@[simp] theorem zac0{c0:Nat}{h0 X h:Heap}{k:XOp}{xs:List Opd}{e:Env}:Zic c0 h0 X h (.xop k xs) e=none:=rfl
@[simp] theorem zac1{c0:Nat}{h0 X h:Heap}{z:Nat}{x y:Opd}{e:Env}:Zic c0 h0 X h (.app z x y) e=Zjn c0 h0 X h (ev e.get x):=rfl
@[simp] theorem zahh{c0:Nat}{h0 X h:Heap}{l:List (List AV)}{f:Fl}:Zjn c0 h0 X h (.sl l f)=none:=rfl
@[simp] theorem zahi{c0:Nat}{h0 X h:Heap}{b:BId}{g z o n:Nat}:Zjn c0 h0 X h (.bs b g z o n)=Zkb c0 (h0.lookup b) (X.lookup b) b (h.lookup b):=rfl
@[simp] theorem z86{c0:Nat}{b:BId}{x o:Box}:Zkb c0 none (some x) b (some o)=if o.gen<c0 then some (b,o) else none:=rfl
attribute [simp] Zls
@[simp] theorem z87{e:Env}:Zew [] e=[]:=rfl
@[simp] theorem z6o{o:AO}{r:List AO}{e:Env}:Zew (o::r) e=match o.op with | .mov x=>Zew r (Zm e o.dst (ev e.get x)) | .app _ x _=>Zls (ev e.get x)++Zew r (Zm e o.dst .dead) | _=>Zew r (Zm e o.dst .dead):=rfl
@[simp] theorem z2z{h:Heap}:Ze6 [] h=h:=rfl
@[simp] theorem z08{b:BId}{ids:List BId}{h:Heap}:Ze6 (b::ids) h=h.filter fun p=>!(b::ids).contains p.1:=rfl
noncomputable def kB(T:Tbl)(tl:List AO)(h0:Heap)(c0:Nat)(X:Heap)(d:Nat)(r:List AO)(e:Env)(h:Heap)(q:Option (AV×Heap×Nat)):Option St:=
 q.bind fun q=>if q.2.1.all (fun p=>(h.lookup p.1).isNone)=true then Zbh (orc T) T tl h0 c0 X r (Zm e (some d) q.1) (q.2.1++h) q.2.2 else none
@[simp] theorem zahj{tl:List AO}{h0:Heap}{c0:Nat}{X:Heap}{d:Nat}{r:List AO}{e:Env}{h:Heap}{q:AV×Heap×Nat}:kB T tl h0 c0 X d r e h (some q)=if q.2.1.all (fun p=>(h.lookup p.1).isNone)=true then Zbh (orc T) T tl h0 c0 X r (Zm e (some d) q.1) (q.2.1++h) q.2.2 else none:=rfl
noncomputable def lX(T:Tbl)(b:Option (Nat×List Opd))(tl:List AO)(h0:Heap)(c0:Nat)(X:Heap)(o:AO)(r:List AO)(e:Env)(h:Heap)(clk:Nat):Option St:=
 match b with
 | some ua=>
  match o.guard,o.dst with
  | none,some d=>kB T tl h0 c0 X d r e h (Zfe (orc T) T ua.1 (ua.2.map (ev e.get)) d clk)
  | _,_=>none
 | none=>bD (qX (orc T) T o e h0 []) fun x=>if Zg3 c0 o.op e (gnA x.1)=true then Zbh (orc T) T tl h0 c0 X r (Zm e o.dst x.1) h clk else none
@[simp] theorem zahk{tl r:List AO}{h0:Heap}{c0:Nat}{X:Heap}{op:AOp}{dd u:Nat}{args:List Opd}{e:Env}{h:Heap}{clk:Nat}:lX T (some (u,args)) tl h0 c0 X ⟨some dd,none,op⟩ r e h clk=kB T tl h0 c0 X dd r e h (Zfe (orc T) T u (args.map (ev e.get)) dd clk):=rfl
@[simp] theorem zahl{tl r:List AO}{h0:Heap}{c0:Nat}{X:Heap}{o:AO}{e:Env}{h:Heap}{clk:Nat}:lX T none tl h0 c0 X o r e h clk=bD (qX (orc T) T o e h0 []) fun x=>if Zg3 c0 o.op e (gnA x.1)=true then Zbh (orc T) T tl h0 c0 X r (Zm e o.dst x.1) h clk else none:=rfl
noncomputable def tX(T:Tbl)(tl:List AO)(h0:Heap)(c0:Nat)(X:Heap)(r:List AO)(b:Bool)(e:Env)(q:Option Heap)(clk:Nat):Option St:=
 q.bind fun h=>if b=true then Zbh (orc T) T tl h0 c0 X r e h clk else none
@[simp] theorem zahm{tl:List AO}{h0:Heap}{c0:Nat}{X:Heap}{r:List AO}{e:Env}{h:Heap}{clk:Nat}:tX T tl h0 c0 X r true e (some h) clk=Zbh (orc T) T tl h0 c0 X r e h clk:=rfl
noncomputable def sX(T:Tbl)(b:Bool)(tl:List AO)(h0:Heap)(c0:Nat)(X:Heap)(o:AO)(r:List AO)(e:Env)(h:Heap)(clk:Nat):Option St:=
 match b with
 | true=>
  match o.guard,o.dst with
  | none,none=>(stepW o.op none e.get h clk).bind fun q=>if Zf2 X o.op e=true then Zbh (orc T) T tl h0 c0 X r e q.2.1 q.2.2 else none
  | _,_=>none
 | false=>lX T o.op.lentN tl h0 c0 X o r e h clk
@[simp] theorem zahn{tl r:List AO}{h0:Heap}{c0:Nat}{X:Heap}{n:Nat}{x v:Opd}{e:Env}{h:Heap}{clk:Nat}:sX T true tl h0 c0 X ⟨none,none,.store n x v⟩ r e h clk=tX T tl h0 c0 X r (Zf2 X (.store n x v) e) e (Zc0 n h (ev e.get x) (ev e.get v)) clk:=by
 unfold sX tX;simp only[stepW];cases Zc0 n h (ev e.get x) (ev e.get v)<;>rfl
@[simp] theorem zac2{tl r:List AO}{h0:Heap}{c0:Nat}{X:Heap}{o:AO}{e:Env}{h:Heap}{clk:Nat}:sX T false tl h0 c0 X o r e h clk=lX T o.op.lentN tl h0 c0 X o r e h clk:=rfl
noncomputable def Zlt(r:Option (AV×Heap))(d clk:Nat):Option (AV×Heap×Nat):=
 r.bind fun r=>
  let hb':=r.2.map fun p=>(Za4 [] d p.1,Zan true (Za4 [] d) (Zbd [] clk) p.2)
  let r':=rlA (Za4 [] d) (Zbd [] clk) r.1
  if (hb'.map (·.1)).Nodup∧geB clk (gnA r')=true∧geH clk hb'=true then some (r',hb',clk+(r.2.length+2)) else none
@[simp] theorem z22{r:AV×Heap}{dd clk:Nat}:Zlt (some r) dd clk=if ((r.2.map fun p=>(Za4 [] dd p.1,Zan true (Za4 [] dd) (Zbd [] clk) p.2)).map (·.1)).Nodup∧geB clk (gnA (rlA (Za4 [] dd) (Zbd [] clk) r.1))=true∧geH clk (r.2.map fun p=>(Za4 [] dd p.1,Zan true (Za4 [] dd) (Zbd [] clk) p.2))=true then some (rlA (Za4 [] dd) (Zbd [] clk) r.1,r.2.map fun p=>(Za4 [] dd p.1,Zan true (Za4 [] dd) (Zbd [] clk) p.2),clk+(r.2.length+2)) else none:=rfl
noncomputable def mX(T:Tbl)(b:Bool)(tl:List AO)(h0:Heap)(c0:Nat)(X:Heap)(o:AO)(r:List AO)(e:Env)(h:Heap)(clk:Nat):Option St:=
 match b with
 | true=>
  match o.guard,o.dst with
  | none,some d=>uX T (Zic c0 h0 X h o.op e) tl h0 c0 X o.op d r e h clk
  | _,_=>none
 | false=>sX T o.op.isStore tl h0 c0 X o r e h clk
@[simp] theorem z6p{tl r:List AO}{h0:Heap}{c0:Nat}{X:Heap}{o:AO}{e:Env}{h:Heap}{clk:Nat}:Zbh (orc T) T tl h0 c0 X (o::r) e h clk=mX T (AOp.maker o.op) tl h0 c0 X o r e h clk:=by
 unfold mX;simp only[Zbh];cases AOp.maker o.op with
 | false=>
  unfold sX;simp only;cases AOp.isStore o.op with
  | true=>
   obtain⟨dd,g,op⟩:=o;cases g<;>cases dd<;>rfl
  | false=>
   unfold lX;simp only;cases AOp.lentN o.op with
   | none=>rfl
   | some ua=>
    obtain⟨dd,g,op⟩:=o;cases g<;>cases dd<;>rfl
 | true=>
  obtain⟨dd,g,op⟩:=o;cases g<;>cases dd<;>rfl
@[simp] theorem zaho{tl r:List AO}{h0:Heap}{c0:Nat}{X:Heap}{op:AOp}{dd:Nat}{e:Env}{h:Heap}{clk:Nat}:mX T true tl h0 c0 X ⟨some dd,none,op⟩ r e h clk=uX T (Zic c0 h0 X h op e) tl h0 c0 X op dd r e h clk:=rfl
@[simp] theorem zac3{tl r:List AO}{h0:Heap}{c0:Nat}{X:Heap}{o:AO}{e:Env}{h:Heap}{clk:Nat}:mX T false tl h0 c0 X o r e h clk=sX T o.op.isStore tl h0 c0 X o r e h clk:=rfl
@[simp] theorem zahp{hd tl:List AO}:evX (orc T) T k (.drawM hd tl) st=stX (Zbh (orc T) T tl (Ze6 (Zew hd st.env) st.heap) st.clk st.heap hd st.env st.heap st.clk):=rfl
@[simp] theorem zamt{n x}:opX (orc T) T (.ifc n x) d st=some ⟨Zm st.env d (.ifc (Zo T n) (ev st.env.get x)),st.heap,st.clk⟩:=rfl
noncomputable def iS(T:Tbl)(x:AV)(nm:String)(n u:Nat)(args:List AV)(d:Option Nat)(st:St):Option St:=
 match x with
 | .ifc t y=>if t=Zo T n∧(nm,u)∈Zcj T n then Zc (orc T) T u (y::args) d st else none
 | .fnv f x=>if nm="()"∧f=Zo T n∧Zhj T n=some u then Zc (orc T) T u (x::args) d st else none
 | .fnp f id g z i o=>if nm="()"∧f=Zo T n∧Zhj T n=some u then Zc (orc T) T u (args++[.ptr id g z i o]) d st else none
 | _=>none
@[simp] theorem zamu{nm n u r args}:opX (orc T) T (.inv nm n u r args) d st=iS T (ev st.env.get r) nm n u (args.map (ev st.env.get)) d st:=by
 simp only[opX];cases ev st.env.get r<;>rfl
@[simp] theorem zamv{n x}{e:Env}{h:Heap}{older:List Heap}:opD (orc T) T (.ifc n x) e h older=some (.ifc (Zo T n) (ev e.get x)):=rfl
noncomputable def dI(T:Tbl)(u:Nat)(xs:List AV):Option AV:=
 match T u with
 | none=>none
 | some af=>if (af.lent.isNone&&xs.all noRef)=true then ((orc T).call u (xs.map (wkIf af.exact)) []).map (·.1) else none
noncomputable def iD(T:Tbl)(x:AV)(nm:String)(n u:Nat)(args:List AV):Option AV:=
 match x with
 | .ifc t y=>if t=Zo T n∧(nm,u)∈Zcj T n then dI T u (drp1 y::args) else none
 | _=>none
@[simp] theorem zamw{nm n u r args}{e:Env}{h:Heap}{older:List Heap}:opD (orc T) T (.inv nm n u r args) e h older=iD T (ev e.get r) nm n u (args.map (ev e.get)):=by
 simp only[opD];cases ev e.get r<;>rfl
@[simp] theorem zahq{hd tl:List AO}:evX (orc T) T k (.drawT hd tl) st=stX (Zdk (orc T) T tl hd st.env st.heap st.clk):=rfl
attribute [simp] Ze5 Za8 Zik Zjd Zi2 Zh8 Zh9 ghS Zda Zck Zk5 Zd7 Zcv Zch kids Zan
attribute [simp] gnA gnR Zg3 Zib Zfk Zee AOp.maker drp1 drpC AOp.lentN AOp.isStore Zf2 geB geH
attribute [simp] AOp.writes AOp.free Zgb Ze8 Zfc Zc0 Zec Zgd
attribute [simp] AOp.callN Zg2 Zb1 Zh7 shR
end
end Go.Ab
end
section
namespace Go.Ab
open Go.RowKit
def Zgg(a b:Nat):Nat:=(((a:Int)-b)%4294967296).toNat
def Zdo(a b:Nat):Nat:=(((a:Int)-b)%18446744073709551616).toNat
def Zkf(a b:Nat):Nat:=(((a:Int)-b)%256).toNat
theorem zeu{a b:Nat}(h:b≤a)(h2:a<18446744073709551616):Zdo a b=a-b:=by unfold Zdo;omega
theorem z23{a b:Nat}(h:b≤a)(h2:a<256):Zkf a b=a-b:=by unfold Zkf;omega
theorem zva(n:Int):IntKind.wrap .u32 n=(((n%4294967296).toNat:Nat):Int):=by
 simp[IntKind.wrap,IntKind.signed,IntKind.bits];omega
theorem zh3(n:Int):IntKind.wrap .u64 n=(((n%18446744073709551616).toNat:Nat):Int):=by
 simp[IntKind.wrap,IntKind.signed,IntKind.bits];omega
theorem zy0(n:Int):IntKind.wrap .u8 n=(((n%256).toNat:Nat):Int):=by
 simp[IntKind.wrap,IntKind.signed,IntKind.bits];omega
@[simp] theorem z88(n:Int)(h1:-9223372036854775808≤n)(h2:n<9223372036854775808):IntKind.wrap .i64 n=n:=zac n ⟨h1,h2⟩
@[simp] theorem z6q(a b:Nat):((a:Int)+(b:Int)).toNat=a+b:=by omega
@[simp] theorem z24(a b:Nat):(0:Int)≤(a:Int)+(b:Int):=by omega
@[simp] theorem z25(a:Nat):(0:Int)≤(a:Int)+1:=by omega
@[simp] theorem z26(a b:Nat):((a:Int)+(b:Int)+1).toNat=a+b+1:=by omega
@[simp] theorem z09(a b:Nat):(0:Int)≤(a:Int)+(b:Int)+1:=by omega
section
variable(a b:Nat)(k:IntKind)(n:Int)
@[simp] theorem zamx:Z9 .add (u32 a) (u32 b)=some (u32 ((a+b)%4294967296)):=by
 simp only[u32,zpu,←Ye4,zc3]
@[simp] theorem zamy:Z9 .add (u64 a) (u64 b)=some (u64 ((a+b)%18446744073709551616)):=by
 simp only[u64,zpu,←Ye4,zet]
@[simp] theorem zamz:Z9 .mul (u32 a) (u32 b)=some (u32 ((a*b)%4294967296)):=by
 simp only[u32,zpv,←Yez,zc3]
@[simp] theorem zam0:Z9 .mul (u64 a) (u64 b)=some (u64 ((a*b)%18446744073709551616)):=by
 simp only[u64,zpv,←Yez,zet]
@[simp] theorem zakq:Z9 .sub (u32 a) (u32 b)=some (u32 (Zgg a b)):=by
 simp only[u32,zkp,zva,Zgg]
@[simp] theorem zakr:Z9 .sub (u64 a) (u64 b)=some (u64 (Zdo a b)):=by
 simp only[u64,zkp,zh3,Zdo]
@[simp] theorem zam1:Z9 .sub (u8 a) (u8 b)=some (u8 (Zkf a b)):=by
 simp only[u8,zkp,zy0,Zkf]
theorem zqc:((a:Int).tdiv (b:Int))=((a/b:Nat):Int):=by rw[Int.ofNat_tdiv]
theorem zqd:((a:Int).tmod (b:Int))=((a%b:Nat):Int):=by rw[Int.ofNat_tmod]
@[simp] theorem zam2:Z9 .quo (u32 a) (u32 b)=if b=0 then none else some (u32 (a/b%4294967296)):=by
 simp only[u32,zpw,zqc,zc3,Ydc]
@[simp] theorem zam3:Z9 .quo (u64 a) (u64 b)=if b=0 then none else some (u64 (a/b%18446744073709551616)):=by
 simp only[u64,zpw,zqc,zet,Ydc]
@[simp] theorem zam4:Z9 .rem (u32 a) (u32 b)=if b=0 then none else some (u32 (a%b)):=by
 simp only[u32,zpx,zqd,Ydc]
@[simp] theorem zam5:Z9 .rem (u64 a) (u64 b)=if b=0 then none else some (u64 (a%b)):=by
 simp only[u64,zpx,zqd,Ydc]
theorem bvn(w:Nat):(BitVec.ofInt w (a:Int)).toNat=a%2^w:=by simp
@[simp] theorem or32:Z9 .or (u32 a) (u32 b)=some (u32 ((a ||| b)%4294967296)):=by
 have h:=Nat.or_mod_two_pow (a:=a) (b:=b) (n:=32);have e:((BitVec.ofInt 32 (a:Int) ||| BitVec.ofInt 32 (b:Int)).toNat)=(a ||| b)%2^32:=by rw[BitVec.toNat_or,bvn,bvn,←h]
 show some (AV.i .u32 (IntKind.wrap .u32 (((BitVec.ofInt 32 (a:Int) ||| BitVec.ofInt 32 (b:Int)).toNat:Nat):Int)))=_;rw[e,zc3];simp[u32]
@[simp] theorem or64:Z9 .or (u64 a) (u64 b)=some (u64 ((a ||| b)%18446744073709551616)):=by
 have h:=Nat.or_mod_two_pow (a:=a) (b:=b) (n:=64);have e:((BitVec.ofInt 64 (a:Int) ||| BitVec.ofInt 64 (b:Int)).toNat)=(a ||| b)%2^64:=by rw[BitVec.toNat_or,bvn,bvn,←h]
 show some (AV.i .u64 (IntKind.wrap .u64 (((BitVec.ofInt 64 (a:Int) ||| BitVec.ofInt 64 (b:Int)).toNat:Nat):Int)))=_;rw[e,zet];simp[u64]
theorem zms(m:Nat):((a:Int)*2^m)=((a*2^m:Nat):Int):=by simp
theorem zjt(m:Nat):((a:Int).fdiv (2^m))=((a/2^m:Nat):Int):=by
 rw[Yee _ (Int.pow_nonneg (by decide))];simp
@[simp] theorem zam6:Z9 .shl (u32 a) (.i k n)=if n<0 then none else some (u32 (a*2^(min n.toNat 32)%4294967296)):=by
 simp only[u32,Z9,IntKind.bits,zms,zc3]
@[simp] theorem zahr:Z9 .shl (u64 a) (.i k n)=if n<0 then none else some (u64 (a*2^(min n.toNat 64)%18446744073709551616)):=by
 simp only[u64,Z9,IntKind.bits,zms,zet]
@[simp] theorem zam7:Z9 .shr (u32 a) (.i k n)=if n<0 then none else some (u32 (a/2^(min n.toNat 32))):=by
 simp only[u32,Z9,IntKind.bits,zjt]
@[simp] theorem zahs:Z9 .shr (u64 a) (.i k n)=if n<0 then none else some (u64 (a/2^(min n.toNat 64))):=by
 simp only[u64,Z9,IntKind.bits,zjt]
@[simp] theorem z1a:¬ ((b:Int)<0):=by omega
@[simp] theorem zaks:Z9 .shl (u64 a) (u64 b)=some (u64 (a*2^(min b 64)%18446744073709551616)):=by
 rw[show u64 b=.i .u64 (b:Int) from rfl,zahr,if_neg (z1a b),Yco]
@[simp] theorem zakt:Z9 .shr (u64 a) (u64 b)=some (u64 (a/2^(min b 64))):=by
 rw[show u64 b=.i .u64 (b:Int) from rfl,zahs,if_neg (z1a b),Yco]
@[simp] theorem zam8:Z9 .eql (u32 a) (u32 b)=some (.b (decide (a=b))):=by
 simp only[u32,zpy,Option.some.injEq,AV.b.injEq];rw[Ycb];simp[Ycy]
@[simp] theorem zam9:Z9 .neq (u32 a) (u32 b)=some (.b (!decide (a=b))):=by
 simp only[u32,zpz,Option.some.injEq,AV.b.injEq];rw[Ycb];simp[Ycy]
@[simp] theorem zana:Z9 .lss (u32 a) (u32 b)=some (.b (decide (a<b))):=by simp[u32,zkq]
@[simp] theorem zanb:Z9 .leq (u32 a) (u32 b)=some (.b (decide (a≤b))):=by simp[u32,zp0]
@[simp] theorem zanc:Z9 .gtr (u32 a) (u32 b)=some (.b (decide (b<a))):=by simp[u32,zp1]
@[simp] theorem zand:Z9 .geq (u32 a) (u32 b)=some (.b (decide (b≤a))):=by simp[u32,zp2]
@[simp] theorem zane:Z9 .neq (u64 a) (u64 b)=some (.b (!decide (a=b))):=by
 simp only[u64,zpz,Option.some.injEq,AV.b.injEq];rw[Ycb];simp[Ycy]
@[simp] theorem zanf:Z9 .lss (u64 a) (u64 b)=some (.b (decide (a<b))):=by simp[u64,zkq]
@[simp] theorem eql8:Z9 .eql (u8 a) (u8 b)=some (.b (decide (a=b))):=by
 simp only[u8,zpy,Option.some.injEq,AV.b.injEq];rw[Ycb];simp[Ycy]
@[simp] theorem lss8:Z9 .lss (u8 a) (u8 b)=some (.b (decide (a<b))):=by simp[u8,zkq]
@[simp] theorem leq8:Z9 .leq (u8 a) (u8 b)=some (.b (decide (a≤b))):=by simp[u8,zp0]
@[simp] theorem gtr8:Z9 .gtr (u8 a) (u8 b)=some (.b (decide (b<a))):=by simp[u8,zp1]
@[simp] theorem geq8:Z9 .geq (u8 a) (u8 b)=some (.b (decide (b≤a))):=by simp[u8,zp2]
@[simp] theorem z6r:Zbr .u64 (u32 a)=some (u64 (a%18446744073709551616)):=by simp only[u32,u64,Zbr,zet]
@[simp] theorem z6s:Zbr .u32 (u64 a)=some (u32 (a%4294967296)):=by simp only[u32,u64,Zbr,zc3]
@[simp] theorem z89:Zbr .u32 (u8 a)=some (u32 (a%4294967296)):=by simp only[u32,u8,Zbr,zc3]
@[simp] theorem z9a:Zbr .u8 (u32 a)=some (u8 (a%256)):=by simp only[u32,u8,Zbr,wrap_u8]
@[simp] theorem z9b:Zbr .u64 (.i .i64 n)=some (u64 (n%18446744073709551616).toNat):=by simp only[u64,Zbr,zh3]
@[simp] theorem z9c:Zbr .i64 (u32 a)=some (.i .i64 (IntKind.wrap .i64 a)):=rfl
@[simp] theorem z9d:Zbr .i64 (u64 a)=some (.i .i64 (IntKind.wrap .i64 a)):=rfl
@[simp] theorem zac4:Zbr .i64 (u8 a)=some (.i .i64 (IntKind.wrap .i64 a)):=rfl
@[simp] theorem zac5:Zbr .i64 (.i .i64 n)=some (.i .i64 (IntKind.wrap .i64 n)):=rfl
@[simp] theorem zang:Zgo .neg (u64 a)=some (u64 (Zdo 0 a)):=by simp[u64,Zgo,zh3,Zdo]
@[simp] theorem zanh:Zgo .neg (.i .i64 n)=some (.i .i64 (IntKind.wrap .i64 (0-n))):=rfl
@[simp] theorem zani(t:Bool):Zgo .not (.b t)=some (.b (!t)):=rfl
@[simp] theorem zaku(m:Nat)(y:Int):bnd (u8 m) y=if 0≤(m:Int)∧(m:Int)≤y then some m else none:=rfl
@[simp] theorem zaht(m:Nat)(y:Int):bnd (u32 m) y=if 0≤(m:Int)∧(m:Int)≤y then some m else none:=rfl
@[simp] theorem zahu(m:Nat)(y:Int):bnd (u64 m) y=if 0≤(m:Int)∧(m:Int)≤y then some m else none:=rfl
attribute [simp] Ze4 Zgr Zhp
@[simp] theorem zakv(l:List UInt8):Zho (.s l) (.i k n)=if 0≤n∧n<l.length then (l[n.toNat]?).map fun b=>u8 b.toNat else none:=rfl
@[simp] theorem zac6(k':IntKind)(x y:Int):Zfy .int (.i k x) (.i k' y)=if k=k' then some (x == y) else none:=rfl
end
@[simp] theorem zahv(a b:Nat):u32 a=u32 b↔a=b:=by simp[u32,Ycy]
@[simp] theorem zahw(a b:Nat):u64 a=u64 b↔a=b:=by simp[u64,Ycy]
theorem zal(x:UInt32):x.toNat<4294967296:=x.toNat_lt
@[simp] theorem zahx(x:UInt32):x.toNat<4294967296:=x.toNat_lt
def w32(n:Nat):UInt32:=UInt32.ofNat n
theorem zbh(n:Nat):(w32 n).toNat=n%4294967296:=UInt32.toNat_ofNat' ..
theorem zag{n:Nat}(h:n<4294967296):(w32 n).toNat=n:=by rw[zbh,Yf h]
@[simp] theorem z6t(x:UInt32):w32 x.toNat=x:=UInt32.ofNat_toNat
def Zb(l:List UInt32):List (List AV):=l.map fun x=>[u32 x.toNat]
def ints(l:List Int):List (List AV):=l.map fun x=>[.i .i64 x]
def u8s(l:List UInt8):List (List AV):=l.map fun x=>[u8 x.toNat]
section
variable(l m:List UInt32)(x:UInt32)
@[simp] theorem zac7:Zb []=[]:=rfl
@[simp] theorem zh4:(Zb l).length=l.length:=by simp[Zb]
@[simp] theorem zahy:wkL (Zb l)=Zb l:=by
 rw[zce];simp[Zb,wkR]
@[simp] theorem z9e(n:Nat):(Zb l).take n=Zb (l.take n):=by simp[Zb]
@[simp] theorem z9f(n:Nat):(Zb l).drop n=Zb (l.drop n):=by simp[Zb]
@[simp] theorem z27:Zb l++Zb m=Zb (l++m):=by simp[Zb]
@[simp] theorem z9g(n:Nat)(h:n<4294967296):Zb l++[[u32 n]]=Zb (l++[w32 n]):=by simp[Zb,zag h]
@[simp] theorem u32s_getElem?(i:Nat):(Zb l)[i]? = (l[i]?).map fun x=>[u32 x.toNat]:=by simp[Zb]
@[simp] theorem z1b(i:Nat)(h:i<(Zb l).length):(Zb l)[i]=[u32 (l[i]'(by simpa using h)).toNat]:=by simp[Zb]
theorem za9(i:Nat)(n:Nat)(h:n<4294967296):(Zb l).set i [u32 n]=Zb (l.set i (w32 n)):=by simp[Zb,Yds,zag h]
@[simp] theorem z9h(i n:Nat):(Zb l).set i [u32 (n%4294967296)]=Zb (l.set i (w32 n)):=by simp[Zb,Yds,zbh]
@[simp] theorem zac8(n:Nat):List.replicate n [u32 0]=Zb (List.replicate n 0):=by simp[Zb]
@[simp] theorem z9i(z:Nat):((Zb l).head?.all fun r=>decide (r.length=z))=(l.isEmpty || decide (z=1)):=by
 cases l<;>simp[Zb,eq_comm]
end
end Go.Ab
end
section
namespace Go.Ab
open Go.RowKit
abbrev mv(d s:Nat):AO:=⟨some d,none,.mov (.t s)⟩
abbrev rg(d:Nat)(op:AOp):AO:=⟨some d,none,op⟩
abbrev gd(d t:Nat)(b:Bool)(op:AOp):AO:=⟨some d,some (t,b),op⟩
abbrev so(op:AOp):AO:=⟨none,none,op⟩
section
variable(T:Tbl)(u:Nat)(ex:Bool)(ms:List Bool)(xs:List AV)(d:Option Nat)(st:St)(ps:List Opd)(e:Env)
@[simp] noncomputable def cP:Option St:=bL (Zjp st.heap xs) fun ys=>cR (Za T u (ys.map (wkIf ex))) xs d st
@[simp] noncomputable def cL:Option St:=bL (Zd4 st.heap ms xs) fun ys=>Zdl ys (Zh (Zap ms xs) st.heap) (Zck (Zh (Zap ms xs) st.heap) 40 (Zb8 ms xs) []) T u ex d st
@[simp] noncomputable def dP:Option AV:=dR (Za T u ((ps.map (ev e.get)).map (wkIf ex))) (ps.map (ev e.get))
end
section
variable{T:Tbl}{k:Nat}
theorem zay{id:Nat}{g2:Gh}{c:AX}(S:Nat→St)(n:Nat)(G:Option (Ex×St))(step:∀i,i<n→evX (orc T) T k c (S i)=some (.n,S (i+1)))
  (fin:Zey (evX (orc T) T k c (S n))=true∧Zex k id g2 (evX (orc T) T k c (S n))=G):Zf T k id g2 c (S 0)=G:=
 zaq S (fun i=>i≤n) (fun i=>n-i) (fun _=>G) (by
  intro i hi;by_cases h:i<n
  ·exact .inl ⟨i+1,h,by show n-(i+1)<n-i;omega,step i h,rfl⟩
  ·have:i=n:=by omega
   subst this;exact .inr fin) 0 (Yp _)
theorem za0{id:Nat}{g2:Gh}{c:AX}(S:Nat→St)(n:Nat)(G:Nat→Option (Ex×St))
  (step:∀i,i<n→(evX (orc T) T k c (S i)=some (.n,S (i+1))∧G (i+1)=G i)∨(Zey (evX (orc T) T k c (S i))=true∧Zex k id g2 (evX (orc T) T k c (S i))=G i))
  (fin:Zey (evX (orc T) T k c (S n))=true∧Zex k id g2 (evX (orc T) T k c (S n))=G n):Zf T k id g2 c (S 0)=G 0:=
 zaq S (fun i=>i≤n) (fun i=>n-i) G (by
  intro i hi;by_cases h:i<n
  ·rcases step i h with ⟨h1,h2⟩ | h1
   ·exact .inl ⟨i+1,h,by show n-(i+1)<n-i;omega,h1,h2⟩
   ·exact .inr h1
  ·have:i=n:=by omega
   subst this;exact .inr fin) 0 (Yp _)
end
theorem zbs{i n:Nat}(h:i<n)(hn:n≤4294967296):IntKind.wrap .i64 ((i:Int)+1)=((i+1:Nat):Int):=zac _ (by omega)
end Go.Ab
end
section
namespace Go.Ab
def b115:AX:=
 (.seq
 (.reg [rg 6 (.mov (.c (u32 0))),rg 7 (.mov (.c (u32 0)))])
 (.seq
 (.reg [mv 8 0,mv 9 1,rg 10 (.bin .add (.t 8) (.t 9)),mv 6 10])
 (.seq
 (.seq
 (.reg [mv 11 6,mv 12 0,rg 13 (.bin .lss (.t 11) (.t 12))])
 (.cond (.t 13)
 (.reg [mv 14 7,rg 15 (.bin .add (.t 14) (.c (u32 1))),mv 7 15])
 .skip))
 (.seq
 (.reg [mv 16 6,mv 17 2,rg 18 (.bin .add (.t 16) (.t 17)),mv 6 18])
 (.seq
 (.seq
 (.reg [mv 19 6,mv 20 2,rg 21 (.bin .lss (.t 19) (.t 20))])
 (.cond (.t 21)
 (.reg [mv 22 7,rg 23 (.bin .add (.t 22) (.c (u32 1))),mv 7 23])
 .skip))
 (.seq
 (.reg [mv 24 6,mv 25 7,mv 6 24,mv 7 25])
 (.pre (.norm false [6,7]) .ret)))))))
def b116:AX:=
 (.seq
 (.reg [rg 6 (.mov (.c (u32 0))),rg 7 (.mov (.c (u32 0)))])
 (.seq
 (.reg [mv 8 0,mv 9 1,rg 10 (.bin .sub (.t 8) (.t 9)),mv 6 10])
 (.seq
 (.seq
 (.reg [mv 11 0,mv 12 1,rg 13 (.bin .lss (.t 11) (.t 12))])
 (.cond (.t 13)
 (.reg [mv 14 7,rg 15 (.bin .add (.t 14) (.c (u32 1))),mv 7 15])
 .skip))
 (.seq
 (.seq
 (.reg [mv 16 6,mv 17 2,rg 18 (.bin .lss (.t 16) (.t 17))])
 (.cond (.t 18)
 (.reg [mv 19 7,rg 20 (.bin .add (.t 19) (.c (u32 1))),mv 7 20])
 .skip))
 (.seq
 (.reg [mv 21 6,mv 22 2,rg 23 (.bin .sub (.t 21) (.t 22)),mv 24 7,mv 6 23,mv 7 24])
 (.pre (.norm false [6,7]) .ret))))))
def b117:AX:=
 (.seq
 (.reg [rg 8 (.mov (.c (u32 0))),rg 9 (.mov (.c (u32 0)))])
 (.seq
 (.reg [mv 11 0,rg 12 (.conv .u64 (.t 11)),mv 13 1,rg 14 (.conv .u64 (.t 13)),rg 15 (.bin .mul (.t 12) (.t 14)),mv 16 2,rg 17 (.conv .u64 (.t 16)),rg 18 (.bin .add (.t 15) (.t 17)),mv 19 3,rg 20 (.conv .u64 (.t 19)),rg 21 (.bin .add (.t 18) (.t 20)),mv 10 21])
 (.seq
 (.reg [mv 22 10,rg 23 (.bin .shr (.t 22) (.c (u64 32))),rg 24 (.conv .u32 (.t 23)),mv 25 10,rg 26 (.conv .u32 (.t 25)),mv 8 24,mv 9 26])
 (.pre (.norm false [8,9]) .ret))))
def b118:AX:=
 (.seq
 (.reg [rg 6 (.mov (.c (u32 0))),rg 7 (.mov (.c (u32 0))),rg 8 (.mov (.c (.b false)))])
 (.seq
 (.seq
 (.reg [mv 10 0,mv 11 2,rg 12 (.bin .geq (.t 10) (.t 11))])
 (.cond (.t 12)
 (.seq
 (.reg [rg 6 (.mov (.c (u32 0))),rg 7 (.mov (.c (u32 0))),rg 8 (.mov (.c (.b false)))])
 (.pre (.norm false [6,7,8]) .ret))
 .skip))
 (.seq
 (.reg [mv 13 0,rg 14 (.conv .u64 (.t 13)),rg 15 (.bin .shl (.t 14) (.c (u64 32))),mv 16 1,rg 17 (.conv .u64 (.t 16)),rg 18 (.bin .or (.t 15) (.t 17)),mv 9 18])
 (.seq
 (.drawT [mv 19 9,mv 20 2,rg 21 (.conv .u64 (.t 20)),rg 22 (.bin .quo (.t 19) (.t 21)),rg 23 (.conv .u32 (.t 22)),mv 24 9,mv 25 2,rg 26 (.conv .u64 (.t 25)),rg 27 (.bin .rem (.t 24) (.t 26)),rg 28 (.conv .u32 (.t 27)),mv 6 23]
 [mv 7 28,rg 8 (.mov (.c (.b true)))])
 (.pre (.norm false [6,7,8]) .ret)))))
def l91_0:AX:=
 (.note
 (.seq
 (.seq
 (.reg [mv 5 4,rg 6 (.bin .gtr (.t 5) (.c (.i .i64 0)))])
 (.cond (.t 6)
 .skip
 (.exit 0)))
 (.seq
 (.block 1
 (.seq
 (.reg [mv 9 0,mv 10 4,rg 11 (.bin .shr (.t 9) (.t 10)),rg 12 (.bin .neq (.t 11) (.c (u32 0)))])
 (.cond (.t 12)
 (.seq
 (.reg [mv 13 0,mv 14 4,rg 15 (.bin .shr (.t 13) (.t 14)),mv 0 15])
 (.reg [mv 16 3,mv 17 4,rg 18 (.bin .add (.t 16) (.t 17)),mv 3 18]))
 .skip)))
 (.reg [mv 7 4,rg 8 (.bin .quo (.t 7) (.c (.i .i64 2))),mv 4 8])))
 (.norm false [0,3,4]))
def b91:AX:=
 (.seq
 (.reg [rg 2 (.mov (.c (.i .i64 0)))])
 (.seq
 (.reg [rg 3 (.mov (.c (.i .i64 0)))])
 (.seq
 (.seq
 (.reg [rg 4 (.mov (.c (.i .i64 16)))])
 (.lp 0 (.norm false [0,3,4]) l91_0 (.norm false [0,3])))
 (.seq
 (.reg [mv 19 3,mv 20 0,rg 21 (.conv .i64 (.t 20)),rg 22 (.bin .add (.t 19) (.t 21)),mv 2 22])
 (.pre (.norm false [2]) .ret)))))
def row115:AFx:=⟨3,26,[.t 6,.t 7],b115,none,false⟩
def row116:AFx:=⟨3,25,[.t 6,.t 7],b116,none,false⟩
def row117:AFx:=⟨4,27,[.t 8,.t 9],b117,none,false⟩
def row118:AFx:=⟨3,29,[.t 6,.t 7,.t 8],b118,none,false⟩
def row91:AFx:=⟨1,23,[.t 2],b91,none,false⟩
class Zac (T:Tbl):Prop where
 h115:T 115=some row115
 h116:T 116=some row116
 h117:T 117=some row117
 h118:T 118=some row118
 h91:T 91=some row91
section
variable{T:Tbl}[Zac T]{d:Option Nat}{st:St}
@[simp] theorem x115(xs:List AV):Zc (orc T) T 115 xs d st=cP T 115 false xs d st:=zaa Zac.h115
@[simp] theorem x116(xs:List AV):Zc (orc T) T 116 xs d st=cP T 116 false xs d st:=zaa Zac.h116
@[simp] theorem x117(xs:List AV):Zc (orc T) T 117 xs d st=cP T 117 false xs d st:=zaa Zac.h117
@[simp] theorem x118(xs:List AV):Zc (orc T) T 118 xs d st=cP T 118 false xs d st:=zaa Zac.h118
@[simp] theorem x91(xs:List AV):Zc (orc T) T 91 xs d st=cP T 91 false xs d st:=zaa Zac.h91
end
end Go.Ab
end
section
namespace Go.Ab
section
variable{T:Tbl}[Zac T]
theorem zzi(x y c:UInt32):Za T 115 [u32 x.toNat,u32 y.toNat,u32 c.toNat] =
  some (.tup [u32 (w32 (x.toNat+y.toNat+c.toNat)).toNat,u32 (w32 ((x.toNat+y.toNat+c.toNat)/4294967296)).toNat]):=by
 have hx:=zal x;have hy:=zal y;have hc:=zal c;rw[zab Zac.h115 rfl,b115];simp[zbh]
 repeat' split
 all_goals simp
 all_goals omega
theorem zzj(x y b:UInt32):Za T 116 [u32 x.toNat,u32 y.toNat,u32 b.toNat] =
  some (.tup [u32 (w32 (x.toNat+8589934592-(y.toNat+b.toNat))).toNat,u32 (w32 (2-(x.toNat+8589934592-(y.toNat+b.toNat))/4294967296)).toNat]):=by
 have hx:=zal x;have hy:=zal y;have hb:=zal b;rw[zab Zac.h116 rfl,b116];by_cases h1:x.toNat<y.toNat <;>
 by_cases h2:Zgg x.toNat y.toNat<b.toNat <;>
 ·simp[h1,h2,zbh];unfold Zgg at *
  omega
theorem zgx{a b:Nat}(ha:a<4294967296)(hb:b<4294967296):a*b≤18446744065119617025:=by
 have:a*b≤4294967295*4294967295:=Ydr (by omega) (by omega);omega
theorem zql(x y c d:UInt32):Za T 117 [u32 x.toNat,u32 y.toNat,u32 c.toNat,u32 d.toNat] =
  some (.tup [u32 (w32 ((x.toNat*y.toNat+c.toNat+d.toNat)/4294967296)).toNat,u32 (w32 (x.toNat*y.toNat+c.toNat+d.toNat)).toNat]):=by
 have hx:=zal x;have hy:=zal y;have hc:=zal c;have hd:=zal d;have hm:=zgx hx hy;rw[zab Zac.h117 rfl,b117];simp[zbh];generalize x.toNat*y.toNat=m at *
 omega
theorem zqm(hi lo y:UInt32):Za T 118 [u32 hi.toNat,u32 lo.toNat,u32 y.toNat] =
  some (if y.toNat≤hi.toNat then .tup [u32 0,u32 0,.b false]
   else .tup [u32 (w32 ((hi.toNat*4294967296+lo.toNat)/y.toNat)).toNat,u32 (w32 ((hi.toNat*4294967296+lo.toNat)%y.toNat)).toNat,.b true]):=by
 have hx:=zal hi;have hy:=zal y;have hl:=zal lo;rw[zab Zac.h118 rfl,b118];by_cases h1:y.toNat≤hi.toNat
 ·simp[h1]
 ·have h2:¬ y.toNat=0:=by omega
  simp[h1,h2,zbh];have e:hi.toNat*4294967296%18446744073709551616=hi.toNat*4294967296:=Yf (by omega);have e2:(hi.toNat*4294967296) ||| lo.toNat=hi.toNat*4294967296+lo.toNat:=by
   have:=Yc0 (i:=32) hl hi.toNat;rw[Yae hi.toNat,show (4294967296:Nat)=2^32 from rfl,this]
  have h3:(hi.toNat*4294967296+lo.toNat)/y.toNat<4294967296:=by
   rw[Ybn (by omega)];have:=Yaj 4294967296 (show hi.toNat+1≤y.toNat by omega);omega
  rw[e,e2,Yf (show hi.toNat*4294967296+lo.toNat<18446744073709551616 by omega)];exact⟨rfl,rfl⟩
theorem zee(x y c:Nat)(hx:x<4294967296)(hy:y<4294967296)(hc:c<4294967296):Za T 115 [u32 x,u32 y,u32 c]=some (.tup [u32 ((x+y+c)%4294967296),u32 ((x+y+c)/4294967296)]):=by
 have:=zzi (T:=T) (w32 x) (w32 y) (w32 c);rw[zag hx,zag hy,zag hc,zbh,zag (by omega)]at this;exact this
theorem zfy(x y b:Nat)(hx:x<4294967296)(hy:y<4294967296)(hb:b<4294967296):Za T 116 [u32 x,u32 y,u32 b] =
  some (.tup [u32 ((x+8589934592-(y+b))%4294967296),u32 (2-(x+8589934592-(y+b))/4294967296)]):=by
 have:=zzj (T:=T) (w32 x) (w32 y) (w32 b);rw[zag hx,zag hy,zag hb,zbh,zag (by omega)]at this;exact this
theorem zia(x y c d:Nat)(hx:x<4294967296)(hy:y<4294967296)(hc:c<4294967296)(hd:d<4294967296):Za T 117 [u32 x,u32 y,u32 c,u32 d] =
  some (.tup [u32 ((x*y+c+d)/4294967296),u32 ((x*y+c+d)%4294967296)]):=by
 have:=zql (T:=T) (w32 x) (w32 y) (w32 c) (w32 d);have hm:=zgx hx hy;rw[zag hx,zag hy,zag hc,zag hd,zbh (x*y+c+d),zag (by omega)]at this;exact this
theorem z1d{hi lo y:Nat}(h:hi<y)(hl:lo<4294967296):(hi*4294967296+lo)/y<4294967296:=by
 rw[Ybn (by omega)];have:=Yaj 4294967296 (show hi+1≤y by omega);omega
theorem zm2(hi lo y:Nat)(hx:hi<y)(hl:lo<4294967296)(hy:y<4294967296):Za T 118 [u32 hi,u32 lo,u32 y] =
  some (.tup [u32 ((hi*4294967296+lo)/y),u32 ((hi*4294967296+lo)%y),.b true]):=by
 have:=zqm (T:=T) (w32 hi) (w32 lo) (w32 y);rw[zag (show hi<4294967296 by omega),zag hl,zag hy,zag (z1d hx hl),zag (by have:=Ya7 (hi*4294967296+lo) (show 0<y by omega);omega),if_neg (by omega)]at this;exact this
theorem zr8(hi lo y:Nat)(hx:y≤hi)(hh:hi<4294967296)(hl:lo<4294967296):Za T 118 [u32 hi,u32 lo,u32 y]=some (.tup [u32 0,u32 0,.b false]):=by
 have:=zqm (T:=T) (w32 hi) (w32 lo) (w32 y);rw[zag hh,zag hl,zag (show y<4294967296 by omega),if_pos hx]at this;exact this
def Z0(n:Nat):Nat:=if n=0 then 0 else n.log2+1
theorem zjx{n s:Nat}(h:n/2^s≠0):Z0 n=s+Z0 (n/2^s):=by
 have hn:n≠0:=by rintro rfl;simp at h
 have hlog:(n/2^s).log2+s=n.log2:=by
  have h1:=Nat.log2_self_le h;have h2:=Yc9 (n:=n/2^s);have h3:=Nat.log2_self_le hn;have h4:=Yc9 (n:=n);have hp:0<2^s:=Ybb (by decide);have a1:2^((n/2^s).log2+s)≤n:=by
   rw[Ybh];exact(Yck hp).1 h1
  have a2:n<2^((n/2^s).log2+1+s):=by
   rw[Ybh];exact(Ybn hp).1 h2
  have b1:=(Nat.le_log2 hn).2 a1;have b2:=(Yeb hn).2 a2;omega
 unfold Z0;rw[if_neg h,if_neg hn];omega
theorem zr9{x:Nat}(h:x<2):Z0 x=x:=by
 rcases(show x=0∨x=1 by omega) with rfl | rfl<;>decide
def Zio(y:Nat×Nat×Nat):St:=⟨[(0,u32 y.1),(3,.i .i64 y.2.1),(4,.i .i64 y.2.2)],[],2⟩
end
section
variable{T:Tbl}
theorem zk7(N:Nat):∀y:Nat×Nat×Nat,((y.2.2=16∨y.2.2=8∨y.2.2=4∨y.2.2=2∨y.2.2=1∨y.2.2=0)∧y.1<2^(2*y.2.2)*(if y.2.2=0 then 2 else 1)∧y.2.1+Z0 y.1=N∧y.2.1+2*y.2.2≤32) →
  ∃r,(∃(x n:Nat),r=(Ex.n,(⟨[(0,u32 x),(3,.i .i64 (n:Int))],[],2⟩:St))∧x<2∧n+Z0 x=N∧n≤32)∧Zf T 0 0 (.norm false [0,3]) l91_0 (Zio y)=some r:=by
 refine zas _ _ (fun y=>y.2.2) _ ?_
 rintro⟨x,n,s⟩ ⟨hs,hx,hN,hn⟩
 simp only at hs hx hN hn;by_cases h0:s=0
 ·right;subst h0;refine⟨_,⟨x,n,rfl,by simpa using hx,hN,by omega⟩,?_,?_⟩<;>simp[l91_0,Zio]
 ·left;by_cases h1:x/2^s=0
  ·refine⟨(x,n,s/2),⟨?_,?_,hN,by simp only;omega⟩,by simp only;omega,?_⟩
   ·rcases hs with rfl | rfl | rfl | rfl | rfl | rfl<;>simp
   ·have h2:x<2^s:=by
     rcases Yo x (2^s) with h | h
     ·exact h
     ·have:=Yfa h (Ybb (by decide));omega
    rcases hs with rfl | rfl | rfl | rfl | rfl | rfl<;>simp at h2 ⊢<;>omega
   ·rcases hs with rfl | rfl | rfl | rfl | rfl | rfl<;>simp at h1<;>simp[l91_0,Zio,h1]at h0 ⊢
  ·refine⟨(x/2^s,n+s,s/2),⟨?_,?_,?_,by simp only;omega⟩,by simp only;omega,?_⟩
   ·rcases hs with rfl | rfl | rfl | rfl | rfl | rfl<;>simp
   ·rcases hs with rfl | rfl | rfl | rfl | rfl | rfl<;>simp at hx h0 ⊢<;>omega
   ·have:=zjx h1;simp only;omega
   ·have hw:IntKind.wrap .i64 ((n:Int)+s)=((n+s:Nat):Int):=zac _ (by omega);rcases hs with rfl | rfl | rfl | rfl | rfl | rfl<;>simp at h1 hw<;>simp[l91_0,Zio,h1,hw]at h0 ⊢
end
section
variable{T:Tbl}[Zac T]
theorem zqn(x:UInt32):Za T 91 [u32 x.toNat]=some (.i .i64 (Z0 x.toNat)):=by
 have hx:=zal x;obtain⟨_,⟨y,n,rfl,h1,h2,h3⟩,hl⟩:=zk7 (T:=T) (Z0 x.toNat) (x.toNat,0,16) ⟨.inl rfl,by simp,by simp,by simp⟩;have hw:IntKind.wrap .i64 (y:Int)=y:=zac _ (by omega);have hw2:IntKind.wrap .i64 ((n:Int)+y)=((n+y:Nat):Int):=zac _ (by omega);have h4:=zr9 h1;rw[zab Zac.h91 rfl,b91];simp;unfold Zio at hl;simp at hl;rw[hl];simp[hw,hw2];omega
end
end Go.Ab
end
section
namespace Go.Ab
def l86_0:AX:=
 (.note
 (.seq
 (.seq
 (.reg [mv 6 3,rg 7 (.bin .gtr (.t 6) (.c (.i .i64 0))),mv 8 7,gd 9 8 true (.mov (.t 0)),gd 10 8 true (.mov (.t 3)),gd 11 8 true (.bin .sub (.t 10) (.c (.i .i64 1))),gd 12 8 true (.iad 1 (.t 9) (.t 11)),gd 13 8 true (.load none (.t 12)),gd 14 8 true (.bin .eql (.t 13) (.c (u32 0))),rg 15 (.pick (.t 8) (.t 14) (.c (.b false)))])
 (.cond (.t 15)
 .skip
 (.exit 0)))
 (.block 1
 (.reg [mv 16 3,rg 17 (.bin .sub (.t 16) (.c (.i .i64 1))),mv 3 17])))
 (.norm false [0,3]))
def b86:AX:=
 (.seq
 (.reg [rg 2 (.mov (.c (.sl [] .nl)))])
 (.seq
 (.reg [mv 4 0,rg 5 (.len (.t 4)),mv 3 5])
 (.seq
 (.lp 0 (.norm false [0,3]) l86_0 (.norm false [0,3]))
 (.seq
 (.reg [mv 18 0,mv 19 3,rg 20 (.slc 1 (.t 18) none (some (.t 19)) none),mv 2 20])
 (.pre (.norm false [2]) .ret)))))
def b106:AX:=
 (.seq
 (.reg [rg 4 (.mov (.c (.sl [] .nl)))])
 (.seq
 (.reg [mv 6 0,rg 7 (.len (.t 6)),mv 8 1,rg 9 (.bin .add (.t 7) (.t 8)),rg 10 (.mks 1 [(u32 0)] (.t 9) (.t 9)),mv 5 10])
 (.seq
 (.reg [mv 11 5,mv 12 0,rg 13 (.xop .cpy [(.t 11),(.t 12)])])
 (.seq
 (.reg [mv 14 5,mv 4 14])
 (.pre (.norm false [4]) .ret)))))
def b71:AX:=
 (.seq
 (.reg [rg 2 (.mov (.c (.sl [] .nl)))])
 (.seq
 (.reg [mv 3 0,rg 4 (.call 86 [(.t 3)]),rg 5 (.call 106 [(.t 4),(.c (.i .i64 0))]),mv 2 5])
 (.pre (.norm false [2]) .ret)))
def b72:AX:=
 (.seq
 (.reg [rg 2 (.mov (.c (.sl [] .nl)))])
 (.seq
 (.reg [mv 3 0,rg 4 (.conv .u32 (.t 3)),mv 5 0,rg 6 (.bin .shr (.t 5) (.c (u64 32))),rg 7 (.conv .u32 (.t 6)),rg 8 (.bsl 1 [(u32 0)] 2 [(0,(.t 4)),(1,(.t 7))]),rg 9 (.call 86 [(.t 8)]),mv 2 9])
 (.pre (.norm false [2]) .ret)))
def l73_0:AX:=
 (.note
 (.seq
 (.reg [rg 15 (.bin .lss (.t 14) (.t 13))])
 (.seq
 (.cond (.t 15)
 .skip
 (.exit 0))
 (.seq
 (.block 1
 (.seq
 (.reg [mv 16 14,rg 17 (.iad 1 (.t 12) (.t 14)),rg 18 (.load none (.t 17)),mv 5 16,mv 6 18])
 (.reg [mv 19 4,mv 20 6,rg 21 (.conv .u64 (.t 20)),mv 22 5,rg 23 (.bin .mul (.c (.i .i64 32)) (.t 22)),rg 24 (.bin .shl (.t 21) (.t 23)),rg 25 (.bin .or (.t 19) (.t 24)),mv 4 25])))
 (.reg [rg 26 (.bin .add (.t 14) (.c (.i .i64 1))),mv 14 26]))))
 (.norm false [4,12,13,14]))
def b73:AX:=
 (.seq
 (.reg [rg 2 (.mov (.c (u64 0))),rg 3 (.mov (.c (.b false)))])
 (.seq
 (.reg [mv 7 0,rg 8 (.call 86 [(.t 7)]),mv 0 8])
 (.seq
 (.seq
 (.reg [mv 9 0,rg 10 (.len (.t 9)),rg 11 (.bin .gtr (.t 10) (.c (.i .i64 2)))])
 (.cond (.t 11)
 (.seq
 (.reg [rg 2 (.mov (.c (u64 0))),rg 3 (.mov (.c (.b false)))])
 (.pre (.norm false [2,3]) .ret))
 .skip))
 (.seq
 (.reg [rg 4 (.mov (.c (u64 0)))])
 (.seq
 (.seq
 (.reg [mv 12 0,rg 13 (.len (.t 12)),rg 14 (.mov (.c (.i .i64 0)))])
 (.lp 0 (.norm false [4,12,13,14]) l73_0 (.norm false [4])))
 (.seq
 (.reg [mv 27 4,mv 2 27,rg 3 (.mov (.c (.b true)))])
 (.pre (.norm false [2,3]) .ret)))))))
def b70:AX:=
 (.seq
 (.reg [rg 2 (.mov (.c (.b false)))])
 (.seq
 (.reg [mv 3 0,rg 4 (.call 86 [(.t 3)]),rg 5 (.len (.t 4)),rg 6 (.bin .eql (.t 5) (.c (.i .i64 0))),mv 2 6])
 (.pre (.norm false [2]) .ret)))
def l87_0:AX:=
 (.note
 (.seq
 (.seq
 (.reg [mv 25 5,rg 26 (.bin .geq (.t 25) (.c (.i .i64 0)))])
 (.cond (.t 26)
 .skip
 (.exit 1)))
 (.seq
 (.block 2
 (.block 3
 (.seq
 (.drawT [mv 30 0,mv 31 5,rg 32 (.iad 1 (.t 30) (.t 31)),rg 33 (.load none (.t 32)),mv 34 1,mv 35 5,rg 36 (.iad 1 (.t 34) (.t 35)),rg 37 (.load none (.t 36))]
 [rg 38 (.bin .lss (.t 33) (.t 37)),mv 29 38])
 (.cond (.t 29)
 (.seq
 (.reg [rg 4 (.mov (.c (.i .i64 (-1))))])
 (.pre (.norm false [4]) .ret))
 (.seq
 (.drawT [mv 40 0,mv 41 5,rg 42 (.iad 1 (.t 40) (.t 41)),rg 43 (.load none (.t 42)),mv 44 1,mv 45 5,rg 46 (.iad 1 (.t 44) (.t 45)),rg 47 (.load none (.t 46))]
 [rg 48 (.bin .gtr (.t 43) (.t 47)),mv 39 48])
 (.cond (.t 39)
 (.seq
 (.reg [rg 4 (.mov (.c (.i .i64 1)))])
 (.pre (.norm false [4]) .ret))
 .skip))))))
 (.reg [mv 27 5,rg 28 (.bin .sub (.t 27) (.c (.i .i64 1))),mv 5 28])))
 (.norm false [0,1,5]))
def b87:AX:=
 (.seq
 (.reg [rg 4 (.mov (.c (.i .i64 0)))])
 (.seq
 (.reg [mv 6 0,rg 7 (.call 86 [(.t 6)]),mv 8 1,rg 9 (.call 86 [(.t 8)]),mv 0 7,mv 1 9])
 (.seq
 (.block 0
 (.seq
 (.reg [mv 11 0,rg 12 (.len (.t 11)),mv 13 1,rg 14 (.len (.t 13)),rg 15 (.bin .lss (.t 12) (.t 14)),mv 10 15])
 (.cond (.t 10)
 (.seq
 (.reg [rg 4 (.mov (.c (.i .i64 (-1))))])
 (.pre (.norm false [4]) .ret))
 (.seq
 (.reg [mv 17 0,rg 18 (.len (.t 17)),mv 19 1,rg 20 (.len (.t 19)),rg 21 (.bin .gtr (.t 18) (.t 20)),mv 16 21])
 (.cond (.t 16)
 (.seq
 (.reg [rg 4 (.mov (.c (.i .i64 1)))])
 (.pre (.norm false [4]) .ret))
 .skip)))))
 (.seq
 (.seq
 (.reg [mv 22 0,rg 23 (.len (.t 22)),rg 24 (.bin .sub (.t 23) (.c (.i .i64 1))),mv 5 24])
 (.lp 1 (.norm false [0,1,5]) l87_0 (.norm false [])))
 (.seq
 (.reg [rg 4 (.mov (.c (.i .i64 0)))])
 (.pre (.norm false [4]) .ret))))))
def l85_0:AX:=
 (.note
 (.seq
 (.reg [rg 21 (.bin .lss (.t 20) (.t 19))])
 (.seq
 (.cond (.t 21)
 .skip
 (.exit 0))
 (.seq
 (.block 1
 (.seq
 (.reg [mv 22 20,mv 7 22])
 (.seq
 (.reg [rg 8 (.mov (.c (u32 0)))])
 (.seq
 (.seq
 (.reg [mv 23 7,mv 24 1,rg 25 (.len (.t 24)),rg 26 (.bin .lss (.t 23) (.t 25))])
 (.cond (.t 26)
 (.reg [mv 27 1,mv 28 7,rg 29 (.iad 1 (.t 27) (.t 28)),rg 30 (.load none (.t 29)),mv 8 30])
 .skip))
 (.reg [mv 32 5,mv 33 7,mv 34 0,mv 35 7,rg 36 (.iad 1 (.t 34) (.t 35)),rg 37 (.load none (.t 36)),mv 38 8,mv 39 6,rg 40 (.call 115 [(.t 37),(.t 38),(.t 39)]),mv 31 40,rg 41 (.ext (.t 31) 0),rg 42 (.ext (.t 31) 1),rg 43 (.iad 1 (.t 32) (.t 33)),so (.store 1 (.t 43) (.t 41)),mv 6 42])))))
 (.reg [rg 44 (.bin .add (.t 20) (.c (.i .i64 1))),mv 20 44]))))
 (.norm false [0,1,5,6,19,20]))
def b85:AX:=
 (.seq
 (.reg [rg 4 (.mov (.c (.sl [] .nl)))])
 (.seq
 (.seq
 (.reg [mv 9 0,rg 10 (.len (.t 9)),mv 11 1,rg 12 (.len (.t 11)),rg 13 (.bin .lss (.t 10) (.t 12))])
 (.cond (.t 13)
 (.reg [mv 14 1,mv 15 0,mv 0 14,mv 1 15])
 .skip))
 (.seq
 (.reg [mv 16 0,rg 17 (.call 2106 [(.t 16),(.c (.i .i64 1))]),mv 5 17])
 (.seq
 (.reg [rg 6 (.mov (.c (u32 0)))])
 (.seq
 (.seq
 (.reg [mv 18 0,rg 19 (.len (.t 18)),rg 20 (.mov (.c (.i .i64 0)))])
 (.lp 0 (.norm false [0,1,5,6,19,20]) l85_0 (.norm false [0,5,6])))
 (.seq
 (.reg [mv 45 5,mv 46 0,rg 47 (.len (.t 46)),mv 48 6,rg 49 (.iad 1 (.t 45) (.t 47)),so (.store 1 (.t 49) (.t 48))])
 (.seq
 (.reg [mv 50 5,rg 51 (.call 86 [(.t 50)]),mv 4 51])
 (.pre (.norm false [4]) .ret))))))))
def l56_0:AX:=
 (.note
 (.seq
 (.reg [rg 9 (.bin .lss (.t 8) (.t 7))])
 (.seq
 (.cond (.t 9)
 .skip
 (.exit 0))
 (.seq
 (.block 1
 (.seq
 (.reg [rg 10 (.iad 1 (.t 6) (.t 8)),rg 11 (.load none (.t 10)),mv 5 11])
 (.reg [mv 12 3,mv 13 5,rg 14 (.call 86 [(.t 13)]),rg 15 (.call 85 [(.t 12),(.t 14)]),mv 3 15])))
 (.reg [rg 16 (.bin .add (.t 8) (.c (.i .i64 1))),mv 8 16]))))
 (.norm false [3,6,7,8]))
def b56:AX:=
 (.seq
 (.reg [rg 2 (.mov (.c (.sl [] .nl)))])
 (.seq
 (.reg [rg 3 (.mov (.c (.sl [] .nl)))])
 (.seq
 (.seq
 (.reg [mv 6 0,rg 7 (.len (.t 6)),rg 8 (.mov (.c (.i .i64 0)))])
 (.lp 0 (.norm false [3,6,7,8]) l56_0 (.norm false [3])))
 (.seq
 (.reg [mv 17 3,mv 2 17])
 (.pre (.norm false [2]) .ret)))))
def l88_0:AX:=
 (.note
 (.seq
 (.reg [rg 23 (.bin .lss (.t 22) (.t 21))])
 (.seq
 (.cond (.t 23)
 .skip
 (.exit 0))
 (.seq
 (.block 1
 (.seq
 (.reg [mv 24 22,mv 8 24])
 (.seq
 (.reg [rg 9 (.mov (.c (u32 0)))])
 (.seq
 (.seq
 (.reg [mv 25 8,mv 26 1,rg 27 (.len (.t 26)),rg 28 (.bin .lss (.t 25) (.t 27))])
 (.cond (.t 28)
 (.reg [mv 29 1,mv 30 8,rg 31 (.iad 1 (.t 29) (.t 30)),rg 32 (.load none (.t 31)),mv 9 32])
 .skip))
 (.reg [mv 34 6,mv 35 8,mv 36 0,mv 37 8,rg 38 (.iad 1 (.t 36) (.t 37)),rg 39 (.load none (.t 38)),mv 40 9,mv 41 7,rg 42 (.call 116 [(.t 39),(.t 40),(.t 41)]),mv 33 42,rg 43 (.ext (.t 33) 0),rg 44 (.ext (.t 33) 1),rg 45 (.iad 1 (.t 34) (.t 35)),so (.store 1 (.t 45) (.t 43)),mv 7 44])))))
 (.reg [rg 46 (.bin .add (.t 22) (.c (.i .i64 1))),mv 22 46]))))
 (.norm false [0,1,6,7,21,22]))
def b88:AX:=
 (.seq
 (.reg [rg 4 (.mov (.c (.sl [] .nl))),rg 5 (.mov (.c (.b false)))])
 (.seq
 (.reg [mv 10 0,rg 11 (.call 86 [(.t 10)]),mv 12 1,rg 13 (.call 86 [(.t 12)]),mv 0 11,mv 1 13])
 (.seq
 (.seq
 (.reg [mv 14 0,mv 15 1,rg 16 (.call 87 [(.t 14),(.t 15)]),rg 17 (.bin .lss (.t 16) (.c (.i .i64 0)))])
 (.cond (.t 17)
 (.seq
 (.reg [rg 4 (.mov (.c (.sl [] .nl))),rg 5 (.mov (.c (.b false)))])
 (.pre (.norm false [4,5]) .ret))
 .skip))
 (.seq
 (.reg [mv 18 0,rg 19 (.call 2106 [(.t 18),(.c (.i .i64 0))]),mv 6 19])
 (.seq
 (.reg [rg 7 (.mov (.c (u32 0)))])
 (.seq
 (.seq
 (.reg [mv 20 0,rg 21 (.len (.t 20)),rg 22 (.mov (.c (.i .i64 0)))])
 (.lp 0 (.norm false [0,1,6,7,21,22]) l88_0 (.norm false [6])))
 (.seq
 (.reg [mv 47 6,rg 48 (.call 86 [(.t 47)]),mv 4 48,rg 5 (.mov (.c (.b true)))])
 (.pre (.norm false [4,5]) .ret))))))))
def b57:AX:=
 (.seq
 (.reg [rg 4 (.mov (.c (.sl [] .nl))),rg 5 (.mov (.c (.i .i64 0)))])
 (.seq
 (.reg [mv 9 0,mv 10 1,rg 11 (.call 87 [(.t 9),(.t 10)]),mv 6 11])
 (.seq
 (.seq
 (.reg [mv 12 6,rg 13 (.bin .lss (.t 12) (.c (.i .i64 0)))])
 (.cond (.t 13)
 (.reg [mv 14 1,mv 15 0,mv 0 14,mv 1 15])
 .skip))
 (.seq
 (.reg [mv 17 0,mv 18 1,rg 19 (.call 88 [(.t 17),(.t 18)]),mv 16 19,rg 20 (.ext (.t 16) 0),rg 21 (.ext (.t 16) 1),mv 7 20,mv 8 21])
 (.seq
 (.reg [mv 22 7,mv 23 6,mv 4 22,mv 5 23])
 (.pre (.norm false [4,5]) .ret))))))
def b2106:AX:=
 (.seq
 (.reg [rg 4 (.mov (.c (.sl [] .nl)))])
 (.seq
 (.reg [mv 6 0,rg 7 (.len (.t 6)),mv 8 1,rg 9 (.bin .add (.t 7) (.t 8)),rg 10 (.mks 1 [(u32 0)] (.t 9) (.t 9)),mv 5 10])
 (.seq
 (.reg [mv 11 5,mv 12 0,rg 13 (.xop .cpy [(.t 11),(.t 12)])])
 (.seq
 (.reg [mv 14 5,mv 4 14])
 (.pre (.norm false [4]) .ret)))))
def row86:AFx:=⟨1,21,[.t 2],b86,none,false⟩
def row106:AFx:=⟨2,15,[.t 4],b106,none,false⟩
def row71:AFx:=⟨1,6,[.t 2],b71,none,false⟩
def row72:AFx:=⟨1,10,[.t 2],b72,none,false⟩
def row73:AFx:=⟨1,28,[.t 2,.t 3],b73,none,false⟩
def row70:AFx:=⟨1,7,[.t 2],b70,none,false⟩
def row87:AFx:=⟨2,49,[.t 4],b87,none,false⟩
def row85:AFx:=⟨2,52,[.t 4],b85,none,false⟩
def row56:AFx:=⟨1,18,[.t 2],b56,none,false⟩
def row88:AFx:=⟨2,49,[.t 4,.t 5],b88,none,false⟩
def row57:AFx:=⟨2,24,[.t 4,.t 5],b57,none,false⟩
def row2106:AFx:=⟨2,15,[.t 4],b2106,(some [false,false]),false⟩
class Zq (T:Tbl):Prop extends Zac T where
 h86:T 86=some row86
 h106:T 106=some row106
 h71:T 71=some row71
 h72:T 72=some row72
 h73:T 73=some row73
 h70:T 70=some row70
 h87:T 87=some row87
 h85:T 85=some row85
 h56:T 56=some row56
 h88:T 88=some row88
 h57:T 57=some row57
 h2106:T 2106=some row2106
section
variable{T:Tbl}[Zq T]{d:Option Nat}{st:St}
@[simp] theorem x86(xs:List AV):Zc (orc T) T 86 xs d st=cP T 86 false xs d st:=zaa Zq.h86
@[simp] theorem x106(xs:List AV):Zc (orc T) T 106 xs d st=cP T 106 false xs d st:=zaa Zq.h106
@[simp] theorem x71(xs:List AV):Zc (orc T) T 71 xs d st=cP T 71 false xs d st:=zaa Zq.h71
@[simp] theorem y71{e:Env}{h:Heap}{older:List Heap}(args:List Opd):opD (orc T) T (.call 71 args) e h older=dR (Za T 71 ((args.map (ev e.get)).map (wkIf false))) (args.map (ev e.get)):=zaj Zq.h71
@[simp] theorem x72(xs:List AV):Zc (orc T) T 72 xs d st=cP T 72 false xs d st:=zaa Zq.h72
@[simp] theorem y72{e:Env}{h:Heap}{older:List Heap}(args:List Opd):opD (orc T) T (.call 72 args) e h older=dR (Za T 72 ((args.map (ev e.get)).map (wkIf false))) (args.map (ev e.get)):=zaj Zq.h72
@[simp] theorem x73(xs:List AV):Zc (orc T) T 73 xs d st=cP T 73 false xs d st:=zaa Zq.h73
@[simp] theorem x70(xs:List AV):Zc (orc T) T 70 xs d st=cP T 70 false xs d st:=zaa Zq.h70
@[simp] theorem x87(xs:List AV):Zc (orc T) T 87 xs d st=cP T 87 false xs d st:=zaa Zq.h87
@[simp] theorem x85(xs:List AV):Zc (orc T) T 85 xs d st=cP T 85 false xs d st:=zaa Zq.h85
@[simp] theorem x56(xs:List AV):Zc (orc T) T 56 xs d st=cP T 56 false xs d st:=zaa Zq.h56
@[simp] theorem y56{e:Env}{h:Heap}{older:List Heap}(args:List Opd):opD (orc T) T (.call 56 args) e h older=dR (Za T 56 ((args.map (ev e.get)).map (wkIf false))) (args.map (ev e.get)):=zaj Zq.h56
@[simp] theorem x88(xs:List AV):Zc (orc T) T 88 xs d st=cP T 88 false xs d st:=zaa Zq.h88
@[simp] theorem x57(xs:List AV):Zc (orc T) T 57 xs d st=cP T 57 false xs d st:=zaa Zq.h57
@[simp] theorem x2106(xs:List AV):Zc (orc T) T 2106 xs d st=bL (Zd4 st.heap [false,false] xs) fun ys=>Zdl ys (Zh (Zap [false,false] xs) st.heap) (Zck (Zh (Zap [false,false] xs) st.heap) 40 (Zb8 [false,false] xs) []) T 2106 false d st:=zau Zq.h2106
end
end Go.Ab
end
section
namespace Go.Ab
def val:List UInt32→Nat
 | []=>0
 | x::l=>x.toNat+4294967296*val l
def ofN(n:Nat):List UInt32:=if n=0 then [] else w32 n::ofN (n/4294967296)
termination_by n
decreasing_by omega
def Ziw(l:List UInt32):Prop:=∀x,l.getLast? = some x→x.toNat≠0
@[simp] theorem za5:val []=0:=rfl
@[simp] theorem zak(x:UInt32)(l:List UInt32):val (x::l)=x.toNat+4294967296*val l:=rfl
@[simp] theorem zli:ofN 0=[]:=by rw[ofN];rfl
theorem zgq{n:Nat}(h:n≠0):ofN n=w32 n::ofN (n/4294967296):=by rw[ofN,if_neg h]
theorem zbx(n:Nat):(w32 n).toNat=n%4294967296:=zbh n
theorem z1k{x:UInt32}{n:Nat}(h:n%4294967296=x.toNat):w32 n=x:=by
 rw[←Yev,zbx,h]
theorem zae(n:Nat):val (ofN n)=n:=by
 induction n using Nat.strongRecOn with
 | _ n ih=>
  by_cases h:n=0
  ·subst h;simp
  ·rw[zgq h,zak,ih (n/4294967296) (by omega),zbx];omega
theorem zah(l m:List UInt32):val (l++m)=val l+4294967296^l.length*val m:=by
 induction l with
 | nil=>simp
 | cons x l ih=>
  simp only[Ybd,zak,ih,Ye,Y4,Yao,Yas];congr 2;rw[←Yad,Yae 4294967296 (4294967296^l.length)]
theorem zax(l:List UInt32):val l<4294967296^l.length:=by
 induction l with
 | nil=>simp
 | cons x l ih=>
  have:=zal x;simp only[zak,Ye,Y4];omega
theorem zkf{x:UInt32}{l:List UInt32}(h:Ziw (x::l)):Ziw l:=by
 intro y hy;apply h;cases l with
 | nil=>simp at hy
 | cons z l=>rw[List.getLast?_cons_cons];exact hy
theorem z0k{l:List UInt32}(h:Ziw l):val l=0↔l=[]:=by
 constructor
 ·intro h0
  induction l with
  | nil=>rfl
  | cons x l ih=>
   exfalso;simp only[zak]at h0;have h1:=ih (zkf h) (by omega);subst h1;exact h x (by simp) (by omega)
 ·rintro rfl;rfl
theorem z4k{l:List UInt32}(h:Ziw l):ofN (val l)=l:=by
 induction l with
 | nil=>simp
 | cons x l ih=>
  have hx:=zal x;have hne:val (x::l)≠0:=fun h0=>by have:=(z0k h).1 h0;cases this
  rw[zgq hne];congr 1
  ·exact z1k (by simp only[zak];omega)
  ·rw[show val (x::l)/4294967296=val l by simp only[zak];omega];exact ih (zkf h)
theorem zap{n:Nat}:ofN n=[]↔n=0:=⟨fun h=>by rw[←zae n,h];rfl,fun h=>by rw[h];simp⟩
theorem zth{a:List UInt32}{n:Nat}(hn:n≤a.length)(h0:∀(i:Nat) (x:UInt32),n≤i→a[i]? = some x→x.toNat=0)(h1:∀x:UInt32,0<n→a[n-1]? = some x→x.toNat≠0):a.take n=ofN (val a):=by
 have hr:Ziw (a.take n):=by
  intro x hx;have hn0:0<n:=by
   rcases Yav n with h | h
   ·subst h;simp at hx
   ·exact h
  apply h1 x hn0;rw[Ybf,Yai,Ybs hn,Y3,if_pos (by omega)]at hx;exact hx
 have hz:∀l:List UInt32,(∀(i:Nat) (x:UInt32),l[i]? = some x→x.toNat=0)→val l=0:=by
  intro l
  induction l with
  | nil=>intro _;rfl
  | cons x l ih=>
   intro h;have h2:=h 0 x rfl;have h3:=ih fun i y hy=>h (i+1) y (by simpa using hy);simp only[zak,h2,h3]
 have hv:val a=val (a.take n):=by
  have e:=zah (a.take n) (a.drop n);rw[Ya1,hz (a.drop n) (fun i x hx=>h0 (n+i) x (by omega) (by rw[Yah]at hx;exact hx))]at e;omega
 rw[hv,z4k hr]
theorem zf7(a:List UInt32):∃n,n≤a.length∧a.take n=ofN (val a)∧(∀(i:Nat) (x:UInt32),n≤i→a[i]? = some x→x.toNat=0)∧(∀x:UInt32,0<n→a[n-1]? = some x→x.toNat≠0):=by
 have key:∀k,k≤a.length→(∀(i:Nat) (x:UInt32),k≤i→a[i]? = some x→x.toNat=0)→∃n,n≤k∧(∀(i:Nat) (x:UInt32),n≤i→a[i]? = some x→x.toNat=0)∧(∀x:UInt32,0<n→a[n-1]? = some x→x.toNat≠0):=by
  intro k
  induction k with
  | zero=>intro _ h;exact⟨0,Yd _,h,fun x hx=>by omega⟩
  | succ k ih=>
   intro hk h;by_cases hz:(a[k]'(by omega)).toNat=0
   ·obtain⟨n,h1,h2,h3⟩:=ih (by omega) fun i x hi hx=>by
     rcases Yo k i with h4 | h4
     ·exact h i x h4 hx
     ·have:i=k:=by omega
      subst this;rw[Ya (by omega)]at hx;cases hx;exact hz
    exact⟨n,by omega,h2,h3⟩
   ·refine⟨k+1,Yd _,h,fun x _ hx=>?_⟩;rw[Yem,Ya (by omega)]at hx;cases hx;exact hz
 obtain⟨n,h1,h2,h3⟩:=key a.length (Yd _) fun i x hi hx=>by rw[Yam hi]at hx;cases hx
 exact⟨n,h1,zth h1 h2 h3,h2,h3⟩
theorem zad(a:List UInt32):(ofN (val a)).length≤a.length:=by
 obtain⟨n,h1,h2,_⟩:=zf7 a;rw[←h2,Yai];omega
theorem zai{n k:Nat}(h:n<4294967296^k):(ofN n).length≤k:=by
 induction k generalizing n with
 | zero=>
  have:n=0:=by simp at h;omega
  subst this;simp
 | succ k ih=>
  by_cases h0:n=0
  ·subst h0;simp
  ·rw[zgq h0,Ye];have:=ih (n:=n/4294967296) (by rw[Y4]at h;omega);omega
theorem zaf{a:List UInt32}{i:Nat}{x:UInt32}(h:a[i]? = some x):val (a.take (i+1))=val (a.take i)+4294967296^i*x.toNat:=by
 have hi:i<a.length:=by
  rcases Yo i a.length with h1 | h1
  ·exact h1
  ·rw[Yam h1]at h;cases h
 rw[Yc3,h,zah];simp only[Option.toList_some,zak,za5,Yan,Yx,Yai];rw[Ybs (by omega)]
theorem zbn{a:List UInt32}{i:Nat}(x:UInt32)(h:i<a.length):val ((a.set i x).take (i+1))=val (a.take i)+4294967296^i*x.toNat:=by
 rw[zaf (x:=x) (by rw[Ydo h]),List.take_set_of_le (Yd i)]
theorem zbd{a:List UInt32}{i:Nat}(h:a.length≤i):val (a.take i)=val a:=by rw[Yb h]
theorem zaw(n:Nat):val (List.replicate n 0)=0:=by
 induction n with
 | zero=>rfl
 | succ n ih=>simp[Ybm,ih]
theorem zgr{m n:Nat}(h:(ofN m).length<(ofN n).length):m<n:=by
 rcases Yo m n with h1 | h1
 ·exact h1
 ·exfalso;have h2:=zax (ofN m);rw[zae]at h2;have:=zai (show n<4294967296^(ofN m).length by omega);omega
theorem zar{m n:Nat}(h:m≤n):(ofN m).length≤(ofN n).length:=by
 rcases Yo (ofN n).length (ofN m).length with h1 | h1
 ·have:=zgr h1;omega
 ·exact h1
def Zcs(x y:Nat):Int:=if x<y then -1 else if y<x then 1 else 0
theorem zxu{a b:List UInt32}{i:Nat}{x y:UInt32}(hx:a[i]? = some x)(hy:b[i]? = some y)(h:x.toNat<y.toNat):val (a.take (i+1))<val (b.take (i+1)):=by
 rw[zaf hx,zaf hy];have h1:=zax (a.take i);have h2:4294967296^(a.take i).length≤4294967296^i:=Ym (by decide) (by simp;omega);have h3:=Yaj (4294967296^i) (show x.toNat+1≤y.toNat from h);rw[Yao]at h3;omega
theorem zlj{x y c:Nat}(hx:x<4294967296)(hy:y<4294967296)(hc:c≤1) :
  (x+8589934592-(y+c))%4294967296+(y+c)=x+4294967296*(2-(x+8589934592-(y+c))/4294967296)∧2-(x+8589934592-(y+c))/4294967296≤1:=by omega
def lls(l:List (List UInt32)):List (List AV):=l.map fun a=>[.sl (Zb a) .an]
@[simp] theorem z6u(l:List (List UInt32)):(lls l).length=l.length:=by simp[lls]
@[simp] theorem zakw(l:List (List UInt32)):wkL (lls l)=lls l:=by rw[zce];simp[lls,wkR]
@[simp] theorem z4l(l:List (List UInt32))(i:Nat)(h:i<(lls l).length):(lls l)[i]=[.sl (Zb (l[i]'(by simpa using h))) .an]:=by simp[lls]
end Go.Ab
end
section
namespace Go.Ab
section
variable{T:Tbl}
theorem zvx(a:List UInt32)(hl:a.length<9223372036854775808){n:Nat}(hn:n≤a.length)(h0:∀(i:Nat) (x:UInt32),n≤i→a[i]? = some x→x.toNat=0)(h1:∀x:UInt32,0<n→a[n-1]? = some x→x.toNat≠0) :
  ∀m:Nat,(n≤m∧m≤a.length)→Zf T 0 0 (.norm false [0,3]) l86_0 ⟨[(0,.sl (Zb a) .an),(3,.i .i64 (m:Int))],[],2⟩=some (.n,⟨[(0,.sl (Zb a) .an),(3,.i .i64 (n:Int))],[],2⟩):=by
 refine zaq (fun m:Nat=>⟨[(0,.sl (Zb a) .an),(3,.i .i64 (m:Int))],[],2⟩) _ (fun m=>m) _ ?_
 rintro m ⟨hm,hma⟩
 by_cases h2:m=0
 ·right;subst h2;have:n=0:=by omega
  subst this;constructor<;>simp[l86_0]
 ·have hw:IntKind.wrap .i64 ((m:Int)-1)=((m-1:Nat):Int):=by rw[zac _ (by omega)];omega
  have hm1:m-1<a.length:=by omega
  have hg:a[m-1]? = some (a[m-1]'hm1):=Ya hm1;have hpos:0<m:=by omega
  by_cases h3:m=n
  ·right;subst h3;have hx:=h1 _ hpos hg;constructor<;>simp[l86_0,hpos,hw,hm1,hx]
  ·left;refine⟨m-1,⟨by omega,by omega⟩,by show m-1<m;omega,?_,rfl⟩;have hx:=h0 (m-1) _ (by omega) hg;simp[l86_0,hpos,hw,hm1,hx]
end
section
variable{T:Tbl}[Zq T]
theorem zbp(a:List UInt32)(hl:a.length≤4294967296):Za T 86 [.sl (Zb a) .an]=some (.sl (Zb (ofN (val a))) .an):=by
 obtain⟨n,h1,h2,h3,h4⟩:=zf7 a;have hr:=zvx (T:=T) a (by omega) h1 h3 h4 a.length ⟨h1,Yd _⟩;rw[zab Zq.h86 rfl,b86];simp[hr,h1,h2]
theorem zvy(a:List UInt32)(m:Nat)(hl:a.length+m≤4294967296):Za T 106 [.sl (Zb a) .an,.i .i64 (m:Int)]=some (.sl (Zb (a++List.replicate m 0)) .an):=by
 have hw:IntKind.wrap .i64 ((a.length:Int)+m)=((a.length+m:Nat):Int):=zac _ (by omega);have h0:(0:Int)≤(a.length:Int)+m:=by omega
 have h2:(a.length:Int)+m≤4294967296:=by omega
 have h3:((a.length:Int)+m).toNat=a.length+m:=by omega
 rw[zab Zq.h106 rfl,b106];simp[hw,h0,h2,h3,Yb]
theorem zch(a:List UInt32)(m:Nat)(hl:a.length+m≤4294967296):Zbk T 2106 [.sl (Zb a) .an,.i .i64 (m:Int)] [] =
  some (.bs (.loc 10) 1 1 0 (a.length+m),[(.loc 10,⟨1,.own,1,Zb (a++List.replicate m 0)⟩)]):=by
 have hw:IntKind.wrap .i64 ((a.length:Int)+m)=((a.length+m:Nat):Int):=zac _ (by omega);have h0:(0:Int)≤(a.length:Int)+m:=by omega
 have h2:(a.length:Int)+m≤4294967296:=by omega
 have h3:((a.length:Int)+m).toNat=a.length+m:=by omega
 rw[za3 Zq.h2106 rfl,b2106];simp[hw,h0,h2,h3]
theorem zbf(a:List UInt32)(hl:a.length≤4294967296):Za T 71 [.sl (Zb a) .an]=some (.sl (Zb (ofN (val a))) .an):=by
 have h1:=zad a;have h2:=zvy (T:=T) (ofN (val a)) 0 (by omega);simp only[Yv]at h2;rw[zab Zq.h71 rfl,b71];simp[zbp a hl,h2]
theorem zef(n:Nat)(h:n<18446744073709551616):Za T 72 [u64 n]=some (.sl (Zb (ofN n)) .an):=by
 have e2:val [w32 n,w32 (n/4294967296)]=n:=by simp[zbx];omega
 have h2:=zbp (T:=T) [w32 n,w32 (n/4294967296)] (by simp);rw[e2]at h2;have h3:n/4294967296%4294967296=n/4294967296:=Yf (by omega);rw[zab Zq.h72 rfl,b72];simp[h3,za9 _ _ _ (show n/4294967296<4294967296 by omega),h2]
theorem zev(a:List UInt32)(hl:a.length≤4294967296):Za T 70 [.sl (Zb a) .an]=some (.b (decide (val a=0))):=by
 rw[zab Zq.h70 rfl,b70];have:((((ofN (val a)).length:Int) == 0))=decide (val a=0):=by
  rw[Ycb];simp[zap]
 simp[zbp a hl,this]
def Zf4(a b:List UInt32)(y:Nat×Nat×List UInt32):St:=
 ⟨[(0,.sl (Zb a) .an),(1,.sl (Zb b) .an),(5,.bs (.fld (.loc 17) 10) 1 1 0 (a.length+1)),(6,u32 y.2.1),(19,.i .i64 a.length),(20,.i .i64 y.1)],
  [(.fld (.loc 17) 10,⟨1,.own,1,Zb y.2.2⟩)],3⟩
theorem zm4(a b:List UInt32)(hb:b.length≤a.length)(hl:a.length≤1000000):∀y:Nat×Nat×List UInt32,
  (y.1≤a.length∧y.2.1≤1∧y.2.2.length=a.length+1∧val (y.2.2.take y.1)+4294967296^y.1*y.2.1=val (a.take y.1)+val (b.take y.1)) →
  ∃r,(∃(c:Nat) (out:List UInt32),r=(Ex.n,(⟨[(0,.sl (Zb a) .an),(5,.bs (.fld (.loc 17) 10) 1 1 0 (a.length+1)),(6,u32 c)],[(.fld (.loc 17) 10,⟨1,.own,1,Zb out⟩)],3⟩:St)) ∧
   out.length=a.length+1∧c≤1∧val (out.take a.length)+4294967296^a.length*c=val a+val b)∧Zf T 0 0 (.norm false [0,5,6]) l85_0 (Zf4 a b y)=some r:=by
 refine zas _ _ (fun y=>a.length-y.1) _ ?_
 rintro⟨i,c,out⟩ ⟨hi,hc,ho,hv⟩
 simp only at hi hc ho hv;by_cases h0:i<a.length
 ·left;have ha:a[i]? = some (a[i]'h0):=Ya h0;have hoi:i<out.length:=by omega
  have hog:out[i]? = some (out[i]'hoi):=Ya hoi;have hw:IntKind.wrap .i64 ((i:Int)+1)=((i+1:Nat):Int):=zac _ (by omega);have hc2:c<4294967296:=by omega
  have hil:(i:Int)<(a.length:Int)+1:=by omega
  have h1:=zaf ha;by_cases h2:i<b.length
  ·have hbg:b[i]? = some (b[i]'h2):=Ya h2;have h3:=zaf hbg;refine⟨(i+1,((a[i]'h0).toNat+(b[i]'h2).toNat+c)/4294967296,out.set i (w32 ((a[i]'h0).toNat+(b[i]'h2).toNat+c))),⟨by simp only;omega,?_,by simp[ho],?_⟩,by simp only;omega,?_⟩
   ·have:=zal (a[i]'h0);have:=zal (b[i]'h2);simp only;omega
   ·simp only;rw[zbn _ hoi,h1,h3,zbx,Y4];generalize 4294967296^i=p at *
    generalize (a[i]'h0).toNat=x at *
    generalize (b[i]'h2).toNat=z at *
    have e:=Yb0 (x+z+c) 4294967296;have e2:p*((x+z+c)%4294967296)+p*4294967296*((x+z+c)/4294967296)=p*(x+z+c):=by
     conv=>rhs;rw[←e]
     rw[Yao,Yad];omega
    rw[Yao,Yao]at e2;omega
   ·simp[l85_0,Zf4,h0,h2,hog,hw,hil,zee,hc2]
  ·have h3:val (b.take (i+1))=val (b.take i):=by rw[zbd (by omega),zbd (by omega)]
   refine⟨(i+1,((a[i]'h0).toNat+0+c)/4294967296,out.set i (w32 ((a[i]'h0).toNat+0+c))),⟨by simp only;omega,?_,by simp[ho],?_⟩,by simp only;omega,?_⟩
   ·have:=zal (a[i]'h0);simp only;omega
   ·simp only;rw[zbn _ hoi,h1,h3,zbx,Y4];generalize 4294967296^i=p at *
    generalize (a[i]'h0).toNat=x at *
    have e:=Yb0 (x+0+c) 4294967296;have e2:p*((x+0+c)%4294967296)+p*4294967296*((x+0+c)/4294967296)=p*(x+0+c):=by
     conv=>rhs;rw[←e]
     rw[Yao,Yad];omega
    rw[Yao,Yao]at e2;omega
   ·simp[l85_0,Zf4,h0,h2,hog,hw,hil,zee,hc2]
 ·right;have:i=a.length:=by omega
  subst this;rw[Yb (Yd _),Yb hb]at hv;refine⟨_,⟨c,out,rfl,ho,hc,hv⟩,?_,?_⟩<;>simp[l85_0,Zf4]
theorem zvz(a b:List UInt32)(hb:b.length≤a.length)(hl:a.length≤1000000):Za T 85 [.sl (Zb a) .an,.sl (Zb b) .an]=some (.sl (Zb (ofN (val a+val b))) .an):=by
 have hf:=zch (T:=T) a 1 (by omega);simp only[Ye6]at hf;obtain⟨_,⟨c,out,rfl,ho,hc,hv⟩,hr⟩:=zm4 (T:=T) a b hb hl (0,0,a++List.replicate 1 0) ⟨Yp _,Yp _,by simp,by simp⟩;unfold Zf4 at hr;simp at hr;have hog:out[a.length]? = some (out[a.length]'(by omega)):=Ya _;have h1:¬ (a.length:Int)<b.length:=by omega
 have h2:¬ a.length<b.length:=by omega
 have h3:(a.length:Int)<(a.length:Int)+1:=by omega
 have hval:val (out.set a.length (w32 c))=val a+val b:=by
  rw[←Yb (l:=out.set a.length (w32 c)) (i:=a.length+1) (by simp;omega),zbn _ (by omega),zag (by omega)];exact hv
 have ht:=zbp (T:=T) (out.set a.length (w32 c)) (by simp;omega);rw[hval]at ht;have htk:List.take (a.length+1) (out.set a.length (w32 c))=out.set a.length (w32 c):=Yb (by simp;omega);rw[zab Zq.h85 rfl,b85];simp[h1,hf,hr,h3,za9 _ _ _ (show c<4294967296 by omega),htk,ht,ho]
theorem zsd(a b:List UInt32)(hb:a.length<b.length)(hl:b.length≤1000000):Za T 85 [.sl (Zb a) .an,.sl (Zb b) .an]=some (.sl (Zb (ofN (val a+val b))) .an):=by
 have hf:=zch (T:=T) b 1 (by omega);simp only[Ye6]at hf;obtain⟨_,⟨c,out,rfl,ho,hc,hv⟩,hr⟩:=zm4 (T:=T) b a (by omega) hl (0,0,b++List.replicate 1 0) ⟨Yp _,Yp _,by simp,by simp⟩;unfold Zf4 at hr;simp at hr;have hog:out[b.length]? = some (out[b.length]'(by omega)):=Ya _;have h1:(a.length:Int)<b.length:=by omega
 have h3:(b.length:Int)<(b.length:Int)+1:=by omega
 have hval:val (out.set b.length (w32 c))=val a+val b:=by
  rw[←Yb (l:=out.set b.length (w32 c)) (i:=b.length+1) (by simp;omega),zbn _ (by omega),zag (by omega),hv,Ya8]
 have ht:=zbp (T:=T) (out.set b.length (w32 c)) (by simp;omega);rw[hval]at ht;have htk:List.take (b.length+1) (out.set b.length (w32 c))=out.set b.length (w32 c):=Yb (by simp;omega);rw[zab Zq.h85 rfl,b85];simp[h1,hf,hr,h3,za9 _ _ _ (show c<4294967296 by omega),htk,ht,ho]
theorem zzl(a b:List UInt32)(ha:a.length≤1000000)(hb:b.length≤1000000):Za T 85 [.sl (Zb a) .an,.sl (Zb b) .an]=some (.sl (Zb (ofN (val a+val b))) .an):=by
 rcases Yo a.length b.length with h | h
 ·exact zsd a b h hb
 ·exact zvz a b h ha
def Zdw(l:List (List UInt32)):Nat:=(l.map val).sum
theorem zzm(K:Nat):∀m:List (List UInt32),m.length≤1000→(∀a∈m,a.length≤K)→(ofN (Zdw m)).length≤K+1:=by
 intro m hm hw;apply zai;rw[Y4];have hp0:0<4294967296^K:=Ybb (by decide);have hall:∀a∈m,val a<4294967296^K:=fun a ha=>Yq (zax a) (Ym (by decide) (hw a ha));generalize 4294967296^K=p at *
 have h1:Zdw m≤m.length*p:=by
  clear hm hw
  induction m with
  | nil=>simp[Zdw]
  | cons a m ih=>
   have h2:=ih fun a ha=>hall a (Yn _ ha);have h3:=hall a Yz;simp only[Zdw,Y0,Ydm,Ye,Ybu,Yet]at h2 ⊢;omega
 have h6:=Yw p hm;omega
theorem zzn(l:List (List UInt32))(hl:l.length≤1000)(hw:∀a∈l,a.length≤90000):∀i:Nat,i≤l.length →
  Zf T 0 0 (.norm false [3]) l56_0 ⟨[(3,.sl (Zb (ofN (Zdw (l.take i)))) .an),(6,.sl (lls l) .an),(7,.i .i64 l.length),(8,.i .i64 i)],[],2⟩=some (.n,⟨[(3,.sl (Zb (ofN (Zdw l))) .an)],[],2⟩):=by
 refine zaq (fun i:Nat=>⟨[(3,.sl (Zb (ofN (Zdw (l.take i)))) .an),(6,.sl (lls l) .an),(7,.i .i64 l.length),(8,.i .i64 i)],[],2⟩) _ (fun i=>l.length-i) _ ?_;intro i hi;by_cases h0:i<l.length
 ·left;have hg:l[i]? = some (l[i]'h0):=Ya h0;have hwr:IntKind.wrap .i64 ((i:Int)+1)=((i+1:Nat):Int):=zac _ (by omega);have hw1:=hw _ (Yj h0);have ht:=zbp (T:=T) (l[i]'h0) (by omega);have hs:=zzm 90000 (l.take i) (by simp;omega) fun a ha=>hw a (Yak ha);have hp:=zzl (T:=T) (ofN (Zdw (l.take i))) (ofN (val (l[i]'h0))) (by omega) (by have:=zad (l[i]'h0);omega);rw[zae,zae]at hp;have e:Zdw (l.take i)+val (l[i]'h0)=Zdw (l.take (i+1)):=by
   unfold Zdw;rw[Yc3,hg];simp only[Option.toList_some,Ycz,Y0,Yb7,List.sum_append,Ydm,List.sum_nil,Yx]
  rw[e]at hp;have hz:Zi1 1 (lls l)=true:=by cases l<;>simp[lls,Zi1]
  refine⟨i+1,h0,by show l.length-(i+1)<l.length-i;omega,?_,rfl⟩;simp[l56_0,h0,ht,hp,hwr]
 ·right;have:i=l.length:=by omega
  subst this;rw[Yb (Yd _)];constructor<;>simp[l56_0]
theorem zqp(l:List (List UInt32))(hl:l.length≤1000)(hw:∀a∈l,a.length≤90000):Za T 56 [.sl (lls l) .an]=some (.sl (Zb (ofN (Zdw l))) .an):=by
 have h:=zzn (T:=T) l hl hw 0 (Yp _);simp[Zdw]at h;rw[zab Zq.h56 rfl,b56];simp[h,Zdw]
theorem zv0(l:List (List UInt32))(hl:l.length≤1000)(hw:∀a∈l,a.length≤10000):Za T 56 [.sl (lls l) .an]=some (.sl (Zb (ofN (Zdw l))) .an):=zqp (T:=T) l hl (fun a h=>Yc (hw a h) (by decide))
end
section
variable{T:Tbl}
theorem zzo(a b:List UInt32)(hab:a.length=b.length)(hl:a.length≤1000000):∀m:Nat,m≤a.length →
  Zf T 0 1 (.norm false []) l87_0 ⟨[(0,.sl (Zb a) .an),(1,.sl (Zb b) .an),(5,.i .i64 ((m:Int)-1))],[],2⟩ =
   if val (a.take m)<val (b.take m) then some (.r,⟨[(4,.i .i64 (-1))],[],2⟩) else if val (b.take m)<val (a.take m) then some (.r,⟨[(4,.i .i64 1)],[],2⟩) else some (.n,⟨[],[],2⟩):=by
 refine zaq (fun m:Nat=>⟨[(0,.sl (Zb a) .an),(1,.sl (Zb b) .an),(5,.i .i64 ((m:Int)-1))],[],2⟩) _ (fun m=>m) _ ?_;intro m hm;cases m with
 | zero=>
  right;constructor<;>simp[l87_0]
 | succ i=>
  have ha:a[i]? = some (a[i]'(by omega)):=Ya _;have hb:b[i]? = some (b[i]'(by omega)):=Ya _;have hia:i<a.length:=by omega
  have hib:i<b.length:=by omega
  have hw:IntKind.wrap .i64 ((i:Int)-1)=(i:Int)-1:=zac _ (by omega);rcases Ybx (a[i]'hia).toNat (b[i]'hib).toNat with h1 | h1 | h1
  ·right;have h2:=zxu ha hb h1;constructor<;>simp[l87_0,hia,hib,h1,h2]
  ·left;refine⟨i,by omega,Y1 i,?_,?_⟩
   ·simp[l87_0,hia,hib,h1,hw]
   ·have e1:=zaf ha;have e2:=zaf hb;rw[e1,e2,h1];have e3:(val (a.take i)+4294967296^i*(b[i]'hib).toNat<val (b.take i)+4294967296^i*(b[i]'hib).toNat)=(val (a.take i)<val (b.take i)):=by
     apply propext;omega
    have e4:(val (b.take i)+4294967296^i*(b[i]'hib).toNat<val (a.take i)+4294967296^i*(b[i]'hib).toNat)=(val (b.take i)<val (a.take i)):=by
     apply propext;omega
    simp only[e3,e4]
  ·right;have h2:=zxu hb ha h1;have h3:¬ val (a.take (i+1))<val (b.take (i+1)):=by omega
   have h4:¬ (a[i]'hia).toNat<(b[i]'hib).toNat:=by omega
   constructor<;>simp[l87_0,hia,hib,h1,h2,h3,h4]
end
section
variable{T:Tbl}[Zq T]
theorem zgk(a b:List UInt32)(ha:a.length≤1000000)(hb:b.length≤1000000):Za T 87 [.sl (Zb a) .an,.sl (Zb b) .an]=some (.i .i64 (Zcs (val a) (val b))):=by
 have hta:=zbp (T:=T) a (by omega);have htb:=zbp (T:=T) b (by omega);have hla:=zad a;have hlb:=zad b;rw[zab Zq.h87 rfl,b87];rcases Ybx (ofN (val a)).length (ofN (val b)).length with h | h | h
 ·have h1:=zgr h;simp[hta,htb,h,Zcs,h1]
 ·have hc:=zzo (T:=T) (ofN (val a)) (ofN (val b)) h (by omega) (ofN (val a)).length (Yd _);rw[Yb (Yd _),Yb (by omega),zae,zae]at hc;have hw:IntKind.wrap .i64 (((ofN (val a)).length:Int)-1)=((ofN (val a)).length:Int)-1:=zac _ (by omega);have h1:¬ (ofN (val a)).length<(ofN (val b)).length:=by omega
  have h2:¬ (ofN (val b)).length<(ofN (val a)).length:=by omega
  simp[hta,htb,h1,h2,hw,hc,Zcs]
  repeat' split
  all_goals simp
 ·have h1:=zgr h;have h2:¬ val a<val b:=by omega
  have h3:¬ (ofN (val a)).length<(ofN (val b)).length:=by omega
  simp[hta,htb,h,Zcs,h1,h2,h3]
def Zip(a b:List UInt32)(y:Nat×Nat×List UInt32):St:=
 ⟨[(0,.sl (Zb a) .an),(1,.sl (Zb b) .an),(6,.bs (.fld (.loc 19) 10) 1 1 0 a.length),(7,u32 y.2.1),(21,.i .i64 a.length),(22,.i .i64 y.1)],
  [(.fld (.loc 19) 10,⟨1,.own,1,Zb y.2.2⟩)],3⟩
theorem zzp(a b:List UInt32)(hb:b.length≤a.length)(hl:a.length≤1000000):∀y:Nat×Nat×List UInt32,
  (y.1≤a.length∧y.2.1≤1∧y.2.2.length=a.length∧val (y.2.2.take y.1)+val (b.take y.1)=val (a.take y.1)+4294967296^y.1*y.2.1) →
  ∃r,(∃(c:Nat) (out:List UInt32),r=(Ex.n,(⟨[(6,.bs (.fld (.loc 19) 10) 1 1 0 a.length)],[(.fld (.loc 19) 10,⟨1,.own,1,Zb out⟩)],3⟩:St)) ∧
   out.length=a.length∧c≤1∧val out+val b=val a+4294967296^a.length*c)∧Zf T 0 0 (.norm false [6]) l88_0 (Zip a b y)=some r:=by
 refine zas _ _ (fun y=>a.length-y.1) _ ?_
 rintro⟨i,c,out⟩ ⟨hi,hc,ho,hv⟩
 simp only at hi hc ho hv;by_cases h0:i<a.length
 ·left;have ha:a[i]? = some (a[i]'h0):=Ya h0;have hoi:i<out.length:=by omega
  have hog:out[i]? = some (out[i]'hoi):=Ya hoi;have hw:IntKind.wrap .i64 ((i:Int)+1)=((i+1:Nat):Int):=zac _ (by omega);have hc2:c<4294967296:=by omega
  have hx:=zal (a[i]'h0);have h1:=zaf ha;have fin:∀z:Nat,z<4294967296→val (b.take (i+1))=val (b.take i)+4294967296^i*z →
    val ((out.set i (w32 ((a[i]'h0).toNat+8589934592-(z+c)))).take (i+1))+val (b.take (i+1))=val (a.take (i+1))+4294967296^(i+1)*(2-((a[i]'h0).toNat+8589934592-(z+c))/4294967296):=by
   intro z hz h3;have hs:=(zlj hx hz hc).1;rw[zbn _ hoi,h1,h3,zbx,Y4];generalize 4294967296^i=p at *
   generalize (a[i]'h0).toNat=x at *
   generalize (x+8589934592-(z+c))%4294967296=s at *
   generalize 2-(x+8589934592-(z+c))/4294967296=d at *
   have e2:p*s+p*(z+c)=p*x+p*4294967296*d:=by rw[←Yao,hs,Yao,Yad]
   rw[Yao]at e2;omega
  by_cases h2:i<b.length
  ·have hbg:b[i]? = some (b[i]'h2):=Ya h2;have h3:=zaf hbg;refine⟨(i+1,2-((a[i]'h0).toNat+8589934592-((b[i]'h2).toNat+c))/4294967296,out.set i (w32 ((a[i]'h0).toNat+8589934592-((b[i]'h2).toNat+c)))),⟨h0,(zlj hx (zal _) hc).2,by simp[ho],fin _ (zal _) h3⟩,by simp only;omega,?_⟩;simp[l88_0,Zip,h0,h2,hog,hw,zfy,hc2]
  ·have h3:val (b.take (i+1))=val (b.take i)+4294967296^i*0:=by rw[zbd (by omega),zbd (by omega)];simp
   refine⟨(i+1,2-((a[i]'h0).toNat+8589934592-(0+c))/4294967296,out.set i (w32 ((a[i]'h0).toNat+8589934592-(0+c)))),⟨h0,(zlj hx (by decide) hc).2,by simp[ho],fin 0 (by decide) h3⟩,by simp only;omega,?_⟩;simp[l88_0,Zip,h0,h2,hog,hw,zfy,hc2]
 ·right;have:i=a.length:=by omega
  subst this;rw[Yb (Yd _),Yb hb,Yb (by omega)]at hv;refine⟨_,⟨c,out,rfl,ho,hc,hv⟩,?_,?_⟩<;>simp[l88_0,Zip]
theorem zcu{x y:Nat}:Zcs x y<0↔x<y:=by
 unfold Zcs;split
 ·simp[*]
 ·split<;>simp[*]
theorem zv1(a b:List UInt32)(ha:a.length≤1000000)(hb:b.length≤1000000):Za T 88 [.sl (Zb a) .an,.sl (Zb b) .an] =
  some (if val a<val b then .tup [.sl [] .an,.b false] else .tup [.sl (Zb (ofN (val a-val b))) .an,.b true]):=by
 have hta:=zbp (T:=T) a (by omega);have htb:=zbp (T:=T) b (by omega);have hla:=zad a;have hlb:=zad b;have hc:=zgk (T:=T) (ofN (val a)) (ofN (val b)) (by omega) (by omega);rw[zae,zae]at hc;rw[zab Zq.h88 rfl,b88];by_cases h:val a<val b
 ·simp[hta,htb,hc,zcu,h]
 ·have hle:=zar (show val b≤val a by omega);have hf:=zch (T:=T) (ofN (val a)) 0 (by omega);simp only[Yv,Yx,List.replicate_zero,Yaq]at hf;obtain⟨_,⟨c,out,rfl,ho,hc1,hv⟩,hr⟩:=zzp (T:=T) (ofN (val a)) (ofN (val b)) hle (by omega) (0,0,ofN (val a)) ⟨Yp _,Yp _,rfl,by simp⟩;unfold Zip at hr;simp at hr;rw[zae,zae]at hv;have hlt:=zax out;rw[ho]at hlt;have hc0:c=0:=by
   rcases Yav c with h1 | h1
   ·exact h1
   ·have:c=1:=by omega
    subst this;omega
  subst hc0;have hval:val out=val a-val b:=by omega
  have ht:=zbp (T:=T) out (by omega);rw[hval]at ht;have htk:List.take (ofN (val a)).length out=out:=Yb (by omega);simp[hta,htb,hc,zcu,h,hf,hr,ho,htk,ht]
theorem z3j(a b:List UInt32)(ha:a.length≤1000000)(hb:b.length≤1000000):Za T 57 [.sl (Zb a) .an,.sl (Zb b) .an] =
  some (.tup [.sl (Zb (ofN (if val a<val b then val b-val a else val a-val b))) .an,.i .i64 (Zcs (val a) (val b))]):=by
 have hc:=zgk (T:=T) a b ha hb;rw[zab Zq.h57 rfl,b57];by_cases h:val a<val b
 ·have h2:¬ val b<val a:=by omega
  have hs:=zv1 (T:=T) b a hb ha;rw[if_neg h2]at hs;simp[hc,zcu,h,hs]
 ·have hs:=zv1 (T:=T) a b ha hb;rw[if_neg h]at hs;simp[hc,zcu,h,hs]
theorem zzq{x y:Nat}(hx:x<4294967296):x ||| (y*4294967296)=x+y*4294967296:=by
 have:=Yc0 (i:=32) hx y;rw[Nat.or_comm,Yae y,show (4294967296:Nat)=2^32 from rfl,←this];omega
end
section
variable{T:Tbl}
theorem zse(l:List UInt32)(hl:l.length≤2):∀i:Nat,i≤l.length →
  Zf T 0 0 (.norm false [4]) l73_0 ⟨[(4,u64 (val (l.take i))),(12,.sl (Zb l) .an),(13,.i .i64 l.length),(14,.i .i64 i)],[],2⟩=some (.n,⟨[(4,u64 (val l))],[],2⟩):=by
 refine zaq (fun i:Nat=>⟨[(4,u64 (val (l.take i))),(12,.sl (Zb l) .an),(13,.i .i64 l.length),(14,.i .i64 i)],[],2⟩) _ (fun i=>l.length-i) _ ?_;intro i hi;by_cases h0:i<l.length
 ·left;have hg:l[i]? = some (l[i]'h0):=Ya h0;have hx:=zal (l[i]'h0);have h1:=zaf hg;refine⟨i+1,h0,by show l.length-(i+1)<l.length-i;omega,?_,rfl⟩;rcases(show i=0∨i=1 by omega) with rfl | rfl
  ·simp[l73_0,h0,h1]
  ·have h2:val (l.take 1)<4294967296:=by
    have:=zax (l.take 1);have h3:(l.take 1).length=1:=by simp;omega
    rw[h3]at this;simpa using this
   have e1:(l[1]'h0).toNat*4294967296%18446744073709551616=(l[1]'h0).toNat*4294967296:=Yf (by omega);have e2:=zzq (y:=(l[1]'h0).toNat) h2;have e3:(val (l.take 1)+(l[1]'h0).toNat*4294967296)%18446744073709551616=val (l.take 1)+(l[1]'h0).toNat*4294967296:=Yf (by omega);have e4:val (l.take 1)+(l[1]'h0).toNat*4294967296=val (l.take (1+1)):=by rw[h1];omega
   simp at e4;have h0':(1:Int)<(l.length:Int):=by omega
   have e5:val (List.take 2 l)<18446744073709551616:=by omega
   simp[l73_0,h0,h0',e1,e2,e4,e5]
 ·right;have:i=l.length:=by omega
  subst this;rw[Yb (Yd _)];constructor<;>simp[l73_0]
end
section
variable{T:Tbl}[Zq T]
theorem zm5(a:List UInt32)(ha:a.length≤1000000):Za T 73 [.sl (Zb a) .an] =
  some (if val a<18446744073709551616 then .tup [u64 (val a),.b true] else .tup [u64 0,.b false]):=by
 have hta:=zbp (T:=T) a (by omega);have hla:=zad a;have hv:=zae (val a);rw[zab Zq.h73 rfl,b73];generalize hl:ofN (val a)=l at *
 by_cases h:2<l.length
 ·have h2:¬ val a<18446744073709551616:=by
   intro h3;have:=zai (show val a<4294967296^2 from h3);rw[hl]at this;omega
  have h3:(2:Int)<(l.length:Int):=by omega
  simp[hta,h3,h2]
 ·have h2:val a<18446744073709551616:=by
   have:=zax l;rw[hv]at this;have h3:4294967296^l.length≤4294967296^2:=Ym (by decide) (by omega);omega
  have h3:¬ (2:Int)<(l.length:Int):=by omega
  have hs:=zse (T:=T) l (by omega) 0 (Yp _);simp at hs;simp[hta,h3,h2,hs,hv]
end
end Go.Ab
end
section
namespace Go.Ab
def l89_0:AX:=
 (.note
 (.seq
 (.reg [rg 15 (.bin .lss (.t 14) (.t 13))])
 (.seq
 (.cond (.t 15)
 .skip
 (.exit 0))
 (.seq
 (.block 1
 (.seq
 (.reg [mv 16 14,rg 17 (.iad 1 (.t 12) (.t 14)),rg 18 (.load none (.t 17)),mv 10 16,mv 11 18])
 (.reg [mv 20 0,mv 21 1,mv 22 10,rg 23 (.bin .add (.t 21) (.t 22)),mv 24 3,mv 25 11,mv 26 0,mv 27 1,mv 28 10,rg 29 (.bin .add (.t 27) (.t 28)),rg 30 (.iad 1 (.t 26) (.t 29)),rg 31 (.load none (.t 30)),mv 32 4,rg 33 (.call 117 [(.t 24),(.t 25),(.t 31),(.t 32)]),mv 19 33,rg 34 (.ext (.t 19) 0),rg 35 (.ext (.t 19) 1),mv 4 34,rg 36 (.iad 1 (.t 20) (.t 23)),so (.store 1 (.t 36) (.t 35))])))
 (.reg [rg 37 (.bin .add (.t 14) (.c (.i .i64 1))),mv 14 37]))))
 (.norm false [0,1,2,3,4,12,13,14]))
def b89:AX:=
 (.seq
 (.seq
 (.reg [mv 12 2,rg 13 (.len (.t 12)),rg 14 (.mov (.c (.i .i64 0)))])
 (.lp 0 (.norm false [0,1,2,3,4,12,13,14]) l89_0 (.norm false [0,1,2,4])))
 (.reg [mv 38 0,mv 39 1,mv 40 2,rg 41 (.len (.t 40)),rg 42 (.bin .add (.t 39) (.t 41)),mv 43 4,rg 44 (.iad 1 (.t 38) (.t 42)),so (.store 1 (.t 44) (.t 43))]))
def b100:AX:=
 (.seq
 (.reg [rg 6 (.mov (.c (.sl [] .nl)))])
 (.seq
 (.reg [mv 8 0,rg 9 (.len (.t 8)),rg 10 (.bin .add (.t 9) (.c (.i .i64 1))),rg 11 (.mks 1 [(u32 0)] (.t 10) (.t 10)),mv 7 11])
 (.seq
 (.reg [mv 12 7,mv 13 0,mv 14 1,mv 15 2,rg 16 (.call 89 [(.t 12),(.c (.i .i64 0)),(.t 13),(.t 14),(.t 15)])])
 (.seq
 (.reg [mv 17 7,rg 18 (.call 71 [(.t 17)]),mv 6 18])
 (.pre (.norm false [6]) .ret)))))
def l60_0:AX:=
 (.note
 (.seq
 (.reg [rg 18 (.bin .lss (.t 17) (.t 16))])
 (.seq
 (.cond (.t 18)
 .skip
 (.exit 0))
 (.seq
 (.block 1
 (.seq
 (.reg [mv 19 17,rg 20 (.iad 1 (.t 15) (.t 17)),rg 21 (.load none (.t 20)),mv 6 19,mv 7 21])
 (.reg [mv 22 5,mv 23 6,mv 24 0,mv 25 7,rg 26 (.call 89 [(.t 22),(.t 23),(.t 24),(.t 25),(.c (u32 0))])])))
 (.reg [rg 27 (.bin .add (.t 17) (.c (.i .i64 1))),mv 17 27]))))
 (.norm false [0,5,15,16,17]))
def b60:AX:=
 (.seq
 (.reg [rg 4 (.mov (.c (.sl [] .nl)))])
 (.seq
 (.reg [mv 8 0,rg 9 (.len (.t 8)),mv 10 1,rg 11 (.len (.t 10)),rg 12 (.bin .add (.t 9) (.t 11)),rg 13 (.bin .add (.t 12) (.c (.i .i64 1))),rg 14 (.mks 1 [(u32 0)] (.t 13) (.t 13)),mv 5 14])
 (.seq
 (.seq
 (.reg [mv 15 1,rg 16 (.len (.t 15)),rg 17 (.mov (.c (.i .i64 0)))])
 (.lp 0 (.norm false [0,5,15,16,17]) l60_0 (.norm false [5])))
 (.seq
 (.reg [mv 28 5,rg 29 (.call 71 [(.t 28)]),mv 4 29])
 (.pre (.norm false [4]) .ret)))))
def row89:AFx:=⟨5,45,[],b89,(some [true,false,false,false,false]),false⟩
def row100:AFx:=⟨3,19,[.t 6],b100,none,false⟩
def row60:AFx:=⟨2,30,[.t 4],b60,none,false⟩
class Zw (T:Tbl):Prop extends Zq T where
 h89:T 89=some row89
 h100:T 100=some row100
 h60:T 60=some row60
section
variable{T:Tbl}[Zw T]{d:Option Nat}{st:St}
@[simp] theorem x89(xs:List AV):Zc (orc T) T 89 xs d st=bL (Zd4 st.heap [true,false,false,false,false] xs) fun ys=>Zdl ys (Zh (Zap [true,false,false,false,false] xs) st.heap) (Zck (Zh (Zap [true,false,false,false,false] xs) st.heap) 40 (Zb8 [true,false,false,false,false] xs) []) T 89 false d st:=zau Zw.h89
@[simp] theorem x100(xs:List AV):Zc (orc T) T 100 xs d st=cP T 100 false xs d st:=zaa Zw.h100
@[simp] theorem x60(xs:List AV):Zc (orc T) T 60 xs d st=cP T 60 false xs d st:=zaa Zw.h60
@[simp] theorem y60{e:Env}{h:Heap}{older:List Heap}(args:List Opd):opD (orc T) T (.call 60 args) e h older=dR (Za T 60 ((args.map (ev e.get)).map (wkIf false))) (args.map (ev e.get)):=zaj Zw.h60
end
end Go.Ab
end
section
namespace Go.Ab
def l92_0:AX:=
 (.note
 (.seq
 (.reg [rg 27 (.bin .lss (.t 26) (.t 25))])
 (.seq
 (.cond (.t 27)
 .skip
 (.exit 0))
 (.seq
 (.block 1
 (.seq
 (.reg [mv 28 26,rg 29 (.iad 1 (.t 24) (.t 26)),rg 30 (.load none (.t 29)),mv 8 28,mv 9 30])
 (.seq
 (.reg [mv 31 9,rg 32 (.conv .u64 (.t 31)),mv 33 6,rg 34 (.bin .shl (.t 32) (.t 33)),mv 10 34])
 (.seq
 (.reg [mv 35 7,mv 36 5,mv 37 8,rg 38 (.bin .add (.t 36) (.t 37)),rg 39 (.iad 1 (.t 35) (.t 38)),rg 40 (.load none (.t 39)),mv 41 10,rg 42 (.conv .u32 (.t 41)),rg 43 (.bin .or (.t 40) (.t 42)),rg 44 (.iad 1 (.t 35) (.t 38)),so (.store 1 (.t 44) (.t 43))])
 (.reg [mv 45 7,mv 46 5,mv 47 8,rg 48 (.bin .add (.t 46) (.t 47)),rg 49 (.bin .add (.t 48) (.c (.i .i64 1))),mv 50 10,rg 51 (.bin .shr (.t 50) (.c (u64 32))),rg 52 (.conv .u32 (.t 51)),rg 53 (.iad 1 (.t 45) (.t 49)),so (.store 1 (.t 53) (.t 52))])))))
 (.reg [rg 54 (.bin .add (.t 26) (.c (.i .i64 1))),mv 26 54]))))
 (.norm false [5,6,7,24,25,26]))
def b92:AX:=
 (.seq
 (.reg [rg 4 (.mov (.c (.sl [] .nl)))])
 (.seq
 (.reg [mv 11 1,rg 12 (.mm true [(.t 11),(.c (.i .i64 0))]),rg 13 (.mm false [(.t 12),(.c (.i .i64 4096))]),mv 1 13])
 (.seq
 (.reg [mv 14 1,rg 15 (.bin .quo (.t 14) (.c (.i .i64 32))),mv 16 1,rg 17 (.bin .rem (.t 16) (.c (.i .i64 32))),mv 5 15,mv 6 17])
 (.seq
 (.reg [mv 18 5,mv 19 0,rg 20 (.len (.t 19)),rg 21 (.bin .add (.t 18) (.t 20)),rg 22 (.bin .add (.t 21) (.c (.i .i64 1))),rg 23 (.mks 1 [(u32 0)] (.t 22) (.t 22)),mv 7 23])
 (.seq
 (.seq
 (.reg [mv 24 0,rg 25 (.len (.t 24)),rg 26 (.mov (.c (.i .i64 0)))])
 (.lp 0 (.norm false [5,6,7,24,25,26]) l92_0 (.norm false [7])))
 (.seq
 (.reg [mv 55 7,rg 56 (.call 71 [(.t 55)]),mv 4 56])
 (.pre (.norm false [4]) .ret)))))))
def l94_0:AX:=
 (.note
 (.seq
 (.reg [rg 28 (.bin .lss (.t 27) (.t 26))])
 (.seq
 (.cond (.t 28)
 .skip
 (.exit 0))
 (.seq
 (.block 1
 (.seq
 (.reg [mv 29 27,mv 8 29])
 (.seq
 (.reg [mv 30 0,mv 31 5,mv 32 8,rg 33 (.bin .add (.t 31) (.t 32)),rg 34 (.iad 1 (.t 30) (.t 33)),rg 35 (.load none (.t 34)),rg 36 (.conv .u64 (.t 35)),mv 9 36])
 (.seq
 (.seq
 (.reg [mv 37 5,mv 38 8,rg 39 (.bin .add (.t 37) (.t 38)),rg 40 (.bin .add (.t 39) (.c (.i .i64 1))),mv 41 0,rg 42 (.len (.t 41)),rg 43 (.bin .lss (.t 40) (.t 42))])
 (.cond (.t 43)
 (.reg [mv 44 9,mv 45 0,mv 46 5,mv 47 8,rg 48 (.bin .add (.t 46) (.t 47)),rg 49 (.bin .add (.t 48) (.c (.i .i64 1))),rg 50 (.iad 1 (.t 45) (.t 49)),rg 51 (.load none (.t 50)),rg 52 (.conv .u64 (.t 51)),rg 53 (.bin .shl (.t 52) (.c (u64 32))),rg 54 (.bin .or (.t 44) (.t 53)),mv 9 54])
 .skip))
 (.reg [mv 55 7,mv 56 8,mv 57 9,mv 58 6,rg 59 (.bin .shr (.t 57) (.t 58)),rg 60 (.conv .u32 (.t 59)),rg 61 (.iad 1 (.t 55) (.t 56)),so (.store 1 (.t 61) (.t 60))])))))
 (.reg [rg 62 (.bin .add (.t 27) (.c (.i .i64 1))),mv 27 62]))))
 (.norm false [0,5,6,7,26,27]))
def b94:AX:=
 (.seq
 (.reg [rg 4 (.mov (.c (.sl [] .nl)))])
 (.seq
 (.reg [mv 10 1,rg 11 (.mm true [(.t 10),(.c (.i .i64 0))]),mv 1 11])
 (.seq
 (.reg [mv 12 1,rg 13 (.bin .quo (.t 12) (.c (.i .i64 32))),mv 14 1,rg 15 (.bin .rem (.t 14) (.c (.i .i64 32))),mv 5 13,mv 6 15])
 (.seq
 (.seq
 (.reg [mv 16 5,mv 17 0,rg 18 (.len (.t 17)),rg 19 (.bin .geq (.t 16) (.t 18))])
 (.cond (.t 19)
 (.seq
 (.reg [rg 4 (.mov (.c (.sl [] .nl)))])
 (.pre (.norm false [4]) .ret))
 .skip))
 (.seq
 (.reg [mv 20 0,rg 21 (.len (.t 20)),mv 22 5,rg 23 (.bin .sub (.t 21) (.t 22)),rg 24 (.mks 1 [(u32 0)] (.t 23) (.t 23)),mv 7 24])
 (.seq
 (.seq
 (.reg [mv 25 7,rg 26 (.len (.t 25)),rg 27 (.mov (.c (.i .i64 0)))])
 (.lp 0 (.norm false [0,5,6,7,26,27]) l94_0 (.norm false [7])))
 (.seq
 (.reg [mv 63 7,rg 64 (.call 71 [(.t 63)]),mv 4 64])
 (.pre (.norm false [4]) .ret))))))))
def row92:AFx:=⟨2,57,[.t 4],b92,none,false⟩
def row94:AFx:=⟨2,65,[.t 4],b94,none,false⟩
class Zz (T:Tbl):Prop where
 h92:T 92=some row92
 h94:T 94=some row94
section
variable{T:Tbl}[Zz T]{d:Option Nat}{st:St}
@[simp] theorem x92(xs:List AV):Zc (orc T) T 92 xs d st=cP T 92 false xs d st:=zaa Zz.h92
@[simp] theorem x94(xs:List AV):Zc (orc T) T 94 xs d st=cP T 94 false xs d st:=zaa Zz.h94
end
end Go.Ab
end
section
namespace Go.Ab
theorem zdb{P m S:List UInt32}{i:Nat}(hm:m.length=i)(hi:i<S.length):(P++(m++S.drop i))[P.length+i]? = some (S[i]'hi):=by
 rw[Yl (by omega),Ybr,Yl (by omega),hm,Yb1,Yah,Yx,Ya hi]
theorem zcw{P m S:List UInt32}{i:Nat}(w:UInt32)(hm:m.length=i)(hi:i<S.length):(P++(m++S.drop i)).set (P.length+i) w=P++((m++[w])++S.drop (i+1)):=by
 rw[Yac (P.length+i) w (by omega),Ybr,Yac i w (by omega),hm,Yb1,Yi hi,Yb2];simp
section
variable{T:Tbl}[Zw T]
def Zjh(P S a:List UInt32)(x:Nat)(y:Nat×Nat×List UInt32):St:=
 ⟨[(0,.bs (.bor 0) 0 1 0 (P.length+S.length)),(1,.i .i64 P.length),(2,.sl (Zb a) .an),(3,u32 x),(4,u32 y.2.1),(12,.sl (Zb a) .an),(13,.i .i64 a.length),(14,.i .i64 y.1)],
  [(.bor 0,⟨0,.own,1,Zb (P++(y.2.2++S.drop y.1))⟩)],4⟩
theorem zqr{p m w c c' s x y t v k:Nat}(h:m+p*c=s+x*t+k)(e:w+4294967296*c'=x*y+v+c):(m+p*w)+p*4294967296*c'=(s+p*v)+x*(t+p*y)+k:=by
 have e2:p*w+p*4294967296*c'=p*(x*y)+p*v+p*c:=by rw[Yad,←Yao,e,Yao,Yao]
 have e3:x*(t+p*y)=x*t+p*(x*y):=by rw[Yao,←Yad,Yae x p,Yad]
 omega
theorem zzw(P S a:List UInt32)(x c0:Nat)(hx:x<4294967296)(hS:a.length<S.length)(hl:P.length+S.length≤1000000):∀y:Nat×Nat×List UInt32,
  (y.1≤a.length∧y.2.1<4294967296∧y.2.2.length=y.1∧val y.2.2+4294967296^y.1*y.2.1=val (S.take y.1)+x*val (a.take y.1)+c0) →
  ∃r,(∃(c:Nat) (m:List UInt32),r=(Ex.n,(⟨[(0,.bs (.bor 0) 0 1 0 (P.length+S.length)),(1,.i .i64 P.length),(2,.sl (Zb a) .an),(4,u32 c)],[(.bor 0,⟨0,.own,1,Zb (P++(m++S.drop a.length))⟩)],4⟩:St)) ∧
   m.length=a.length∧c<4294967296∧val m+4294967296^a.length*c=val (S.take a.length)+x*val a+c0)∧Zf T 1 0 (.norm false [0,1,2,4]) l89_0 (Zjh P S a x y)=some r:=by
 refine zas _ _ (fun y=>a.length-y.1) _ ?_
 rintro⟨i,c,m⟩ ⟨hi,hc,hm,hv⟩
 simp only at hi hc hm hv;by_cases h0:i<a.length
 ·left;have ha:a[i]? = some (a[i]'h0):=Ya h0;have hiS:i<S.length:=by omega
  have hs:S[i]? = some (S[i]'hiS):=Ya hiS;have hg:=zdb (P:=P) hm hiS;have hw:IntKind.wrap .i64 ((i:Int)+1)=((i+1:Nat):Int):=zac _ (by omega);have hw2:IntKind.wrap .i64 ((P.length:Int)+i)=((P.length+i:Nat):Int):=zac _ (by omega);have hlt:P.length+i<P.length+S.length:=by omega
  have hlt2:((P.length+i:Nat):Int)<(P.length:Int)+S.length:=by omega
  have hla:=zal (a[i]'h0);have hls:=zal (S[i]'hiS);have hmul:=zgx hx hla;have hlen:(P++(m++S.drop i)).length=P.length+S.length:=by simp;omega
  have hcall:=zia (T:=T) x (a[i]'h0).toNat (S[i]'hiS).toNat c hx hla hls hc;have hset:=zcw (P:=P) (w32 (x*(a[i]'h0).toNat+(S[i]'hiS).toNat+c)) hm hiS;refine⟨(i+1,(x*(a[i]'h0).toNat+(S[i]'hiS).toNat+c)/4294967296,m++[w32 (x*(a[i]'h0).toNat+(S[i]'hiS).toNat+c)]),⟨h0,by simp only;omega,by simp[hm],?_⟩,by simp only;omega,?_⟩
  ·simp only;rw[zah,zaf ha,zaf hs,Y4,hm];simp only[zak,za5,Yan,Yx,zbx];exact zqr hv (by have:=Yb0 (x*(a[i]'h0).toNat+(S[i]'hiS).toNat+c) 4294967296;omega)
  ·simp[l89_0,Zjh,h0,hw,hw2,hiS,hg,hcall,hset]
 ·right;have:i=a.length:=by omega
  subst this;rw[Yb (Yd a.length)]at hv;refine⟨_,⟨c,m,rfl,hm,hc,hv⟩,?_,?_⟩<;>simp[l89_0,Zjh]
theorem zk9(P S a:List UInt32)(x c0:Nat)(hx:x<4294967296)(hc:c0<4294967296)(hS:a.length<S.length)(hl:P.length+S.length≤1000000) :
  ∃m,m.length=a.length+1∧val m=val (S.take a.length)+x*val a+c0 ∧
   Zbk T 89 [.bs (.bor 0) 0 1 0 (P.length+S.length),.i .i64 P.length,.sl (Zb a) .an,u32 x,u32 c0] [(.bor 0,⟨0,.own,1,Zb (P++S)⟩)] =
    some (.tup [],[(.bor 0,⟨0,.own,1,Zb (P++(m++S.drop (a.length+1)))⟩)]):=by
 obtain⟨_,⟨c,m,rfl,hm,hc1,hv⟩,hr⟩:=zzw (T:=T) P S a x c0 hx hS hl (0,c0,[]) ⟨Yp _,hc,rfl,by simp⟩;unfold Zjh at hr;simp at hr;refine⟨m++[w32 c],by simp[hm],by rw[zah,hm];simpa[zag hc1]using hv,?_⟩;have hw2:IntKind.wrap .i64 ((P.length:Int)+a.length)=((P.length+a.length:Nat):Int):=zac _ (by omega);have hlt:P.length+a.length<P.length+S.length:=by omega
 have hlt2:((P.length+a.length:Nat):Int)<(P.length:Int)+S.length:=by omega
 have hg:=zdb (P:=P) hm hS;have hset:=zcw (P:=P) (w32 c) hm hS;rw[za3 Zw.h89 rfl,b89];simp[hr,hw2,hg,hS,za9 _ _ _ hc1,hset]
def Zji(a b:List UInt32)(y:Nat×List UInt32):St:=
 ⟨[(0,.sl (Zb a) .an),(5,.bs (.loc 14) 1 1 0 (a.length+b.length+1)),(15,.sl (Zb b) .an),(16,.i .i64 b.length),(17,.i .i64 y.1)],[(.loc 14,⟨1,.own,1,Zb (y.2++List.replicate (b.length+1-y.1) 0)⟩)],3⟩
theorem zzx(a b:List UInt32)(ha:a.length≤100000)(hb:b.length≤100000):∀y:Nat×List UInt32,
  (y.1≤b.length∧y.2.length=a.length+y.1∧val y.2=val a*val (b.take y.1)) →
  ∃r,(∃out:List UInt32,r=(Ex.n,(⟨[(5,.bs (.loc 14) 1 1 0 (a.length+b.length+1))],[(.loc 14,⟨1,.own,1,Zb out⟩)],3⟩:St))∧out.length=a.length+b.length+1∧val out=val a*val b) ∧
   Zf T 0 0 (.norm false [5]) l60_0 (Zji a b y)=some r:=by
 refine zas _ _ (fun y=>b.length-y.1) _ ?_
 rintro⟨i,X⟩ ⟨hi,hX,hv⟩
 simp only at hi hX hv;by_cases h0:i<b.length
 ·left;have hbg:b[i]? = some (b[i]'h0):=Ya h0;have hw:IntKind.wrap .i64 ((i:Int)+1)=((i+1:Nat):Int):=zac _ (by omega);obtain⟨m,hm1,hm2,hc⟩:=zk9 (T:=T) (X.take i) (X.drop i++List.replicate (b.length+1-i) 0) a (b[i]'h0).toNat 0 (zal _) (by decide) (by simp;omega) (by simp;omega);have e1:X.take i++(X.drop i++List.replicate (b.length+1-i) 0)=X++List.replicate (b.length+1-i) 0:=by rw[←Y8,Ya1]
  have e2:(X.take i).length=i:=by simp;omega
  have e3:(X.drop i++List.replicate (b.length+1-i) 0).length=a.length+b.length+1-i:=by simp;omega
  have e4:i+(a.length+b.length+1-i)=a.length+b.length+1:=by omega
  have e5:(X.drop i++List.replicate (b.length+1-i) 0).drop (a.length+1)=List.replicate (b.length+1-(i+1)) 0:=by
   rw[Yew,Ya9 (by simp;omega),Yec];simp only[Yaf,Yal];congr 1;omega
  have e6:(X.drop i++List.replicate (b.length+1-i) 0).take a.length=X.drop i:=by
   rw[Yb3 (by simp;omega),Yb (by simp;omega)]
  rw[e1,e2,e3,e4,e5]at hc;rw[e6]at hm2;simp only[←Y8]at hc;refine⟨(i+1,X.take i++m),⟨h0,by simp only[Yy,e2,hm1];omega,?_⟩,by simp only;omega,?_⟩
  ·simp only;have e7:=zah (X.take i) (X.drop i);rw[Ya1,e2]at e7;rw[zah,e2,hm2,zaf hbg,Yao (val a),←hv,e7,Yao,Yao];have e8:4294967296^i*((b[i]'h0).toNat*val a)=val a*(4294967296^i*(b[i]'h0).toNat):=by
    rw[Yae (b[i]'h0).toNat,←Yad,Yae (4294967296^i) (val a),Yad]
   rw[e8];omega
  ·simp[l60_0,Zji,h0,hw,hc]
 ·right;have:i=b.length:=by omega
  subst this;rw[Yb (Yd _)]at hv;refine⟨_,⟨X++List.replicate (b.length+1-b.length) 0,rfl,by simp;omega,by rw[zah,zaw,hv];simp⟩,?_,?_⟩<;>simp[l60_0,Zji]
theorem zfz(a b:List UInt32)(ha:a.length≤100000)(hb:b.length≤100000):Za T 60 [.sl (Zb a) .an,.sl (Zb b) .an]=some (.sl (Zb (ofN (val a*val b))) .an):=by
 obtain⟨_,⟨out,rfl,ho,hv⟩,hr⟩:=zzx (T:=T) a b ha hb (0,List.replicate a.length 0) ⟨Yp _,by simp,by simp[zaw]⟩;unfold Zji at hr;simp at hr;have hw1:IntKind.wrap .i64 ((a.length:Int)+b.length)=(a.length:Int)+b.length:=zac _ (by omega);have hw:IntKind.wrap .i64 ((a.length:Int)+b.length+1)=(a.length:Int)+b.length+1:=zac _ (by omega);have hle:(a.length:Int)+b.length+1≤4294967296:=by omega
 have hn:=zbf (T:=T) out (by omega);rw[hv]at hn;have htk:List.take (a.length+b.length+1) out=out:=Yb (by omega);have he:a.length+(b.length+1)=a.length+b.length+1:=by omega
 rw[he]at hr;rw[zab Zw.h60 rfl,b60];simp[hw,hw1,hle,hr,ho,htk,hn]
theorem zv5(a:List UInt32)(x c:Nat)(ha:a.length≤100000)(hx:x<4294967296)(hc:c<4294967296):Za T 100 [.sl (Zb a) .an,u32 x,u32 c]=some (.sl (Zb (ofN (val a*x+c))) .an):=by
 obtain⟨m,hm1,hm2,hr⟩:=zk9 (T:=T) [] (List.replicate (a.length+1) 0) a x c hx hc (by simp) (by simp;omega);simp at hr;have hv:val m=val a*x+c:=by
  rw[hm2];have:val ((List.replicate (a.length+1) (0:UInt32)).take a.length)=0:=by rw[List.take_replicate,zaw]
  rw[this,Yae];omega
 have hw:IntKind.wrap .i64 ((a.length:Int)+1)=(a.length:Int)+1:=zac _ (by omega);have hle:(a.length:Int)+1≤4294967296:=by omega
 have hn:=zbf (T:=T) m (by omega);rw[hv]at hn;have htk:List.take (a.length+1) m=m:=Yb (by omega);rw[zab Zw.h100 rfl,b100];simp[hw,hle,hr,hm1,htk,hn]
end
end Go.Ab
end
section
namespace Go.Ab
theorem zlk(w:Nat):4294967296^w=2^(32*w):=by
 rw[Yct]
theorem znt(a:List UInt32)(w:Nat)(h:w≤a.length):val a=val (a.take w)+4294967296^w*val (a.drop w):=by
 have:=zah (a.take w) (a.drop w);rw[Ya1,Yai,Ybs h]at this;exact this
theorem zxv(a:List UInt32)(w:Nat)(h:w≤a.length):val a/4294967296^w=val (a.drop w):=by
 have hp:0<4294967296^w:=Ybb (by decide);have hlt:=zax (a.take w);rw[Yai,Ybs h]at hlt;rw[znt a w h,Yb5 _ _ hp,Ybe hlt,Yat]
theorem zxw{a:List UInt32}{i:Nat}{x:UInt32}(h:a[i/32]? = some x):val a/2^i%2=x.toNat/2^(i%32)%2:=by
 have hlt:i/32<a.length:=by
  rcases Yo (i/32) a.length with h1 | h1
  ·exact h1
  ·rw[Yam h1]at h;cases h
 have e:2^i=4294967296^(i/32)*2^(i%32):=by
  rw[zlk,←Ybh];congr 1;omega
 rw[e,←Ybi,zxv a _ (by omega)];have hx:a[i/32]'hlt=x:=by rw[Ya hlt]at h;cases h;rfl
 rw[Yi hlt,hx,zak];generalize val (a.drop (i/32+1))=r;have hb:i%32<32:=Ya7 _ (by decide);generalize i%32=b at *
 have e2:4294967296*r=2^b*(2^(32-b-1)*2*r):=by
  rw[←Y4,←Yad,←Ybh,show b+(32-b-1+1)=32 by omega]
 rw[e2,Yb5 _ _ (Ybb (by decide)),Nat.mul_right_comm,Yef]
theorem znu{n k:Nat}(h:n<2^(k+1))(hb:n/2^k%2=0):n<2^k:=by
 have hp:0<2^k:=Ybb (by decide);rw[Y4]at h;have h1:n/2^k<2:=Ybg h;have h2:n/2^k=0:=by
  generalize n/2^k=q at *
  omega
 rcases Yo n (2^k) with h3 | h3
 ·exact h3
 ·have:=Yfa h3 hp;omega
theorem z1l{a b n:Nat}(h:a<2^n):a ||| 2^n*b=a+2^n*b:=by
 rw[Nat.or_comm,←Yc0 h,Ya8]
theorem z4m{x c n:Nat}(hx:x<4294967296)(hn:n<32)(hc:c<2^n) :
  x*2^n<18446744073709551616∧(c ||| x*2^n%4294967296)=c+x*2^n%4294967296∧c+x*2^n%4294967296<4294967296∧x*2^n/4294967296<2^n∧2^n<4294967296:=by
 have hp:2^(n+(32-n))=4294967296:=by rw[show n+(32-n)=32 by omega]
 rw[Ybh]at hp;have hq:0<2^n:=Ybb (by decide);have hr:1<2^(32-n):=Nat.one_lt_two_pow (by omega);have e1:x*2^n%4294967296=2^n*(x%2^(32-n)):=by rw[←hp,Yae x,Nat.mul_mod_mul_left]
 have e2:=z1l (b:=x%2^(32-n)) hc;rw[←e1]at e2;have hlt:2^n<4294967296:=by
  have h1:=Yaj (2^n) (show 2≤2^(32-n) from hr);rw[hp]at h1;omega
 refine⟨?_,e2,?_,?_,hlt⟩
 ·have:=Nat.mul_lt_mul'' hx hlt;simpa using this
 ·rw[e1];have h1:x%2^(32-n)+1≤2^(32-n):=Ya7 _ (by omega);have h2:=Yaj (2^n) h1;rw[hp,Yao,Ydq]at h2;omega
 ·exact Ybg (by rw[Yae x];rw[Yae 4294967296];exact Nat.mul_lt_mul_of_pos_left hx hq)
theorem znv{x y R b:Nat}(hb:b<32)(hx:x<4294967296) :
  (x+4294967296*(y+4294967296*R))/2^b=(x+y*4294967296)/2^b%4294967296+4294967296*((y+4294967296*R)/2^b):=by
 have hq:0<2^b:=Ybb (by decide);have h1:(x+4294967296*(y+4294967296*R))/4294967296=y+4294967296*R:=by omega
 have h2:(x+4294967296*(y+4294967296*R))/2^b/4294967296=(y+4294967296*R)/2^b:=by
  rw[Ybi,Yae (2^b),←Ybi,h1]
 have hp:2^b*2^(32-b)=4294967296:=by rw[←Ybh,show b+(32-b)=32 by omega]
 have h3:x+4294967296*(y+4294967296*R)=(x+y*4294967296)+2^b*(4294967296*(2^(32-b)*R)):=by
  have:2^b*(4294967296*(2^(32-b)*R))=4294967296*(4294967296*R):=by
   rw[Nat.mul_left_comm,←Yad (2^b),hp]
  omega
 have h4:(x+4294967296*(y+4294967296*R))/2^b%4294967296=(x+y*4294967296)/2^b%4294967296:=by
  rw[h3,Yb5 _ _ hq,Yc6]
 have h5:=Nat.mod_add_div ((x+4294967296*(y+4294967296*R))/2^b) 4294967296;rw[h2,h4]at h5;exact h5.symm
end Go.Ab
end
section
namespace Go.Ab
theorem zqv{P m R:List UInt32}{i:Nat}{c:UInt32}(hm:m.length=i):(P++(m++c::R))[P.length+i]? = some c:=by
 grind
theorem zlh{P m R:List UInt32}{i:Nat}{c:UInt32}(w:UInt32)(hm:m.length=i):(P++(m++c::R)).set (P.length+i) w=P++(m++w::R):=by
 rw[Yac (P.length+i) w (by omega),Ybr,Yac i w (by omega),hm,Yb1,Yb2]
theorem z0h{P m R:List UInt32}{i:Nat}{c d:UInt32}(w:UInt32)(hm:m.length=i):(P++(m++c::d::R)).set (P.length+i+1) w=P++(m++c::w::R):=by
 rw[Yas,Yac (P.length+(i+1)) w (by omega),Ybr,Yac (i+1) w (by omega),hm,show i+1-i=1 by omega]
 rfl
theorem z0i{P m R:List UInt32}{i:Nat}{c d:UInt32}(hm:m.length=i):(P++(m++c::d::R))[P.length+i+1]? = some d:=by
 grind
theorem ze1(n:Nat):w32 (n%4294967296)=w32 n:=z1k (by rw[zbx,Nat.mod_mod])
section
variable{T:Tbl}[Zq T][Zz T]
def Zky(P a:List UInt32)(n:Nat)(y:Nat×Nat×List UInt32):St:=
 ⟨[(5,.i .i64 P.length),(6,.i .i64 n),(7,.bs (.loc 23) 1 1 0 (P.length+a.length+1)),(24,.sl (Zb a) .an),(25,.i .i64 a.length),(26,.i .i64 y.1)],[(.loc 23,⟨1,.own,1,Zb (P++(y.2.2++w32 y.2.1::List.replicate (a.length-y.1) 0))⟩)],3⟩
end
section
variable{T:Tbl}
theorem zxp(P a:List UInt32)(n:Nat)(hn:n<32)(hl:P.length+a.length≤1000000):∀y:Nat×Nat×List UInt32,
  (y.1≤a.length∧y.2.1<2^n∧y.2.2.length=y.1∧val y.2.2+4294967296^y.1*y.2.1=2^n*val (a.take y.1)) →
  ∃r,(∃(c:Nat) (m:List UInt32),r=(Ex.n,(⟨[(7,.bs (.loc 23) 1 1 0 (P.length+a.length+1))],[(.loc 23,⟨1,.own,1,Zb (P++(m++[w32 c]))⟩)],3⟩:St)) ∧
   m.length=a.length∧c<2^n∧val m+4294967296^a.length*c=2^n*val a)∧Zf T 0 0 (.norm false [7]) l92_0 (Zky P a n y)=some r:=by
 refine zas _ _ (fun y=>a.length-y.1) _ ?_
 rintro⟨i,c,m⟩ ⟨hi,hc,hm,hv⟩
 simp only at hi hc hm hv;by_cases h0:i<a.length
 ·left;have ha:a[i]? = some (a[i]'h0):=Ya h0;obtain⟨u1,u2,u3,u4,u5⟩:=z4m (zal (a[i]'h0)) hn hc;have hx:=zal (a[i]'h0);have hrep:List.replicate (a.length-i) (0:UInt32)=0::List.replicate (a.length-(i+1)) 0:=by
   rw[show a.length-i=a.length-(i+1)+1 by omega,Ybm]
  have hw:IntKind.wrap .i64 ((i:Int)+1)=((i+1:Nat):Int):=zac _ (by omega);have hw2:IntKind.wrap .i64 ((P.length:Int)+i)=((P.length+i:Nat):Int):=zac _ (by omega);have hw3:IntKind.wrap .i64 ((P.length:Int)+i+1)=((P.length+i+1:Nat):Int):=zac _ (by omega);have hg:=zqv (P:=P) (c:=w32 c) (R:=0::List.replicate (a.length-(i+1)) 0) hm;have hg3:=z0i (P:=P) (c:=w32 (c+(a[i]'h0).toNat*2^n%4294967296)) (d:=0) (R:=List.replicate (a.length-(i+1)) 0) hm;have hs1:=zlh (P:=P) (c:=w32 c) (R:=0::List.replicate (a.length-(i+1)) 0) (w32 (c+(a[i]'h0).toNat*2^n%4294967296)) hm;have hs2:=z0h (P:=P) (c:=w32 (c+(a[i]'h0).toNat*2^n%4294967296)) (d:=0) (R:=List.replicate (a.length-(i+1)) 0) (w32 ((a[i]'h0).toNat*2^n/4294967296)) hm;have hmin:min n 64=n:=by omega
  have hlt1:(P.length:Int)+i<(P.length:Int)+a.length+1:=by omega
  have hlt2:(P.length:Int)+i<(P.length:Int)+a.length:=by omega
  have m1:(a[i]'h0).toNat%18446744073709551616=(a[i]'h0).toNat:=Yf (by omega);have m2:=Yf u1;have m3:=Yf u3;have hcc:c<4294967296:=by omega
  have m4:(a[i]'h0).toNat*2^n/4294967296%4294967296=(a[i]'h0).toNat*2^n/4294967296:=Yf (by omega);have m5:(a[i]'h0).toNat*2^n/4294967296<4294967296:=by omega
  refine⟨(i+1,(a[i]'h0).toNat*2^n/4294967296,m++[w32 (c+(a[i]'h0).toNat*2^n%4294967296)]),⟨h0,u4,by grind,?_⟩,by omega,?_⟩
  ·grind[zah,zaf,zak,za5,zag,Nat.div_add_mod]
  ·simp -implicitDefEqProofs[l92_0,Zky,h0,hrep,hw,hw2,hw3,hg,hg3,hs1,hs2,za9 _ _ _ u3,za9 _ _ _ m5,hmin,hlt1,hlt2,m1,m2,m3,m4,u2,zag hcc]
 ·right;have:i=a.length:=by omega
  subst this;rw[Yb (Yd a.length)]at hv;refine⟨_,⟨c,m,rfl,hm,hc,hv⟩,?_,?_⟩<;>simp -implicitDefEqProofs[l92_0,Zky]
end
section
variable{T:Tbl}[Zq T][Zz T]
theorem z4j(a:List UInt32)(n:Nat)(hn:n≤4096)(hl:a.length≤100000):Za T 92 [.sl (Zb a) .an,.i .i64 n]=some (.sl (Zb (ofN (val a*2^n))) .an):=by
 obtain⟨_,⟨c,m,rfl,hm,hc,hv⟩,hr⟩:=zxp (T:=T) (List.replicate (n/32) 0) a (n%32) (Ya7 _ (by decide)) (by grind) (0,0,[]) ⟨Yp _,Ybb (by decide),rfl,by simp⟩;have hc32:c<4294967296:=Yq hc (by
  have:2^(n%32)≤2^32:=Ym (by decide) (by omega);omega)
 have hval:val (List.replicate (n/32) 0++(m++[w32 c]))=val a*2^n:=by
  rw[zah,zaw,Ych,zah,hm];simp only[zak,za5,Yan,Yx,zag hc32,Yat];rw[hv,zlk,←Yad,←Ybh,show 32*(n/32)+n%32=n by omega,Yae]
 have hlen:(List.replicate (n/32) 0++(m++[w32 c])).length=n/32+a.length+1:=by grind
 have hnm:=zbf (T:=T) (List.replicate (n/32) 0++(m++[w32 c])) (by omega);rw[hval]at hnm;unfold Zky at hr;generalize List.replicate (n/32) 0++(m++[w32 c])=Q at *
 simp at hr;have hz:List.replicate (n/32) (0:UInt32)++w32 0::List.replicate a.length 0=List.replicate (n/32+a.length+1) 0:=by
  have:w32 0=0:=rfl;rw[this,←Ybm,Ycp,Yas]
 rw[hz]at hr;have hn2:¬ (4096:Int)<(n:Int):=by omega
 have hq:(n:Int).tdiv 32=(n:Int)/32:=Ybt (by omega);have hm2:(n:Int).tmod 32=(n:Int)%32:=Ycg (by omega);have w1:IntKind.wrap .i64 ((n:Int)/32)=(n:Int)/32:=zac (n/32) (by omega);have w2:IntKind.wrap .i64 ((n:Int)/32+a.length)=(n:Int)/32+a.length:=zac _ (by omega);have w3:IntKind.wrap .i64 ((n:Int)/32+a.length+1)=(n:Int)/32+a.length+1:=zac _ (by omega);have p1:(0:Int)≤(n:Int)/32+a.length+1:=by omega
 have p2:(n:Int)/32+a.length+1≤4294967296:=by omega
 have p3:((n:Int)/32+a.length+1).toNat=n/32+a.length+1:=by omega
 have htk:List.take (n/32+a.length+1) Q=Q:=Yb (by omega);rw[zab Zz.h92 rfl,b92];simp -implicitDefEqProofs[hn2,hq,hm2,w1,w2,w3,p1,p2,p3,hr,hnm,htk,hlen]
def Zkz(a:List UInt32)(W n:Nat)(y:Nat×List UInt32):St:=
 ⟨[(0,.sl (Zb a) .an),(5,.i .i64 W),(6,.i .i64 n),(7,.bs (.loc 24) 1 1 0 (a.length-W)),(26,.i .i64 (a.length-W:Nat)),(27,.i .i64 y.1)],[(.loc 24,⟨1,.own,1,Zb (y.2++List.replicate (a.length-W-y.1) 0)⟩)],3⟩
end
section
variable{T:Tbl}
theorem zxq(a:List UInt32)(W n:Nat)(hn:n<32)(hW:W≤a.length)(hl:a.length≤1000000):∀y:Nat×List UInt32,
  (y.1≤a.length-W∧y.2.length=y.1∧val y.2+4294967296^y.1*(val (a.drop (W+y.1))/2^n)=val (a.drop W)/2^n) →
  ∃r,(∃m:List UInt32,r=(Ex.n,(⟨[(7,.bs (.loc 24) 1 1 0 (a.length-W))],[(.loc 24,⟨1,.own,1,Zb m⟩)],3⟩:St)) ∧
   m.length=a.length-W∧val m=val (a.drop W)/2^n)∧Zf T 0 0 (.norm false [7]) l94_0 (Zkz a W n y)=some r:=by
 refine zas _ _ (fun y=>a.length-W-y.1) _ ?_
 rintro⟨i,m⟩ ⟨hi,hm,hv⟩
 by_cases h0:i<a.length-W
 ·left;have hWi:W+i<a.length:=by omega
  have ha:a[W+i]? = some (a[W+i]'hWi):=Ya hWi;have hx:=zal (a[W+i]'hWi);have hd:=Yi hWi;have hrep:List.replicate (a.length-W-i) (0:UInt32)=0::List.replicate (a.length-W-(i+1)) 0:=by
   rw[show a.length-W-i=a.length-W-(i+1)+1 by omega,Ybm]
  have hw:IntKind.wrap .i64 ((i:Int)+1)=((i+1:Nat):Int):=zac _ (by omega);have hw2:IntKind.wrap .i64 ((W:Int)+i)=((W+i:Nat):Int):=zac _ (by omega);have hw3:IntKind.wrap .i64 ((W:Int)+i+1)=((W+i+1:Nat):Int):=zac _ (by omega);have hg:=zqv (P:=[]) (c:=0) (R:=List.replicate (a.length-W-(i+1)) 0) hm;have hmin:min n 64=n:=by omega
  have hlt1:(W:Int)+i<(a.length:Int):=by omega
  have hlt3:((W:Int)+i).toNat=W+i:=by omega
  have m1:(a[W+i]'hWi).toNat%18446744073709551616=(a[W+i]'hWi).toNat:=Yf (by omega);have fin:∀y R:Nat,val (a.drop (W+i+1))=y+4294967296*R→val (m++[w32 (((a[W+i]'hWi).toNat+y*4294967296)/2^n%4294967296)])+4294967296^(i+1)*(val (a.drop (W+(i+1)))/2^n)=val (a.drop W)/2^n:=by
   intro y R hR;have hmod:((a[W+i]'hWi).toNat+y*4294967296)/2^n%4294967296<4294967296:=Ya7 _ (by decide);have hdw:=znv (x:=(a[W+i]'hWi).toNat) (y:=y) (R:=R) hn hx;rw[hd,zak,hR,hdw,←hR]at hv
   grind[zah,zak,za5,zag]
  by_cases h1:W+i+1<a.length
  ·have hd1:=Yi h1;have hy:=zal (a[W+i+1]'h1);have m2:(a[W+i+1]'h1).toNat%18446744073709551616=(a[W+i+1]'h1).toNat:=Yf (by omega);have m3:(a[W+i+1]'h1).toNat*4294967296%18446744073709551616=(a[W+i+1]'h1).toNat*4294967296:=Yf (by omega);have hor:(a[W+i]'hWi).toNat ||| (a[W+i+1]'h1).toNat*4294967296=(a[W+i]'hWi).toNat+(a[W+i+1]'h1).toNat*4294967296:=by
    have:=z1l (a:=(a[W+i]'hWi).toNat) (b:=(a[W+i+1]'h1).toNat) (n:=32) (by simp)
    grind
   have m4:((a[W+i]'hWi).toNat+(a[W+i+1]'h1).toNat*4294967296)%18446744073709551616=(a[W+i]'hWi).toNat+(a[W+i+1]'h1).toNat*4294967296:=Yf (by omega);have hs1:=zlh (P:=[]) (c:=0) (R:=List.replicate (a.length-W-(i+1)) 0) (w32 (((a[W+i]'hWi).toNat+(a[W+i+1]'h1).toNat*4294967296)/2^n%4294967296)) hm;have hlt2:(W:Int)+i+1<(a.length:Int):=by omega
   have hlt4:((W:Int)+i+1).toNat=W+i+1:=by omega
   refine⟨(i+1,m++[w32 (((a[W+i]'hWi).toNat+(a[W+i+1]'h1).toNat*4294967296)/2^n%4294967296)]),⟨h0,by grind,fin _ (val (a.drop (W+i+1+1))) (by rw[hd1,zak])⟩,by omega,?_⟩;simp at hg;simp[ze1]at hs1;simp -implicitDefEqProofs[l94_0,Zkz,h0,ha,hrep,hw,hw2,hw3,hg,hs1,ze1,hmin,hlt1,hlt2,hlt3,hlt4,m1,m2,m3,m4,hor,h1]
  ·have hs1:=zlh (P:=[]) (c:=0) (R:=List.replicate (a.length-W-(i+1)) 0) (w32 ((a[W+i]'hWi).toNat/2^n%4294967296)) hm;have hlt2:¬ (W:Int)+i+1<(a.length:Int):=by omega
   have f0:=fin 0 0 (by rw[Ya9 (by omega),za5,Yan]);refine⟨(i+1,m++[w32 ((a[W+i]'hWi).toNat/2^n%4294967296)]),⟨h0,by grind,f0⟩,by omega,?_⟩;simp at hg;simp[ze1]at hs1;simp -implicitDefEqProofs[l94_0,Zkz,h0,ha,hrep,hw,hw2,hw3,hg,hs1,ze1,hmin,hlt1,hlt2,hlt3,m1]
 ·right;have:i=a.length-W:=by omega
  subst this;rw[show W+(a.length-W)=a.length by omega,Y7,za5,Nat.zero_div,Yan,Yx]at hv;refine⟨_,⟨m++List.replicate (a.length-W-(a.length-W)) 0,rfl,by grind,by grind⟩,?_,?_⟩<;>simp -implicitDefEqProofs[l94_0,Zkz]
end
section
variable{T:Tbl}[Zq T][Zz T]
theorem zxr(a:List UInt32)(n:Nat)(h:n/32≤a.length):val (a.drop (n/32))/2^(n%32)=val a/2^n:=by
 rw[←zxv a _ h,Ybi,zlk,←Ybh,show 32*(n/32)+n%32=n by omega]
theorem zxs(a:List UInt32)(n:Nat)(hn:n≤100000000)(hl:a.length≤100000):Za T 94 [.sl (Zb a) .an,.i .i64 n]=some (.sl (Zb (ofN (val a/2^n))) .an):=by
 have hn2:¬ (n:Int)<0:=by omega
 have hq:(n:Int).tdiv 32=(n:Int)/32:=Ybt (by omega);have hm2:(n:Int).tmod 32=(n:Int)%32:=Ycg (by omega);have w1:IntKind.wrap .i64 ((n:Int)/32)=(n:Int)/32:=zac (n/32) (by omega);rcases Yo (n/32) a.length with h0 | h0
 ·obtain⟨_,⟨m,rfl,hm,hv⟩,hr⟩:=zxq (T:=T) a (n/32) (n%32) (Ya7 _ (by decide)) (by omega) (by omega) (0,[]) ⟨Yp _,rfl,by rw[za5,Ydf,Yet,Yat,Yx]⟩;rw[zxr a n (by omega)]at hv;have hnm:=zbf (T:=T) m (by omega);rw[hv]at hnm;unfold Zkz at hr;have hsub:((a.length-n/32:Nat):Int)=(a.length:Int)-(n:Int)/32:=by omega
  simp[hsub]at hr;have p0:¬ (a.length:Int)≤(n:Int)/32:=by omega
  have w2:IntKind.wrap .i64 ((a.length:Int)-(n:Int)/32)=(a.length:Int)-(n:Int)/32:=zac _ (by omega);have p1:(n:Int)/32≤(a.length:Int):=by omega
  have p2:(a.length:Int)-(n:Int)/32≤4294967296:=by omega
  have p3:((a.length:Int)-(n:Int)/32).toNat=a.length-n/32:=by omega
  have htk:List.take (a.length-n/32) m=m:=Yb (by omega);have p5:a.length≤a.length-n/32+n/32:=by omega
  rw[zab Zz.h94 rfl,b94];simp -implicitDefEqProofs[hn2,hq,hm2,w1,w2,p0,p5,p1,p2,p3,hsub,hr,hnm,htk,hm]
 ·have hz:val a/2^n=0:=by
   refine Ybe (Yq (zax a) ?_);rw[zlk];exact Ym (by decide) (by omega)
  have p0:(a.length:Int)≤(n:Int)/32:=by omega
  rw[hz,zli,zab Zz.h94 rfl,b94];simp -implicitDefEqProofs[hn2,hq,hm2,w1,p0]
end
end Go.Ab
end
section
namespace Go.Ab
def l90_0:AX:=
 (.note
 (.seq
 (.seq
 (.reg [mv 16 7,rg 17 (.bin .geq (.t 16) (.c (.i .i64 0)))])
 (.cond (.t 17)
 .skip
 (.exit 0)))
 (.seq
 (.block 1
 (.reg [mv 21 4,mv 22 7,mv 23 5,mv 24 0,mv 25 7,rg 26 (.iad 1 (.t 24) (.t 25)),rg 27 (.load none (.t 26)),mv 28 1,rg 29 (.call 118 [(.t 23),(.t 27),(.t 28)]),mv 20 29,rg 30 (.ext (.t 20) 0),rg 31 (.ext (.t 20) 1),rg 32 (.ext (.t 20) 2),rg 33 (.iad 1 (.t 21) (.t 22)),so (.store 1 (.t 33) (.t 30)),mv 5 31]))
 (.reg [mv 18 7,rg 19 (.bin .sub (.t 18) (.c (.i .i64 1))),mv 7 19])))
 (.norm false [0,1,4,5,7]))
def b90:AX:=
 (.seq
 (.reg [rg 4 (.mov (.c (.sl [] .nl))),rg 5 (.mov (.c (u32 0))),rg 6 (.mov (.c (.b false)))])
 (.seq
 (.seq
 (.reg [mv 8 1,rg 9 (.bin .eql (.t 8) (.c (u32 0)))])
 (.cond (.t 9)
 (.seq
 (.reg [rg 4 (.mov (.c (.sl [] .nl))),rg 5 (.mov (.c (u32 0))),rg 6 (.mov (.c (.b false)))])
 (.pre (.norm false [4,5,6]) .ret))
 .skip))
 (.seq
 (.reg [mv 10 0,rg 11 (.len (.t 10)),rg 12 (.mks 1 [(u32 0)] (.t 11) (.t 11)),mv 4 12])
 (.seq
 (.seq
 (.reg [mv 13 0,rg 14 (.len (.t 13)),rg 15 (.bin .sub (.t 14) (.c (.i .i64 1))),mv 7 15])
 (.lp 0 (.norm false [0,1,4,5,7]) l90_0 (.norm false [4,5])))
 (.seq
 (.reg [mv 34 4,rg 35 (.call 71 [(.t 34)]),mv 36 5,mv 4 35,mv 5 36,rg 6 (.mov (.c (.b true)))])
 (.pre (.norm false [4,5,6]) .ret))))))
def l119_0:AX:=
 (.note
 (.block 1
 (.seq
 (.reg [mv 46 11,mv 47 4,rg 48 (.call 117 [(.t 46),(.t 47),(.c (u32 0)),(.c (u32 0))]),mv 45 48,rg 49 (.ext (.t 45) 0),rg 50 (.ext (.t 45) 1),mv 16 49,mv 17 50])
 (.seq
 (.seq
 (.reg [mv 51 16,mv 52 12,rg 53 (.bin .lss (.t 51) (.t 52)),mv 54 53,gd 55 54 false (.mov (.t 16)),gd 56 54 false (.mov (.t 12)),gd 57 54 false (.bin .eql (.t 55) (.t 56)),gd 58 54 false (.mov (.t 57)),gd 59 58 true (.mov (.t 17)),gd 60 58 true (.mov (.t 2)),gd 61 58 true (.bin .leq (.t 59) (.t 60)),gd 62 54 false (.pick (.t 58) (.t 61) (.c (.b false))),rg 63 (.pick (.t 54) (.c (.b true)) (.t 62))])
 (.cond (.t 63)
 (.exit 0)
 .skip))
 (.seq
 (.reg [mv 64 11,rg 65 (.bin .sub (.t 64) (.c (u32 1))),mv 11 65])
 (.seq
 (.reg [mv 67 12,mv 68 3,rg 69 (.call 115 [(.t 67),(.t 68),(.c (u32 0))]),mv 66 69,rg 70 (.ext (.t 66) 0),rg 71 (.ext (.t 66) 1),mv 18 70,mv 19 71])
 (.seq
 (.seq
 (.reg [mv 72 19,rg 73 (.bin .gtr (.t 72) (.c (u32 0)))])
 (.cond (.t 73)
 (.exit 0)
 .skip))
 (.reg [mv 74 18,mv 12 74])))))))
 (.norm false [2,3,4,11,12]))
def b119:AX:=
 (.seq
 (.reg [rg 10 (.mov (.c (u32 0)))])
 (.scope
 (.seq
 (.reg [mv 21 0,mv 22 1,mv 23 3,rg 24 (.call 118 [(.t 21),(.t 22),(.t 23)]),mv 20 24,rg 25 (.ext (.t 20) 0),rg 26 (.ext (.t 20) 1),rg 27 (.ext (.t 20) 2),mv 11 25,mv 12 26,mv 13 27])
 (.seq
 (.seq
 (.reg [mv 28 13,rg 29 (.un .not (.t 28))])
 (.cond (.t 29)
 (.seq
 (.reg [rg 11 (.mov (.c (u32 4294967295)))])
 (.seq
 (.reg [mv 31 1,mv 32 3,rg 33 (.call 115 [(.t 31),(.t 32),(.c (u32 0))]),mv 30 33,rg 34 (.ext (.t 30) 0),rg 35 (.ext (.t 30) 1),mv 14 34,mv 15 35])
 (.seq
 (.seq
 (.reg [mv 36 0,mv 37 3,rg 38 (.bin .gtr (.t 36) (.t 37)),mv 39 38,gd 40 39 false (.mov (.t 15)),gd 41 39 false (.bin .gtr (.t 40) (.c (u32 0))),rg 42 (.pick (.t 39) (.c (.b true)) (.t 41))])
 (.cond (.t 42)
 (.seq
 (.reg [mv 43 11,mv 10 43])
 (.pre (.norm false [10]) .ret))
 .skip))
 (.reg [mv 44 14,mv 12 44]))))
 .skip))
 (.seq
 (.label 0)
 (.seq
 (.lp 0 (.norm false [2,3,4,11,12]) l119_0 (.norm false [11]))
 (.seq
 (.reg [mv 75 11,mv 10 75])
 (.pre (.norm false [10]) .ret))))))))
def l120_0:AX:=
 (.note
 (.seq
 (.reg [rg 18 (.bin .lss (.t 17) (.t 16))])
 (.seq
 (.cond (.t 18)
 .skip
 (.exit 0))
 (.seq
 (.block 1
 (.seq
 (.reg [mv 19 17,rg 20 (.iad 1 (.t 15) (.t 17)),rg 21 (.load none (.t 20)),mv 11 19,mv 12 21])
 (.seq
 (.reg [rg 13 (.mov (.c (u32 0)))])
 (.seq
 (.reg [mv 23 3,mv 24 12,mv 25 9,rg 26 (.call 117 [(.t 23),(.t 24),(.t 25),(.c (u32 0))]),mv 22 26,rg 27 (.ext (.t 22) 0),rg 28 (.ext (.t 22) 1),mv 9 27,mv 13 28])
 (.reg [mv 30 0,mv 31 1,mv 32 11,rg 33 (.bin .add (.t 31) (.t 32)),mv 34 0,mv 35 1,mv 36 11,rg 37 (.bin .add (.t 35) (.t 36)),rg 38 (.iad 1 (.t 34) (.t 37)),rg 39 (.load none (.t 38)),mv 40 13,mv 41 10,rg 42 (.call 116 [(.t 39),(.t 40),(.t 41)]),mv 29 42,rg 43 (.ext (.t 29) 0),rg 44 (.ext (.t 29) 1),rg 45 (.iad 1 (.t 30) (.t 33)),so (.store 1 (.t 45) (.t 43)),mv 10 44])))))
 (.reg [rg 46 (.bin .add (.t 17) (.c (.i .i64 1))),mv 17 46]))))
 (.norm false [0,1,2,3,9,10,15,16,17]))
def b120:AX:=
 (.seq
 (.reg [rg 8 (.mov (.c (.b false)))])
 (.seq
 (.reg [rg 9 (.mov (.c (u32 0))),rg 10 (.mov (.c (u32 0)))])
 (.seq
 (.seq
 (.reg [mv 15 2,rg 16 (.len (.t 15)),rg 17 (.mov (.c (.i .i64 0)))])
 (.lp 0 (.norm false [0,1,2,3,9,10,15,16,17]) l120_0 (.norm false [0,1,2,9,10])))
 (.seq
 (.reg [mv 47 1,mv 48 2,rg 49 (.len (.t 48)),rg 50 (.bin .add (.t 47) (.t 49)),mv 14 50])
 (.seq
 (.reg [mv 52 0,mv 53 14,mv 54 0,mv 55 14,rg 56 (.iad 1 (.t 54) (.t 55)),rg 57 (.load none (.t 56)),mv 58 9,mv 59 10,rg 60 (.call 116 [(.t 57),(.t 58),(.t 59)]),mv 51 60,rg 61 (.ext (.t 51) 0),rg 62 (.ext (.t 51) 1),rg 63 (.iad 1 (.t 52) (.t 53)),so (.store 1 (.t 63) (.t 61)),mv 10 62])
 (.seq
 (.reg [mv 64 10,rg 65 (.bin .gtr (.t 64) (.c (u32 0))),mv 8 65])
 (.pre (.norm false [8]) .ret)))))))
def l121_0:AX:=
 (.note
 (.seq
 (.reg [rg 12 (.bin .lss (.t 11) (.t 10))])
 (.seq
 (.cond (.t 12)
 .skip
 (.exit 0))
 (.seq
 (.block 1
 (.seq
 (.reg [mv 13 11,rg 14 (.iad 1 (.t 9) (.t 11)),rg 15 (.load none (.t 14)),mv 7 13,mv 8 15])
 (.reg [mv 17 0,mv 18 1,mv 19 7,rg 20 (.bin .add (.t 18) (.t 19)),mv 21 0,mv 22 1,mv 23 7,rg 24 (.bin .add (.t 22) (.t 23)),rg 25 (.iad 1 (.t 21) (.t 24)),rg 26 (.load none (.t 25)),mv 27 8,mv 28 6,rg 29 (.call 115 [(.t 26),(.t 27),(.t 28)]),mv 16 29,rg 30 (.ext (.t 16) 0),rg 31 (.ext (.t 16) 1),rg 32 (.iad 1 (.t 17) (.t 20)),so (.store 1 (.t 32) (.t 30)),mv 6 31])))
 (.reg [rg 33 (.bin .add (.t 11) (.c (.i .i64 1))),mv 11 33]))))
 (.norm false [0,1,2,6,9,10,11]))
def b121:AX:=
 (.seq
 (.reg [rg 6 (.mov (.c (u32 0)))])
 (.seq
 (.seq
 (.reg [mv 9 2,rg 10 (.len (.t 9)),rg 11 (.mov (.c (.i .i64 0)))])
 (.lp 0 (.norm false [0,1,2,6,9,10,11]) l121_0 (.norm false [0,1,2,6])))
 (.reg [mv 34 0,mv 35 1,mv 36 2,rg 37 (.len (.t 36)),rg 38 (.bin .add (.t 35) (.t 37)),rg 39 (.iad 1 (.t 34) (.t 38)),rg 40 (.load none (.t 39)),mv 41 6,rg 42 (.bin .add (.t 40) (.t 41)),rg 43 (.iad 1 (.t 34) (.t 38)),so (.store 1 (.t 43) (.t 42))])))
def l93_0:AX:=
 (.note
 (.seq
 (.seq
 (.reg [mv 19 7,rg 20 (.bin .geq (.t 19) (.c (.i .i64 0)))])
 (.cond (.t 20)
 .skip
 (.exit 0)))
 (.seq
 (.block 1
 (.seq
 (.drawT [mv 23 0,mv 24 7,mv 25 5,rg 26 (.bin .add (.t 24) (.t 25)),rg 27 (.iad 1 (.t 23) (.t 26)),rg 28 (.load none (.t 27)),mv 29 0,mv 30 7,mv 31 5,rg 32 (.bin .add (.t 30) (.t 31)),rg 33 (.bin .sub (.t 32) (.c (.i .i64 1))),rg 34 (.iad 1 (.t 29) (.t 33)),rg 35 (.load none (.t 34)),mv 36 0,mv 37 7,mv 38 5,rg 39 (.bin .add (.t 37) (.t 38)),rg 40 (.bin .sub (.t 39) (.c (.i .i64 2))),rg 41 (.iad 1 (.t 36) (.t 40)),rg 42 (.load none (.t 41)),mv 43 1,mv 44 5,rg 45 (.bin .sub (.t 44) (.c (.i .i64 1))),rg 46 (.iad 1 (.t 43) (.t 45)),rg 47 (.load none (.t 46)),mv 48 1,mv 49 5,rg 50 (.bin .sub (.t 49) (.c (.i .i64 2))),rg 51 (.iad 1 (.t 48) (.t 50)),rg 52 (.load none (.t 51))]
 [rg 53 (.call 119 [(.t 28),(.t 35),(.t 42),(.t 47),(.t 52)]),mv 8 53])
 (.seq
 (.seq
 (.reg [mv 54 0,mv 55 7,mv 56 1,mv 57 8,rg 58 (.call 120 [(.t 54),(.t 55),(.t 56),(.t 57)])])
 (.cond (.t 58)
 (.seq
 (.reg [mv 59 8,rg 60 (.bin .sub (.t 59) (.c (u32 1))),mv 8 60])
 (.reg [mv 61 0,mv 62 7,mv 63 1,rg 64 (.call 121 [(.t 61),(.t 62),(.t 63)])]))
 .skip))
 (.reg [mv 65 6,mv 66 7,mv 67 8,rg 68 (.iad 1 (.t 65) (.t 66)),so (.store 1 (.t 68) (.t 67))]))))
 (.reg [mv 21 7,rg 22 (.bin .sub (.t 21) (.c (.i .i64 1))),mv 7 22])))
 (.norm false [0,1,5,6,7]))
def b93:AX:=
 (.seq
 (.reg [rg 4 (.mov (.c (.sl [] .nl)))])
 (.seq
 (.reg [mv 9 1,rg 10 (.len (.t 9)),mv 5 10])
 (.seq
 (.reg [mv 11 0,rg 12 (.len (.t 11)),mv 13 5,rg 14 (.bin .sub (.t 12) (.t 13)),rg 15 (.mks 1 [(u32 0)] (.t 14) (.t 14)),mv 6 15])
 (.seq
 (.seq
 (.reg [mv 16 6,rg 17 (.len (.t 16)),rg 18 (.bin .sub (.t 17) (.c (.i .i64 1))),mv 7 18])
 (.lp 0 (.norm false [0,1,5,6,7]) l93_0 (.norm false [6])))
 (.seq
 (.reg [mv 69 6,mv 4 69])
 (.pre (.norm false [4]) .ret))))))
def row90:AFx:=⟨2,37,[.t 4,.t 5,.t 6],b90,none,false⟩
def row119:AFx:=⟨5,76,[.t 10],b119,none,false⟩
def row120:AFx:=⟨4,66,[.t 8],b120,(some [true,false,false,false]),false⟩
def row121:AFx:=⟨3,44,[],b121,(some [true,false,false]),false⟩
def row93:AFx:=⟨2,70,[.t 4],b93,(some [true,false]),false⟩
class Zs (T:Tbl):Prop where
 h90:T 90=some row90
 h119:T 119=some row119
 h120:T 120=some row120
 h121:T 121=some row121
 h93:T 93=some row93
section
variable{T:Tbl}[Zs T]{d:Option Nat}{st:St}
@[simp] theorem x90(xs:List AV):Zc (orc T) T 90 xs d st=cP T 90 false xs d st:=zaa Zs.h90
@[simp] theorem x119(xs:List AV):Zc (orc T) T 119 xs d st=cP T 119 false xs d st:=zaa Zs.h119
theorem f119(xs:List AV)(hn:xs.length=5):Za T 119 xs=Zfv [.t 10] false (evX (orc T) T 0 b119 ⟨Zbc xs,[],1⟩):=zab Zs.h119 hn
@[simp] theorem x120(xs:List AV):Zc (orc T) T 120 xs d st=bL (Zd4 st.heap [true,false,false,false] xs) fun ys=>Zdl ys (Zh (Zap [true,false,false,false] xs) st.heap) (Zck (Zh (Zap [true,false,false,false] xs) st.heap) 40 (Zb8 [true,false,false,false] xs) []) T 120 false d st:=zau Zs.h120
@[simp] theorem x121(xs:List AV):Zc (orc T) T 121 xs d st=bL (Zd4 st.heap [true,false,false] xs) fun ys=>Zdl ys (Zh (Zap [true,false,false] xs) st.heap) (Zck (Zh (Zap [true,false,false] xs) st.heap) 40 (Zb8 [true,false,false] xs) []) T 121 false d st:=zau Zs.h121
@[simp] theorem x93(xs:List AV):Zc (orc T) T 93 xs d st=bL (Zd4 st.heap [true,false] xs) fun ys=>Zdl ys (Zh (Zap [true,false] xs) st.heap) (Zck (Zh (Zap [true,false] xs) st.heap) 40 (Zb8 [true,false] xs) []) T 93 false d st:=zau Zs.h93
end
end Go.Ab
end
section
namespace Go.Ab
theorem zla{m:List UInt32}{j:Nat}(w:UInt32):(List.replicate (j+1) 0++m).set j w=List.replicate j 0++w::m:=by
 rw[List.set_append_left j w (by simp),List.replicate_succ',Yac j w (by simp)];simp
theorem zlb{m:List UInt32}{j:Nat}:(List.replicate (j+1) (0:UInt32)++m)[j]? = some 0:=by
 rw[Ys (by simp),Ydg,if_pos (by omega)]
section
variable{T:Tbl}[Zq T][Zz T][Zw T][Zs T]
def Zk9(a:List UInt32)(x:Nat)(y:Nat×Nat×List UInt32):St:=
 ⟨[(0,.sl (Zb a) .an),(1,u32 x),(4,.bs (.loc 12) 1 1 0 a.length),(5,u32 y.2.1),(7,.i .i64 ((y.1:Int)-1))],[(.loc 12,⟨1,.own,1,Zb (List.replicate y.1 0++y.2.2)⟩)],3⟩
end
section
variable{T:Tbl}[Zq T]
theorem z3m(a:List UInt32)(x:Nat)(hx:x<4294967296)(hl:a.length≤1000000):∀y:Nat×Nat×List UInt32,
  (y.1≤a.length∧y.2.1<x∧y.2.2.length=a.length-y.1∧val (a.drop y.1)=x*val y.2.2+y.2.1) →
  ∃r,(∃(c:Nat) (m:List UInt32),r=(Ex.n,(⟨[(4,.bs (.loc 12) 1 1 0 a.length),(5,u32 c)],[(.loc 12,⟨1,.own,1,Zb m⟩)],3⟩:St)) ∧
   m.length=a.length∧c<x∧val a=x*val m+c)∧Zf T 0 0 (.norm false [4,5]) l90_0 (Zk9 a x y)=some r:=by
 refine zas _ _ (fun y=>y.1) _ ?_
 rintro⟨k,c,m⟩ ⟨hk,hc,hm,hv⟩
 simp only at hk hc hm hv;cases k with
 | zero=>
  right;refine⟨_,⟨c,m,rfl,by omega,hc,hv⟩,?_,?_⟩<;>simp -implicitDefEqProofs[l90_0,Zk9]
 | succ j=>
  left;have hja:j<a.length:=by omega
  have hy:=zal (a[j]'hja);have hd:=Yi hja;have hw:IntKind.wrap .i64 ((j:Int)-1)=(j:Int)-1:=zac _ (by omega);have hs:=zla (m:=m) (j:=j) (w32 ((c*4294967296+(a[j]'hja).toNat)/x));have hq:(c*4294967296+(a[j]'hja).toNat)/x<4294967296:=by
   refine Ybg ?_;omega
  have hdv:=zm2 (T:=T) c (a[j]'hja).toNat x hc hy hx;refine⟨(j,(c*4294967296+(a[j]'hja).toNat)%x,w32 ((c*4294967296+(a[j]'hja).toNat)/x)::m),⟨by omega,Ya7 _ (by omega),by grind,?_⟩,Y1 j,?_⟩
  ·grind[zak,zag,Nat.div_add_mod]
  ·simp -implicitDefEqProofs[l90_0,Zk9,hja,hw,hs,zlb,hdv,za9 _ _ _ hq]
end
section
variable{T:Tbl}[Zq T][Zs T]
theorem zm8(a:List UInt32)(x:Nat)(hx:x<4294967296)(h0:0<x)(hl:a.length≤1000000) :
  Za T 90 [.sl (Zb a) .an,u32 x]=some (.tup [.sl (Zb (ofN (val a/x))) .an,u32 (val a%x),.b true]):=by
 obtain⟨_,⟨c,m,rfl,hm,hc,hv⟩,hr⟩:=z3m (T:=T) a x hx hl (a.length,0,[]) ⟨Yd _,h0,by simp,by rw[Y7,za5,Yan,Yat]⟩;have e1:val a/x=val m:=by grind[Nat.mul_add_div,Nat.div_eq_of_lt]
 have e2:val a%x=c:=by rw[hv,Nat.mul_add_mod,Yf hc]
 have hnm:=zbf (T:=T) m (by omega);unfold Zk9 at hr;simp at hr;have hx0:x≠0:=by omega
 have w1:IntKind.wrap .i64 ((a.length:Int)-1)=(a.length:Int)-1:=zac _ (by omega);have p1:(a.length:Int)≤4294967296:=by omega
 have htk:List.take a.length m=m:=Yb (by omega);rw[e1,e2,zab Zs.h90 rfl,b90];simp -implicitDefEqProofs[hr,hx0,w1,p1,htk,hm,hnm]
end
section
variable{T:Tbl}[Zq T][Zz T][Zw T][Zs T]
theorem zm9{p M w X s t y v D D':Nat}(h:M+X*t=s+p*D)(e:w+X*y+D=v+4294967296*D'):(M+p*w)+X*(t+p*y)=(s+p*v)+p*4294967296*D':=by
 grind
def Zla(P S b:List UInt32)(x:Nat)(y:Nat×(Nat×Nat)×List UInt32):St:=
 ⟨[(0,.bs (.bor 0) 0 1 0 (P.length+S.length)),(1,.i .i64 P.length),(2,.sl (Zb b) .an),(3,u32 x),(9,u32 y.2.1.1),(10,u32 y.2.1.2),(15,.sl (Zb b) .an),(16,.i .i64 b.length),(17,.i .i64 y.1)],
  [(.bor 0,⟨0,.own,1,Zb (P++(y.2.2++S.drop y.1))⟩)],4⟩
end
section
variable{T:Tbl}[Zq T]
theorem z3n(P S b:List UInt32)(x:Nat)(hx:x<4294967296)(hS:b.length<S.length)(hl:P.length+S.length≤1000000):∀y:Nat×(Nat×Nat)×List UInt32,
  (y.1≤b.length∧y.2.1.1<4294967296∧y.2.1.2≤1∧y.2.2.length=y.1∧val y.2.2+x*val (b.take y.1)=val (S.take y.1)+4294967296^y.1*(y.2.1.2+y.2.1.1)) →
  ∃r,(∃(C B:Nat) (m:List UInt32),r=(Ex.n,(⟨[(0,.bs (.bor 0) 0 1 0 (P.length+S.length)),(1,.i .i64 P.length),(2,.sl (Zb b) .an),(9,u32 C),(10,u32 B)],[(.bor 0,⟨0,.own,1,Zb (P++(m++S.drop b.length))⟩)],4⟩:St)) ∧
   C<4294967296∧B≤1∧m.length=b.length∧val m+x*val b=val (S.take b.length)+4294967296^b.length*(B+C))∧Zf T 1 0 (.norm false [0,1,2,9,10]) l120_0 (Zla P S b x y)=some r:=by
 refine zas _ _ (fun y=>b.length-y.1) _ ?_
 rintro⟨i,⟨C,B⟩,m⟩ ⟨hi,hC,hB,hm,hv⟩
 simp only at hi hC hB hm hv;by_cases h0:i<b.length
 ·left;have hb:b[i]? = some (b[i]'h0):=Ya h0;have hiS:i<S.length:=by omega
  have hs:S[i]? = some (S[i]'hiS):=Ya hiS;have hg:=zdb (P:=P) hm hiS;have hw:IntKind.wrap .i64 ((i:Int)+1)=((i+1:Nat):Int):=zac _ (by omega);have hw2:IntKind.wrap .i64 ((P.length:Int)+i)=((P.length+i:Nat):Int):=zac _ (by omega);have hlt2:(P.length:Int)+i<(P.length:Int)+S.length:=by omega
  have hlb:=zal (b[i]'h0);have hls:=zal (S[i]'hiS);have hmul:=zgx hx hlb;have c1:=zia (T:=T) x (b[i]'h0).toNat C 0 hx hlb hC (by decide);rw[Yx]at c1;obtain⟨lo,hlo⟩:∃lo,lo=(x*(b[i]'h0).toNat+C)%4294967296:=⟨_,rfl⟩;obtain⟨C',hC'⟩:∃C',C'=(x*(b[i]'h0).toNat+C)/4294967296:=⟨_,rfl⟩;rw[←hlo,←hC']at c1;have c2:=zfy (T:=T) (S[i]'hiS).toNat lo B hls (by omega) (by omega);obtain⟨w,hwd⟩:∃w,w=((S[i]'hiS).toNat+8589934592-(lo+B))%4294967296:=⟨_,rfl⟩;obtain⟨B',hB'⟩:∃B',B'=2-((S[i]'hiS).toNat+8589934592-(lo+B))/4294967296:=⟨_,rfl⟩;rw[←hwd,←hB']at c2;have hwl:w<4294967296:=by omega
  have hset:=zcw (P:=P) (w32 w) hm hiS;refine⟨(i+1,(C',B'),m++[w32 w]),⟨h0,by grind,by simp only;omega,by grind,?_⟩,by omega,?_⟩
  ·simp only;rw[zah,zaf hb,zaf hs,Y4,hm,zak,za5,Yan,Yx,zag hwl];exact zm9 hv (by omega)
  ·simp -implicitDefEqProofs[l120_0,Zla,h0,hw,hw2,hlt2,hg,c1,c2,hset,za9 _ _ _ hwl]
 ·right;have:i=b.length:=by omega
  subst this;rw[Yb (Yd b.length)]at hv;refine⟨_,⟨C,B,m,rfl,hC,hB,hm,hv⟩,?_,?_⟩<;>simp -implicitDefEqProofs[l120_0,Zla]
end
section
variable{T:Tbl}[Zq T][Zs T]
theorem zv6(P S b:List UInt32)(x:Nat)(hx:x<4294967296)(hS:b.length<S.length)(hl:P.length+S.length≤1000000) :
  ∃(B:Nat) (m:List UInt32),B≤1∧m.length=b.length+1∧val m+x*val b=val (S.take (b.length+1))+4294967296^(b.length+1)*B ∧
   Zbk T 120 [.bs (.bor 0) 0 1 0 (P.length+S.length),.i .i64 P.length,.sl (Zb b) .an,u32 x] [(.bor 0,⟨0,.own,1,Zb (P++S)⟩)] =
    some (.b (decide (0<B)),[(.bor 0,⟨0,.own,1,Zb (P++(m++S.drop (b.length+1)))⟩)]):=by
 obtain⟨_,⟨C,B,m,rfl,hC,hB,hm,hv⟩,hr⟩:=z3n (T:=T) P S b x hx hS hl (0,(0,0),[]) ⟨Yp _,Nat.zero_lt_succ _,Yp _,rfl,by simp⟩;unfold Zla at hr;simp at hr;have hs:S[b.length]? = some (S[b.length]'hS):=Ya hS;have hls:=zal (S[b.length]'hS);have hg:=zdb (P:=P) hm hS;have hw2:IntKind.wrap .i64 ((P.length:Int)+b.length)=((P.length+b.length:Nat):Int):=zac _ (by omega);have hlt2:(P.length:Int)+b.length<(P.length:Int)+S.length:=by omega
 have c2:=zfy (T:=T) (S[b.length]'hS).toNat C B hls hC (by omega);obtain⟨w,hwd⟩:∃w,w=((S[b.length]'hS).toNat+8589934592-(C+B))%4294967296:=⟨_,rfl⟩;obtain⟨B',hB'⟩:∃B',B'=2-((S[b.length]'hS).toNat+8589934592-(C+B))/4294967296:=⟨_,rfl⟩;rw[←hwd,←hB']at c2;have hwl:w<4294967296:=by omega
 have hset:=zcw (P:=P) (w32 w) hm hS;refine⟨B',m++[w32 w],by omega,by grind,?_,?_⟩
 ·rw[zah,zaf hs,Y4,hm,zak,za5,Yan,Yx,zag hwl];have:=zm9 (y:=0) (w:=w) (v:=(S[b.length]'hS).toNat) (D':=B') hv (by omega);omega
 ·rw[za3 Zs.h120 rfl,b120];simp -implicitDefEqProofs[hr,hw2,hlt2,hg,c2,hset,za9 _ _ _ hwl]
end
section
variable{T:Tbl}[Zq T][Zz T][Zw T][Zs T]
theorem zna{p M w s t y v D D':Nat}(h:M+p*D=s+t)(e:w+4294967296*D'=v+y+D):(M+p*w)+p*4294967296*D'=(s+p*v)+(t+p*y):=by
 grind
def Zlb(P S b:List UInt32)(y:Nat×Nat×List UInt32):St:=
 ⟨[(0,.bs (.bor 0) 0 1 0 (P.length+S.length)),(1,.i .i64 P.length),(2,.sl (Zb b) .an),(6,u32 y.2.1),(9,.sl (Zb b) .an),(10,.i .i64 b.length),(11,.i .i64 y.1)],
  [(.bor 0,⟨0,.own,1,Zb (P++(y.2.2++S.drop y.1))⟩)],4⟩
end
section
variable{T:Tbl}[Zq T]
theorem z3o(P S b:List UInt32)(hS:b.length<S.length)(hl:P.length+S.length≤1000000):∀y:Nat×Nat×List UInt32,
  (y.1≤b.length∧y.2.1≤1∧y.2.2.length=y.1∧val y.2.2+4294967296^y.1*y.2.1=val (S.take y.1)+val (b.take y.1)) →
  ∃r,(∃(C:Nat) (m:List UInt32),r=(Ex.n,(⟨[(0,.bs (.bor 0) 0 1 0 (P.length+S.length)),(1,.i .i64 P.length),(2,.sl (Zb b) .an),(6,u32 C)],[(.bor 0,⟨0,.own,1,Zb (P++(m++S.drop b.length))⟩)],4⟩:St)) ∧
   C≤1∧m.length=b.length∧val m+4294967296^b.length*C=val (S.take b.length)+val b)∧Zf T 1 0 (.norm false [0,1,2,6]) l121_0 (Zlb P S b y)=some r:=by
 refine zas _ _ (fun y=>b.length-y.1) _ ?_
 rintro⟨i,C,m⟩ ⟨hi,hC,hm,hv⟩
 simp only at hi hC hm hv;by_cases h0:i<b.length
 ·left;have hb:b[i]? = some (b[i]'h0):=Ya h0;have hiS:i<S.length:=by omega
  have hs:S[i]? = some (S[i]'hiS):=Ya hiS;have hg:=zdb (P:=P) hm hiS;have hw:IntKind.wrap .i64 ((i:Int)+1)=((i+1:Nat):Int):=zac _ (by omega);have hw2:IntKind.wrap .i64 ((P.length:Int)+i)=((P.length+i:Nat):Int):=zac _ (by omega);have hlt2:(P.length:Int)+i<(P.length:Int)+S.length:=by omega
  have hlb:=zal (b[i]'h0);have hls:=zal (S[i]'hiS);have c2:=zee (T:=T) (S[i]'hiS).toNat (b[i]'h0).toNat C hls hlb (by omega);obtain⟨w,hwd⟩:∃w,w=((S[i]'hiS).toNat+(b[i]'h0).toNat+C)%4294967296:=⟨_,rfl⟩;obtain⟨C',hC'⟩:∃C',C'=((S[i]'hiS).toNat+(b[i]'h0).toNat+C)/4294967296:=⟨_,rfl⟩;rw[←hwd,←hC']at c2;have hwl:w<4294967296:=by omega
  have hset:=zcw (P:=P) (w32 w) hm hiS;refine⟨(i+1,C',m++[w32 w]),⟨h0,by grind,by grind,?_⟩,by omega,?_⟩
  ·simp only;rw[zah,zaf hb,zaf hs,Y4,hm,zak,za5,Yan,Yx,zag hwl];exact zna hv (by omega)
  ·simp -implicitDefEqProofs[l121_0,Zlb,h0,hw,hw2,hlt2,hg,c2,hset,za9 _ _ _ hwl]
 ·right;have:i=b.length:=by omega
  subst this;rw[Yb (Yd b.length)]at hv;refine⟨_,⟨C,m,rfl,hC,hm,hv⟩,?_,?_⟩<;>simp -implicitDefEqProofs[l121_0,Zlb]
end
section
variable{T:Tbl}[Zq T][Zs T]
theorem zv7(P S b:List UInt32)(hS:b.length<S.length)(hl:P.length+S.length≤1000000) :
  ∃(D:Nat) (m:List UInt32),D≤1∧m.length=b.length+1∧val m+4294967296^(b.length+1)*D=val (S.take (b.length+1))+val b ∧
   Zbk T 121 [.bs (.bor 0) 0 1 0 (P.length+S.length),.i .i64 P.length,.sl (Zb b) .an] [(.bor 0,⟨0,.own,1,Zb (P++S)⟩)] =
    some (.tup [],[(.bor 0,⟨0,.own,1,Zb (P++(m++S.drop (b.length+1)))⟩)]):=by
 obtain⟨_,⟨C,m,rfl,hC,hm,hv⟩,hr⟩:=z3o (T:=T) P S b hS hl (0,0,[]) ⟨Yp _,Yp _,rfl,by simp⟩;unfold Zlb at hr;simp at hr;have hs:S[b.length]? = some (S[b.length]'hS):=Ya hS;have hls:=zal (S[b.length]'hS);have hg:=zdb (P:=P) hm hS;have hw2:IntKind.wrap .i64 ((P.length:Int)+b.length)=((P.length+b.length:Nat):Int):=zac _ (by omega);have hlt2:(P.length:Int)+b.length<(P.length:Int)+S.length:=by omega
 obtain⟨w,hwd⟩:∃w,w=((S[b.length]'hS).toNat+C)%4294967296:=⟨_,rfl⟩;have hwl:w<4294967296:=by omega
 have hset:=zcw (P:=P) (w32 w) hm hS;refine⟨((S[b.length]'hS).toNat+C)/4294967296,m++[w32 w],by omega,by grind,?_,?_⟩
 ·rw[zah,zaf hs,Y4,hm,zak,za5,Yan,Yx,zag hwl];have:=zna (y:=0) (w:=w) (v:=(S[b.length]'hS).toNat) (D':=((S[b.length]'hS).toNat+C)/4294967296) hv (by omega);omega
 ·rw[za3 Zs.h121 rfl,b121];simp -implicitDefEqProofs[hr,hw2,hlt2,hg,←hwd,hset,za9 _ _ _ hwl]
end
end Go.Ab
end
section
namespace Go.Ab
theorem zh7(q b1 b0:Nat):q*(b1*4294967296+b0)=q*b1*4294967296+q*b0:=by
 rw[Yao q,←Yad q]
theorem zk6{a2 a1 a0 b1 b0 q r:Nat}(h:q*b1+r=a2*4294967296+a1)(hle:q*b0≤r*4294967296+a0) :
  q*(b1*4294967296+b0)≤(a2*4294967296+a1)*4294967296+a0:=by
 refine Yc (Nat.le_of_eq (zh7 q b1 b0)) ?_;revert h hle;generalize q*b1=u;generalize q*b0=v;omega
theorem zy8{a2 a1 a0 b1 b0 q r:Nat}(h:q*b1+r=a2*4294967296+a1)(hgt:r*4294967296+a0<q*b0) :
  (a2*4294967296+a1)*4294967296+a0<q*(b1*4294967296+b0):=by
 refine Nat.lt_of_lt_of_eq ?_ (zh7 q b1 b0).symm;revert h hgt;generalize q*b1=u;generalize q*b0=v;omega
theorem zvl{q b0 r a0:Nat}(h0:a0<4294967296):(q*b0/4294967296<r∨q*b0/4294967296=r∧q*b0%4294967296≤a0)↔q*b0≤r*4294967296+a0:=by
 generalize q*b0=m;omega
end Go.Ab
end
section
namespace Go.Ab
section
variable{T:Tbl}[Zq T][Zz T][Zw T][Zs T]
def Zg8(a0 b1 b0:Nat)(y:Nat×Nat):St:=⟨[(2,u32 a0),(3,u32 b1),(4,u32 b0),(11,u32 y.1),(12,u32 y.2)],[],2⟩
end
section
variable{T:Tbl}[Zq T]
theorem zvm(a2 a1 a0 b1 b0 g:Nat)(h0:a0<4294967296)(hb1:b1<4294967296)(hb0:b0<4294967296)
  (F1:∀q,q<4294967296→g≤q→q*(b1*4294967296+b0)≤(a2*4294967296+a1)*4294967296+a0→q=g)
  (F2:∀q,(a2*4294967296+a1)*4294967296+a0<q*(b1*4294967296+b0)→g<q):∀y:Nat×Nat,
  (y.1<4294967296∧y.2<4294967296∧y.1*b1+y.2=a2*4294967296+a1∧g≤y.1) →
  ∃r,(r=(Ex.n,(⟨[(11,u32 g)],[],2⟩:St)))∧Zf T 0 0 (.norm false [11]) l119_0 (Zg8 a0 b1 b0 y)=some r:=by
 refine zas _ _ (fun y=>y.1) _ ?_
 rintro⟨q,r⟩ ⟨hq,hr,hv,hg⟩
 simp only at hq hr hv hg;have c1:=zia (T:=T) q b0 0 0 hq hb0 (by decide) (by decide);have c2:=zee (T:=T) r b1 0 hr hb1 (by decide);rw[Yx]at c1;rw[Yx]at c2;have hcmp:=zvl (q:=q) (b0:=b0) (r:=r) h0;obtain⟨hi,hhi⟩:∃hi,hi=q*b0/4294967296:=⟨_,rfl⟩;obtain⟨lo,hlo⟩:∃lo,lo=q*b0%4294967296:=⟨_,rfl⟩;rw[←hhi,←hlo]at c1 hcmp;have hlol:lo<4294967296:=by omega
 have hhil:hi<4294967296:=by
  have:=zgx hq hb0;omega
 by_cases hle:q*b0≤r*4294967296+a0
 ·right;have hqg:=F1 q hq hg (zk6 hv hle);subst hqg;have hc:=hcmp.2 hle;clear hhi hlo;rcases hc with hc | ⟨rfl,hc2⟩
  ·refine⟨_,rfl,?_,?_⟩<;>simp -implicitDefEqProofs[l119_0,Zg8,c1,hc]
  ·refine⟨_,rfl,?_,?_⟩<;>simp -implicitDefEqProofs[l119_0,Zg8,c1,hc2]
 ·have hgt:r*4294967296+a0<q*b0:=by omega
  have hlt:=F2 q (zy8 hv hgt);have hc:¬ (hi<r∨hi=r∧lo≤a0):=fun h=>hle (hcmp.1 h);have hq1:q-1<4294967296:=by omega
  have hs:Zgg q 1=q-1:=by unfold Zgg;omega
  have hqb:(q-1)*b1+(r+b1)=a2*4294967296+a1:=by
   have:q*b1=(q-1)*b1+b1:=by
    rw[←Yel];congr 1;omega
   omega
  by_cases hcar:4294967296≤r+b1
  ·right;have hmul:=zgx hq1 hb0;have hqg:=F1 (q-1) hq1 (by omega) (zk6 hqb (by
    generalize (q-1)*b0=v at *
    omega))
   have m2:0<(r+b1)/4294967296:=Yfa hcar (by decide);have m3:(r+b1)/4294967296<4294967296:=by omega
   have hr2:¬ hi<r:=fun h=>hc (.inl h);clear hhi hlo;refine⟨_,rfl,?_,?_⟩<;>by_cases he:hi=r
   ·have hc3:¬ lo≤a0:=fun h=>hc (.inr ⟨he,h⟩);subst he;simp -implicitDefEqProofs[l119_0,Zg8,c1,c2,hs,hc3,m2]
   ·simp -implicitDefEqProofs[l119_0,Zg8,c1,c2,hs,hr2,he,m2]
   ·have hc3:¬ lo≤a0:=fun h=>hc (.inr ⟨he,h⟩);subst he;simp -implicitDefEqProofs[l119_0,Zg8,c1,c2,hs,hc3,m2,hqg]
   ·simp -implicitDefEqProofs[l119_0,Zg8,c1,c2,hs,hr2,he,m2,hqg]
  ·left;refine⟨(q-1,r+b1),⟨hq1,by simp only;omega,hqb,by simp only;omega⟩,by simp only;omega,?_⟩;have m1:(r+b1)%4294967296=r+b1:=Yf (by omega);have m2:(r+b1)/4294967296=0:=Ybe (by omega);rw[m1,m2]at c2;have hr2:¬ hi<r:=fun h=>hc (.inl h);clear hhi hlo;by_cases he:hi=r
   ·have hc3:¬ lo≤a0:=fun h=>hc (.inr ⟨he,h⟩);subst he;simp -implicitDefEqProofs[l119_0,Zg8,c1,c2,hs,hc3]
   ·simp -implicitDefEqProofs[l119_0,Zg8,c1,c2,hs,hr2,he]
end
end Go.Ab
end